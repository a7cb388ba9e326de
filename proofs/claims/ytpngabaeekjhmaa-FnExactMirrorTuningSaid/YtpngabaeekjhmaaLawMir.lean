/-
  The law FnExactMirrorTuning, walked.
-/
import Derived.Test.YtpngabaeekjhmaaMirO
import Derived.Test.YtpngabaeekjhmaaMarkP
namespace Go.Proofs.Ytpngabaeekjhmaa
open Go.RowKit

theorem mirT_len (b d o e : Int) (ps : List (Int × Int)) : (mirT b d o e ps).1.2.2.2.2.length ≤ 24 := mirR_len _ _ _

set_option maxHeartbeats 2000000 in
theorem law_FnExactMirrorTuning (b0 d0 o0 e0 : Int) (a0 : Option Addr) (len0 cap0 : Nat) (ps0 : List (Int × Int)) (w : World) (hx0 : Pairs w (.slice a0 len0 cap0) ps0) (_ : InRP ps0) :
    Calls Try.prog 6 #[.agg #[.int .i64 b0, .int .i64 d0, .int .i64 o0, .int .i64 e0, .slice a0 len0 cap0]] w fun e w' => e = .returned (.bool true) ∧ Below w.heap.size w w' := by
  by_cases hs0 : szF ps0.length 1048576 < 0
  · have B0 : Below w.heap.size w w := Below.refl _ _
    have ohx_0 := hx0.obj
    have A1 : Below w.heap.size w (w.alloc (.cells #[.int .i64 b0, .int .i64 d0, .int .i64 o0, .int .i64 e0, .slice a0 len0 cap0] 26)) := (Below.refl _ _).alloc (Nat.le_refl _) _
    have loa : Hid (w.heap.size ≤ w.heap.size) := B0.size
    have B1 := B0.trans (A1.mono B0.size)
    have ohx_1 := ohx_0.below A1; clear ohx_0
    have oa_1 : Obj (w.heap.size) (w.heap.size + 1) (fun w' => Box w' (w.heap.size) [.int .i64 b0, .int .i64 d0, .int .i64 o0, .int .i64 e0, .slice a0 len0 cap0]) (w.alloc (.cells #[.int .i64 b0, .int .i64 d0, .int .i64 o0, .int .i64 e0, .slice a0 len0 cap0] 26)) := (Box.newAt _ _ _ (by rfl)).obj
    clear A1 B0
    go_enter Try.func6, Try.ntmps6
    have ca0 := oa_1.now.at 0 rfl
    have ca1 := oa_1.now.at 1 rfl
    have ca2 := oa_1.now.at 2 rfl
    have ca3 := oa_1.now.at 3 rfl
    have ca4 := oa_1.now.at 4 rfl
    go_wp2_with fail
    clear ca0 ca1 ca2 ca3 ca4
    refine (szTuning_any b0 d0 o0 e0 _ ps0 1048576 _ ohx_1.now (by omega)).mono ?_; rintro e w2 ⟨rfl, b2⟩
    have B2 := B1.trans (b2.mono B1.size)
    have ohx_2 := ohx_1.below b2; clear ohx_1
    have oa_2 := oa_1.below b2; clear oa_1
    clear b2 B1
    go_wp2_with fail
    go_ret
    exact ⟨rfl, B2⟩
  obtain ⟨q0, q1, q2, hq⟩ := szF_in hs0 (by omega)
  clear hq hs0
  obtain ⟨R, hR⟩ : ∃ R, R = mirT b0 d0 o0 e0 ps0 := ⟨_, rfl⟩
  have hl : R.1.2.2.2.2.length ≤ 24 := by rw [hR]; exact mirT_len _ _ _ _ _
  obtain ⟨⟨rb, rd, ro, re, rps⟩, rc⟩ := R
  simp only at hl
  have HR := Lib.hid hR; clear hR
  have B0 : Below w.heap.size w w := Below.refl _ _
  have ohx_0 := hx0.obj
  have A1 : Below w.heap.size w (w.alloc (.cells #[.int .i64 b0, .int .i64 d0, .int .i64 o0, .int .i64 e0, .slice a0 len0 cap0] 26)) := (Below.refl _ _).alloc (Nat.le_refl _) _
  have loa : Hid (w.heap.size ≤ w.heap.size) := B0.size
  have B1 := B0.trans (A1.mono B0.size)
  have ohx_1 := ohx_0.below A1; clear ohx_0
  have oa_1 : Obj (w.heap.size) (w.heap.size + 1) (fun w' => Box w' (w.heap.size) [.int .i64 b0, .int .i64 d0, .int .i64 o0, .int .i64 e0, .slice a0 len0 cap0]) (w.alloc (.cells #[.int .i64 b0, .int .i64 d0, .int .i64 o0, .int .i64 e0, .slice a0 len0 cap0] 26)) := (Box.newAt _ _ _ (by rfl)).obj
  clear A1 B0
  go_enter Try.func6, Try.ntmps6
  have ca0 := oa_1.now.at 0 rfl
  have ca1 := oa_1.now.at 1 rfl
  have ca2 := oa_1.now.at 2 rfl
  have ca3 := oa_1.now.at 3 rfl
  have ca4 := oa_1.now.at 4 rfl
  go_wp2_with fail
  clear ca0 ca1 ca2 ca3 ca4
  refine (szTuning_any b0 d0 o0 e0 _ ps0 1048576 _ ohx_1.now (by omega)).mono ?_; rintro e w2 ⟨rfl, b2⟩
  have B2 := B1.trans (b2.mono B1.size)
  have ohx_2 := ohx_1.below b2; clear ohx_1
  have oa_2 := oa_1.below b2; clear oa_1
  clear b2 B1
  have ca0 := oa_2.now.at 0 rfl
  have ca1 := oa_2.now.at 1 rfl
  have ca2 := oa_2.now.at 2 rfl
  have ca3 := oa_2.now.at 3 rfl
  have ca4 := oa_2.now.at 4 rfl
  go_wp2_with fail
  clear ca0 ca1 ca2 ca3 ca4
  refine (toTuning_any b0 d0 o0 e0 _ ps0 _ ohx_2.now q0).mono ?_; rintro e w3 ⟨v3, rfl, q3, b3⟩
  have apa_t : Hid (w.heap.size + 1 ≤ w2.heap.size) := oa_2.le
  have lot : Hid (w.heap.size ≤ w2.heap.size) := B2.size
  have B3 := B2.trans (b3.mono B2.size)
  have ohx_3 := ohx_2.below b3; clear ohx_2
  have oa_3 := oa_2.below b3; clear oa_2
  have ot_3 := q3.objR; clear q3
  clear b3 B2
  go_wp2_with fail
  refine (specMir_any b0 d0 o0 e0 _ ps0 _ _ ot_3.now.1).mono ?_; rintro e w4 ⟨v4, rfl, q4, b4⟩
  rw [← HR.out] at q4 ⊢; simp only at q4 ⊢; obtain ⟨x4, p4, rfl, _, _⟩ := q4.shape1
  have apa_w0 : Hid (w.heap.size + 1 ≤ w3.heap.size) := oa_3.le
  have apt_w0 : Hid (w3.heap.size ≤ w3.heap.size) := ot_3.le
  have low0 : Hid (w.heap.size ≤ w3.heap.size) := B3.size
  have B4 := B3.trans (b4.mono B3.size)
  have ohx_4 := ohx_3.below b4; clear ohx_3
  have oa_4 := oa_3.below b4; clear oa_3
  have ot_4 := ot_3.below b4; clear ot_3
  have ow0_4 := q4.objR; clear q4
  clear b4 B3
  have A5 : Below w4.heap.size w4 (w4.alloc (.cells #[.int .i64 rb, .int .i64 rd, .int .i64 ro, .int .i64 re, .slice x4 rps.length p4] 32)) := (Below.refl _ _).alloc (Nat.le_refl _) _
  have apa_w0b : Hid (w.heap.size + 1 ≤ w4.heap.size) := oa_4.le
  have apt_w0b : Hid (w3.heap.size ≤ w4.heap.size) := ot_4.le
  have apw0_w0b : Hid (w4.heap.size ≤ w4.heap.size) := ow0_4.le
  have low0b : Hid (w.heap.size ≤ w4.heap.size) := B4.size
  have B5 := B4.trans (A5.mono B4.size)
  have ohx_5 := ohx_4.below A5; clear ohx_4
  have oa_5 := oa_4.below A5; clear oa_4
  have ot_5 := ot_4.below A5; clear ot_4
  have ow0_5 := ow0_4.below A5; clear ow0_4
  have ow0b_5 : Obj (w4.heap.size) (w4.heap.size + 1) (fun w' => Box w' (w4.heap.size) [.int .i64 rb, .int .i64 rd, .int .i64 ro, .int .i64 re, .slice x4 rps.length p4]) (w4.alloc (.cells #[.int .i64 rb, .int .i64 rd, .int .i64 ro, .int .i64 re, .slice x4 rps.length p4] 32)) := (Box.newAt _ _ _ (by rfl)).obj
  clear A5 B4
  clear ot_5
  have ca0 := oa_5.now.at 0 rfl
  have ca1 := oa_5.now.at 1 rfl
  have ca2 := oa_5.now.at 2 rfl
  have ca3 := oa_5.now.at 3 rfl
  have ca4 := oa_5.now.at 4 rfl
  go_wp2_with fail
  clear ca0 ca1 ca2 ca3 ca4
  refine (toTuning_any b0 d0 o0 e0 _ ps0 _ ohx_5.now q0).mono ?_; rintro e w6 ⟨v6, rfl, q6, b6⟩
  obtain ⟨ax, cx, rfl, _, _⟩ := q6.shape1
  have apa_x0 : Hid (w.heap.size + 1 ≤ (w4.alloc (.cells #[.int .i64 rb, .int .i64 rd, .int .i64 ro, .int .i64 re, .slice x4 rps.length p4] 32)).heap.size) := oa_5.le
  have apw0_x0 : Hid (w4.heap.size ≤ (w4.alloc (.cells #[.int .i64 rb, .int .i64 rd, .int .i64 ro, .int .i64 re, .slice x4 rps.length p4] 32)).heap.size) := ow0_5.le
  have apw0b_x0 : Hid (w4.heap.size + 1 ≤ (w4.alloc (.cells #[.int .i64 rb, .int .i64 rd, .int .i64 ro, .int .i64 re, .slice x4 rps.length p4] 32)).heap.size) := ow0b_5.le
  have lox0 : Hid (w.heap.size ≤ (w4.alloc (.cells #[.int .i64 rb, .int .i64 rd, .int .i64 ro, .int .i64 re, .slice x4 rps.length p4] 32)).heap.size) := B5.size
  have B6 := B5.trans (b6.mono B5.size)
  have ohx_6 := ohx_5.below b6; clear ohx_5
  have oa_6 := oa_5.below b6; clear oa_5
  have ow0_6 := ow0_5.below b6; clear ow0_5
  have ow0b_6 := ow0b_5.below b6; clear ow0b_5
  have ox0_6 := q6.objR; clear q6
  clear b6 B5
  have A7 : Below w6.heap.size w6 (w6.alloc (.cells #[.int .i64 b0, .int .i64 d0, .int .i64 o0, .int .i64 e0, .slice ax ps0.length cx] 32)) := (Below.refl _ _).alloc (Nat.le_refl _) _
  have apa_x0b : Hid (w.heap.size + 1 ≤ w6.heap.size) := oa_6.le
  have apw0_x0b : Hid (w4.heap.size ≤ w6.heap.size) := ow0_6.le
  have apw0b_x0b : Hid (w4.heap.size + 1 ≤ w6.heap.size) := ow0b_6.le
  have apx0_x0b : Hid (w6.heap.size ≤ w6.heap.size) := ox0_6.le
  have lox0b : Hid (w.heap.size ≤ w6.heap.size) := B6.size
  have B7 := B6.trans (A7.mono B6.size)
  have ohx_7 := ohx_6.below A7; clear ohx_6
  have oa_7 := oa_6.below A7; clear oa_6
  have ow0_7 := ow0_6.below A7; clear ow0_6
  have ow0b_7 := ow0b_6.below A7; clear ow0b_6
  have ox0_7 := ox0_6.below A7; clear ox0_6
  have ox0b_7 : Obj (w6.heap.size) (w6.heap.size + 1) (fun w' => Box w' (w6.heap.size) [.int .i64 b0, .int .i64 d0, .int .i64 o0, .int .i64 e0, .slice ax ps0.length cx]) (w6.alloc (.cells #[.int .i64 b0, .int .i64 d0, .int .i64 o0, .int .i64 e0, .slice ax ps0.length cx] 32)) := (Box.newAt _ _ _ (by rfl)).obj
  clear A7 B6
  have cx0b0 := ox0b_7.now.at 0 rfl
  have cx0b1 := ox0b_7.now.at 1 rfl
  have cx0b2 := ox0b_7.now.at 2 rfl
  have cx0b3 := ox0b_7.now.at 3 rfl
  have cx0b4 := ox0b_7.now.at 4 rfl
  go_wp2_with fail
  clear cx0b0 cx0b1 cx0b2 cx0b3 cx0b4
  refine (implMir_any b0 d0 o0 e0 _ ps0 _ _ ox0_7.now.1).mono ?_; rintro e w8 ⟨v8, rfl, q8, b8⟩
  rw [← HR.out] at q8 ⊢; simp only at q8 ⊢; obtain ⟨x8, p8, rfl, _, _⟩ := q8.shape1
  have apa_g0 : Hid (w.heap.size + 1 ≤ (w6.alloc (.cells #[.int .i64 b0, .int .i64 d0, .int .i64 o0, .int .i64 e0, .slice ax ps0.length cx] 32)).heap.size) := oa_7.le
  have apw0_g0 : Hid (w4.heap.size ≤ (w6.alloc (.cells #[.int .i64 b0, .int .i64 d0, .int .i64 o0, .int .i64 e0, .slice ax ps0.length cx] 32)).heap.size) := ow0_7.le
  have apw0b_g0 : Hid (w4.heap.size + 1 ≤ (w6.alloc (.cells #[.int .i64 b0, .int .i64 d0, .int .i64 o0, .int .i64 e0, .slice ax ps0.length cx] 32)).heap.size) := ow0b_7.le
  have apx0_g0 : Hid (w6.heap.size ≤ (w6.alloc (.cells #[.int .i64 b0, .int .i64 d0, .int .i64 o0, .int .i64 e0, .slice ax ps0.length cx] 32)).heap.size) := ox0_7.le
  have apx0b_g0 : Hid (w6.heap.size + 1 ≤ (w6.alloc (.cells #[.int .i64 b0, .int .i64 d0, .int .i64 o0, .int .i64 e0, .slice ax ps0.length cx] 32)).heap.size) := ox0b_7.le
  have log0 : Hid (w.heap.size ≤ (w6.alloc (.cells #[.int .i64 b0, .int .i64 d0, .int .i64 o0, .int .i64 e0, .slice ax ps0.length cx] 32)).heap.size) := B7.size
  have B8 := B7.trans (b8.mono B7.size)
  have ohx_8 := ohx_7.below b8; clear ohx_7
  have oa_8 := oa_7.below b8; clear oa_7
  have ow0_8 := ow0_7.below b8; clear ow0_7
  have ow0b_8 := ow0b_7.below b8; clear ow0b_7
  have ox0_8 := ox0_7.below b8; clear ox0_7
  have ox0b_8 := ox0b_7.below b8; clear ox0b_7
  have og0_8 := q8.objR; clear q8
  clear b8 B7
  have A9 : Below w8.heap.size w8 (w8.alloc (.cells #[.int .i64 rb, .int .i64 rd, .int .i64 ro, .int .i64 re, .slice x8 rps.length p8] 32)) := (Below.refl _ _).alloc (Nat.le_refl _) _
  have apa_g0b : Hid (w.heap.size + 1 ≤ w8.heap.size) := oa_8.le
  have apw0_g0b : Hid (w4.heap.size ≤ w8.heap.size) := ow0_8.le
  have apw0b_g0b : Hid (w4.heap.size + 1 ≤ w8.heap.size) := ow0b_8.le
  have apx0_g0b : Hid (w6.heap.size ≤ w8.heap.size) := ox0_8.le
  have apx0b_g0b : Hid (w6.heap.size + 1 ≤ w8.heap.size) := ox0b_8.le
  have apg0_g0b : Hid (w8.heap.size ≤ w8.heap.size) := og0_8.le
  have log0b : Hid (w.heap.size ≤ w8.heap.size) := B8.size
  have B9 := B8.trans (A9.mono B8.size)
  have ohx_9 := ohx_8.below A9; clear ohx_8
  have oa_9 := oa_8.below A9; clear oa_8
  have ow0_9 := ow0_8.below A9; clear ow0_8
  have ow0b_9 := ow0b_8.below A9; clear ow0b_8
  have ox0_9 := ox0_8.below A9; clear ox0_8
  have ox0b_9 := ox0b_8.below A9; clear ox0b_8
  have og0_9 := og0_8.below A9; clear og0_8
  have og0b_9 : Obj (w8.heap.size) (w8.heap.size + 1) (fun w' => Box w' (w8.heap.size) [.int .i64 rb, .int .i64 rd, .int .i64 ro, .int .i64 re, .slice x8 rps.length p8]) (w8.alloc (.cells #[.int .i64 rb, .int .i64 rd, .int .i64 ro, .int .i64 re, .slice x8 rps.length p8] 32)) := (Box.newAt _ _ _ (by rfl)).obj
  clear A9 B8
  have cg0b0 := og0b_9.now.at 0 rfl
  have cg0b1 := og0b_9.now.at 1 rfl
  have cg0b2 := og0b_9.now.at 2 rfl
  have cg0b3 := og0b_9.now.at 3 rfl
  have cg0b4 := og0b_9.now.at 4 rfl
  have cw0b0 := ow0b_9.now.at 0 rfl
  have cw0b1 := ow0b_9.now.at 1 rfl
  have cw0b2 := ow0b_9.now.at 2 rfl
  have cw0b3 := ow0b_9.now.at 3 rfl
  have cw0b4 := ow0b_9.now.at 4 rfl
  go_wp2_with fail
  clear cg0b0 cg0b1 cg0b2 cg0b3 cg0b4 cw0b0 cw0b1 cw0b2 cw0b3 cw0b4
  refine (eqTuning_same rb rd ro re _ _ rps _ og0_9.now.read ow0_9.now.read).mono ?_; rintro e w10 ⟨rfl, b10⟩
  have B10 := B9.trans (b10.mono B9.size)
  have ohx_10 := ohx_9.below b10; clear ohx_9
  have oa_10 := oa_9.below b10; clear oa_9
  have ow0_10 := ow0_9.below b10; clear ow0_9
  have ow0b_10 := ow0b_9.below b10; clear ow0b_9
  have ox0_10 := ox0_9.below b10; clear ox0_9
  have ox0b_10 := ox0b_9.below b10; clear ox0b_9
  have og0_10 := og0_9.below b10; clear og0_9
  have og0b_10 := og0b_9.below b10; clear og0b_9
  clear b10 B9
  go_wp2
  have cx0b0 := ox0b_10.now.at 0 rfl
  have cx0b1 := ox0b_10.now.at 1 rfl
  have cx0b2 := ox0b_10.now.at 2 rfl
  have cx0b3 := ox0b_10.now.at 3 rfl
  have cx0b4 := ox0b_10.now.at 4 rfl
  have ca0 := oa_10.now.at 0 rfl
  have ca1 := oa_10.now.at 1 rfl
  have ca2 := oa_10.now.at 2 rfl
  have ca3 := oa_10.now.at 3 rfl
  have ca4 := oa_10.now.at 4 rfl
  have K11 : ∀ w', Below w10.heap.size w10 w' → (w'.cell? ⟨w6.heap.size, 0, none⟩ = some (.int .i64 b0) ∧ w'.cell? ⟨w6.heap.size, 1, none⟩ = some (.int .i64 d0) ∧ w'.cell? ⟨w6.heap.size, 2, none⟩ = some (.int .i64 o0) ∧ w'.cell? ⟨w6.heap.size, 3, none⟩ = some (.int .i64 e0) ∧ w'.cell? ⟨w6.heap.size, 4, none⟩ = some (.slice ax ps0.length cx) ∧ w'.cell? ⟨w.heap.size, 0, none⟩ = some (.int .i64 b0) ∧ w'.cell? ⟨w.heap.size, 1, none⟩ = some (.int .i64 d0) ∧ w'.cell? ⟨w.heap.size, 2, none⟩ = some (.int .i64 o0) ∧ w'.cell? ⟨w.heap.size, 3, none⟩ = some (.int .i64 e0) ∧ w'.cell? ⟨w.heap.size, 4, none⟩ = some (.slice a0 len0 cap0)) := fun w' b' => ⟨(ox0b_10.below b').now.at 0 rfl, (ox0b_10.below b').now.at 1 rfl, (ox0b_10.below b').now.at 2 rfl, (ox0b_10.below b').now.at 3 rfl, (ox0b_10.below b').now.at 4 rfl, (oa_10.below b').now.at 0 rfl, (oa_10.below b').now.at 1 rfl, (oa_10.below b').now.at 2 rfl, (oa_10.below b').now.at 3 rfl, (oa_10.below b').now.at 4 rfl⟩
  have HK11 := Lib.hid K11; clear K11
  have l11 : Below w10.heap.size w10 w10.drew := (Below.refl _ _).drew
  have t11 := HK11.out _ l11
  have T11 := Lib.hid t11; clear t11
  go_region_held3 (fun w' => w'.cell? ⟨w6.heap.size, 0, none⟩ = some (.int .i64 b0) ∧ w'.cell? ⟨w6.heap.size, 1, none⟩ = some (.int .i64 d0) ∧ w'.cell? ⟨w6.heap.size, 2, none⟩ = some (.int .i64 o0) ∧ w'.cell? ⟨w6.heap.size, 3, none⟩ = some (.int .i64 e0) ∧ w'.cell? ⟨w6.heap.size, 4, none⟩ = some (.slice ax ps0.length cx) ∧ w'.cell? ⟨w.heap.size, 0, none⟩ = some (.int .i64 b0) ∧ w'.cell? ⟨w.heap.size, 1, none⟩ = some (.int .i64 d0) ∧ w'.cell? ⟨w.heap.size, 2, none⟩ = some (.int .i64 o0) ∧ w'.cell? ⟨w.heap.size, 3, none⟩ = some (.int .i64 e0) ∧ w'.cell? ⟨w.heap.size, 4, none⟩ = some (.slice a0 len0 cap0)) (first | exact T11.out | exact t12 | exact t13) (first | (go_at_call 9; (with_reducible refine (toTuning_any b0 d0 o0 e0 _ ps0 _ (ohx_10.below l11).now q0).mono ?_); rintro e w12 ⟨v12, rfl, q12, b12⟩; have l12 := Below.trans l11 (b12.mono (Below.size l11)); have t12 := HK11.out _ l12) | (go_at_call 11; (with_reducible refine (eqTuning_same b0 d0 o0 e0 _ _ ps0 _ (ox0_10.below l12).now.read q12.objR.now.read).mono ?_); rintro e w13 ⟨rfl, b13⟩; have l13 := Below.trans l12 (b13.mono (Below.size l12)); have t13 := HK11.out _ l13))
  clear T11 HK11 t12 t13 cx0b0 cx0b1 cx0b2 cx0b3 cx0b4 ca0 ca1 ca2 ca3 ca4
  have B13 := B10.trans (l13.mono B10.size)
  have ohx_13 := ohx_10.below l13; clear ohx_10
  have oa_13 := oa_10.below l13; clear oa_10
  have ow0_13 := ow0_10.below l13; clear ow0_10
  have ow0b_13 := ow0b_10.below l13; clear ow0b_10
  have ox0_13 := ox0_10.below l13; clear ox0_10
  have ox0b_13 := ox0b_10.below l13; clear ox0b_10
  have og0_13 := og0_10.below l13; clear og0_10
  have og0b_13 := og0b_10.below l13; clear og0b_10
  clear q12
  clear b12 b13 l11 l12 l13 B10
  have cx0b0 := ox0b_13.now.at 0 rfl
  have cx0b1 := ox0b_13.now.at 1 rfl
  have cx0b2 := ox0b_13.now.at 2 rfl
  have cx0b3 := ox0b_13.now.at 3 rfl
  have cx0b4 := ox0b_13.now.at 4 rfl
  go_wp2_with fail
  clear cx0b0 cx0b1 cx0b2 cx0b3 cx0b4
  refine (markTuning_obj b0 d0 o0 e0 _ ps0 _ _ 1 _ ox0_13 (by omega) (by omega)).mono ?_; rintro e w14 ⟨rfl, mx0_14, g14⟩
  have B14 := below_chg B13 g14 lox0.out
  have ohx_14 := ohx_13.chg g14 (.inl lox0.out); clear ohx_13
  have oa_14 := oa_13.chg g14 (.inl apa_x0.out); clear oa_13
  have ow0_14 := ow0_13.chg g14 (.inl apw0_x0.out); clear ow0_13
  have ow0b_14 := ow0b_13.chg g14 (.inl apw0b_x0.out); clear ow0b_13
  have ox0b_14 := ox0b_13.chg g14 (.inr apx0_x0b.out); clear ox0b_13
  have og0_14 := og0_13.chg g14 (.inr apx0_g0.out); clear og0_13
  have og0b_14 := og0b_13.chg g14 (.inr apx0_g0b.out); clear og0b_13
  clear ox0_13 g14 B13
  clear mx0_14
  clear ox0b_14
  have cg0b0 := og0b_14.now.at 0 rfl
  have cg0b1 := og0b_14.now.at 1 rfl
  have cg0b2 := og0b_14.now.at 2 rfl
  have cg0b3 := og0b_14.now.at 3 rfl
  have cg0b4 := og0b_14.now.at 4 rfl
  have cw0b0 := ow0b_14.now.at 0 rfl
  have cw0b1 := ow0b_14.now.at 1 rfl
  have cw0b2 := ow0b_14.now.at 2 rfl
  have cw0b3 := ow0b_14.now.at 3 rfl
  have cw0b4 := ow0b_14.now.at 4 rfl
  go_wp2_with fail
  clear cg0b0 cg0b1 cg0b2 cg0b3 cg0b4 cw0b0 cw0b1 cw0b2 cw0b3 cw0b4
  refine (eqTuning_same rb rd ro re _ _ rps _ og0_14.now.read ow0_14.now.read).mono ?_; rintro e w15 ⟨rfl, b15⟩
  have B15 := B14.trans (b15.mono B14.size)
  have ohx_15 := ohx_14.below b15; clear ohx_14
  have oa_15 := oa_14.below b15; clear oa_14
  have ow0_15 := ow0_14.below b15; clear ow0_14
  have ow0b_15 := ow0b_14.below b15; clear ow0b_14
  have og0_15 := og0_14.below b15; clear og0_14
  have og0b_15 := og0b_14.below b15; clear og0b_14
  clear b15 B14
  have cg0b0 := og0b_15.now.at 0 rfl
  have cg0b1 := og0b_15.now.at 1 rfl
  have cg0b2 := og0b_15.now.at 2 rfl
  have cg0b3 := og0b_15.now.at 3 rfl
  have cg0b4 := og0b_15.now.at 4 rfl
  go_wp2_with fail
  clear cg0b0 cg0b1 cg0b2 cg0b3 cg0b4
  refine (markTuning_obj rb rd ro re _ rps _ _ 1 _ og0_15 (by omega) (by omega)).mono ?_; rintro e w16 ⟨rfl, mg0_16, g16⟩
  have B16 := below_chg B15 g16 log0.out
  have ohx_16 := ohx_15.chg g16 (.inl log0.out); clear ohx_15
  have oa_16 := oa_15.chg g16 (.inl apa_g0.out); clear oa_15
  have ow0_16 := ow0_15.chg g16 (.inl apw0_g0.out); clear ow0_15
  have ow0b_16 := ow0b_15.chg g16 (.inl apw0b_g0.out); clear ow0b_15
  have og0b_16 := og0b_15.chg g16 (.inr apg0_g0b.out); clear og0b_15
  clear og0_15 g16 B15
  have cg0b0 := og0b_16.now.at 0 rfl
  have cg0b1 := og0b_16.now.at 1 rfl
  have cg0b2 := og0b_16.now.at 2 rfl
  have cg0b3 := og0b_16.now.at 3 rfl
  have cg0b4 := og0b_16.now.at 4 rfl
  go_wp2_with fail
  clear cg0b0 cg0b1 cg0b2 cg0b3 cg0b4
  refine (heldTuning_any rb rd ro re _ rps.length 1 _ mg0_16.now.read (by omega) (by omega)).mono ?_; rintro e w17 ⟨rfl, b17⟩
  have B17 := B16.trans (b17.mono B16.size)
  have ohx_17 := ohx_16.below b17; clear ohx_16
  have oa_17 := oa_16.below b17; clear oa_16
  have ow0_17 := ow0_16.below b17; clear ow0_16
  have ow0b_17 := ow0b_16.below b17; clear ow0b_16
  have og0_17 := mg0_16.below b17; clear mg0_16
  have og0b_17 := og0b_16.below b17; clear og0b_16
  clear b17 B16
  have ca0 := oa_17.now.at 0 rfl
  have ca1 := oa_17.now.at 1 rfl
  have ca2 := oa_17.now.at 2 rfl
  have ca3 := oa_17.now.at 3 rfl
  have ca4 := oa_17.now.at 4 rfl
  go_wp2_with fail
  clear ca0 ca1 ca2 ca3 ca4
  refine (toTuning_any b0 d0 o0 e0 _ ps0 _ ohx_17.now q0).mono ?_; rintro e w18 ⟨v18, rfl, q18, b18⟩
  have apa_t : Hid (w.heap.size + 1 ≤ w17.heap.size) := oa_17.le
  have apw0_t : Hid (w4.heap.size ≤ w17.heap.size) := ow0_17.le
  have apw0b_t : Hid (w4.heap.size + 1 ≤ w17.heap.size) := ow0b_17.le
  have apg0_t : Hid (w8.heap.size ≤ w17.heap.size) := og0_17.le
  have apg0b_t : Hid (w8.heap.size + 1 ≤ w17.heap.size) := og0b_17.le
  have lot : Hid (w.heap.size ≤ w17.heap.size) := B17.size
  have B18 := B17.trans (b18.mono B17.size)
  have ohx_18 := ohx_17.below b18; clear ohx_17
  have oa_18 := oa_17.below b18; clear oa_17
  have ow0_18 := ow0_17.below b18; clear ow0_17
  have ow0b_18 := ow0b_17.below b18; clear ow0b_17
  have og0_18 := og0_17.below b18; clear og0_17
  have og0b_18 := og0b_17.below b18; clear og0b_17
  have ot_18 := q18.objR; clear q18
  clear b18 B17
  go_wp2_with fail
  refine (implMir_any b0 d0 o0 e0 _ ps0 _ _ ot_18.now.1).mono ?_; rintro e w19 ⟨v19, rfl, q19, b19⟩
  rw [← HR.out] at q19 ⊢; simp only at q19 ⊢; obtain ⟨x19, p19, rfl, _, _⟩ := q19.shape1
  have apa_h0 : Hid (w.heap.size + 1 ≤ w18.heap.size) := oa_18.le
  have apw0_h0 : Hid (w4.heap.size ≤ w18.heap.size) := ow0_18.le
  have apw0b_h0 : Hid (w4.heap.size + 1 ≤ w18.heap.size) := ow0b_18.le
  have apg0_h0 : Hid (w8.heap.size ≤ w18.heap.size) := og0_18.le
  have apg0b_h0 : Hid (w8.heap.size + 1 ≤ w18.heap.size) := og0b_18.le
  have apt_h0 : Hid (w18.heap.size ≤ w18.heap.size) := ot_18.le
  have loh0 : Hid (w.heap.size ≤ w18.heap.size) := B18.size
  have B19 := B18.trans (b19.mono B18.size)
  have ohx_19 := ohx_18.below b19; clear ohx_18
  have oa_19 := oa_18.below b19; clear oa_18
  have ow0_19 := ow0_18.below b19; clear ow0_18
  have ow0b_19 := ow0b_18.below b19; clear ow0b_18
  have og0_19 := og0_18.below b19; clear og0_18
  have og0b_19 := og0b_18.below b19; clear og0b_18
  have ot_19 := ot_18.below b19; clear ot_18
  have oh0_19 := q19.objR; clear q19
  clear b19 B18
  have A20 : Below w19.heap.size w19 (w19.alloc (.cells #[.int .i64 rb, .int .i64 rd, .int .i64 ro, .int .i64 re, .slice x19 rps.length p19] 32)) := (Below.refl _ _).alloc (Nat.le_refl _) _
  have apa_h0b : Hid (w.heap.size + 1 ≤ w19.heap.size) := oa_19.le
  have apw0_h0b : Hid (w4.heap.size ≤ w19.heap.size) := ow0_19.le
  have apw0b_h0b : Hid (w4.heap.size + 1 ≤ w19.heap.size) := ow0b_19.le
  have apg0_h0b : Hid (w8.heap.size ≤ w19.heap.size) := og0_19.le
  have apg0b_h0b : Hid (w8.heap.size + 1 ≤ w19.heap.size) := og0b_19.le
  have apt_h0b : Hid (w18.heap.size ≤ w19.heap.size) := ot_19.le
  have aph0_h0b : Hid (w19.heap.size ≤ w19.heap.size) := oh0_19.le
  have loh0b : Hid (w.heap.size ≤ w19.heap.size) := B19.size
  have B20 := B19.trans (A20.mono B19.size)
  have ohx_20 := ohx_19.below A20; clear ohx_19
  have oa_20 := oa_19.below A20; clear oa_19
  have ow0_20 := ow0_19.below A20; clear ow0_19
  have ow0b_20 := ow0b_19.below A20; clear ow0b_19
  have og0_20 := og0_19.below A20; clear og0_19
  have og0b_20 := og0b_19.below A20; clear og0b_19
  have ot_20 := ot_19.below A20; clear ot_19
  have oh0_20 := oh0_19.below A20; clear oh0_19
  have oh0b_20 : Obj (w19.heap.size) (w19.heap.size + 1) (fun w' => Box w' (w19.heap.size) [.int .i64 rb, .int .i64 rd, .int .i64 ro, .int .i64 re, .slice x19 rps.length p19]) (w19.alloc (.cells #[.int .i64 rb, .int .i64 rd, .int .i64 ro, .int .i64 re, .slice x19 rps.length p19] 32)) := (Box.newAt _ _ _ (by rfl)).obj
  clear A20 B19
  clear ot_20
  have ch0b0 := oh0b_20.now.at 0 rfl
  have ch0b1 := oh0b_20.now.at 1 rfl
  have ch0b2 := oh0b_20.now.at 2 rfl
  have ch0b3 := oh0b_20.now.at 3 rfl
  have ch0b4 := oh0b_20.now.at 4 rfl
  have cw0b0 := ow0b_20.now.at 0 rfl
  have cw0b1 := ow0b_20.now.at 1 rfl
  have cw0b2 := ow0b_20.now.at 2 rfl
  have cw0b3 := ow0b_20.now.at 3 rfl
  have cw0b4 := ow0b_20.now.at 4 rfl
  go_wp2_with fail
  clear ch0b0 ch0b1 ch0b2 ch0b3 ch0b4 cw0b0 cw0b1 cw0b2 cw0b3 cw0b4
  refine (eqTuning_same rb rd ro re _ _ rps _ oh0_20.now.read ow0_20.now.read).mono ?_; rintro e w21 ⟨rfl, b21⟩
  have B21 := B20.trans (b21.mono B20.size)
  have ohx_21 := ohx_20.below b21; clear ohx_20
  have oa_21 := oa_20.below b21; clear oa_20
  have ow0_21 := ow0_20.below b21; clear ow0_20
  have ow0b_21 := ow0b_20.below b21; clear ow0b_20
  have og0_21 := og0_20.below b21; clear og0_20
  have og0b_21 := og0b_20.below b21; clear og0b_20
  have oh0_21 := oh0_20.below b21; clear oh0_20
  have oh0b_21 := oh0b_20.below b21; clear oh0b_20
  clear b21 B20
  clear oh0_21
  clear oh0b_21
  clear ow0_21
  clear ow0b_21
  have cg0b0 := og0b_21.now.at 0 rfl
  have cg0b1 := og0b_21.now.at 1 rfl
  have cg0b2 := og0b_21.now.at 2 rfl
  have cg0b3 := og0b_21.now.at 3 rfl
  have cg0b4 := og0b_21.now.at 4 rfl
  go_wp2_with fail
  clear cg0b0 cg0b1 cg0b2 cg0b3 cg0b4
  refine (heldTuning_any rb rd ro re _ rps.length 1 _ og0_21.now.read (by omega) (by omega)).mono ?_; rintro e w22 ⟨rfl, b22⟩
  have B22 := B21.trans (b22.mono B21.size)
  have ohx_22 := ohx_21.below b22; clear ohx_21
  have oa_22 := oa_21.below b22; clear oa_21
  have og0_22 := og0_21.below b22; clear og0_21
  have og0b_22 := og0b_21.below b22; clear og0b_21
  clear b22 B21
  go_wp2_with fail
  go_ret
  exact ⟨rfl, B22⟩


end Go.Proofs.Ytpngabaeekjhmaa
