/-
  The law FnExactFrequencyOfKey, walked.
-/
import Derived.Test.YtpngabaeekjhmaaFok
import Derived.Test.YtpngabaeekjhmaaMarkP
namespace Go.Proofs.Ytpngabaeekjhmaa
open Go.RowKit

set_option maxHeartbeats 2000000 in
theorem law_FnExactFrequencyOfKey (b0 d0 o0 e0 : Int) (a0 : Option Addr) (len0 cap0 : Nat) (ps0 : List (Int × Int)) (t1 : Int) (w : World) (hx0 : Pairs w (.slice a0 len0 cap0) ps0) (_ : InRP ps0) (_ : (Lit.int .i64 t1).wf = true) :
    Calls Try.prog 5 #[.agg #[.int .i64 b0, .int .i64 d0, .int .i64 o0, .int .i64 e0, .slice a0 len0 cap0], .int .i64 t1] w fun e w' => e = .returned (.bool true) ∧ Below w.heap.size w w' := by
  by_cases hs0 : szF ps0.length 1048576 < 0
  · have B0 : Below w.heap.size w w := Below.refl _ _
    have ohx_0 := hx0.obj
    have A1 : Below w.heap.size w (w.alloc (.cells #[.int .i64 b0, .int .i64 d0, .int .i64 o0, .int .i64 e0, .slice a0 len0 cap0] 26)) := (Below.refl _ _).alloc (Nat.le_refl _) _
    have loa : Hid (w.heap.size ≤ w.heap.size) := B0.size
    have B1 := B0.trans (A1.mono B0.size)
    have ohx_1 := ohx_0.below A1; clear ohx_0
    have oa_1 : Obj (w.heap.size) (w.heap.size + 1) (fun w' => Box w' (w.heap.size) [.int .i64 b0, .int .i64 d0, .int .i64 o0, .int .i64 e0, .slice a0 len0 cap0]) (w.alloc (.cells #[.int .i64 b0, .int .i64 d0, .int .i64 o0, .int .i64 e0, .slice a0 len0 cap0] 26)) := (Box.newAt _ _ _ (by rfl)).obj
    clear A1 B0
    go_enter Try.func5, Try.ntmps5
    have ca0 := oa_1.now.at 0 rfl
    have ca1 := oa_1.now.at 1 rfl
    have ca2 := oa_1.now.at 2 rfl
    have ca3 := oa_1.now.at 3 rfl
    have ca4 := oa_1.now.at 4 rfl
    go_wp2_with fail
    clear ca0 ca1 ca2 ca3 ca4
    refine (szTuning_any b0 d0 o0 e0 _ ps0 1048576 _ ohx_1.now (by omega)).mono ?_; rintro e w2 ⟨rfl, b2⟩
    have B2 := B1.trans (b2.mono B1.size)
    have ohx_2 := ohx_1.below b2; clear ohx_1
    have oa_2 := oa_1.below b2; clear oa_1
    clear b2 B1
    go_wp2_with fail
    go_ret
    exact ⟨rfl, B2⟩
  obtain ⟨q0, q1, q2, hq⟩ := szF_in hs0 (by omega)
  clear hq hs0
  obtain ⟨R, hR⟩ : ∃ R, R = fokR b0 d0 (o0, e0) ps0 t1 := ⟨_, rfl⟩
  obtain ⟨⟨rn, rd⟩, rc⟩ := R
  have HR := Lib.hid hR; clear hR
  have B0 : Below w.heap.size w w := Below.refl _ _
  have ohx_0 := hx0.obj
  have A1 : Below w.heap.size w (w.alloc (.cells #[.int .i64 b0, .int .i64 d0, .int .i64 o0, .int .i64 e0, .slice a0 len0 cap0] 26)) := (Below.refl _ _).alloc (Nat.le_refl _) _
  have loa : Hid (w.heap.size ≤ w.heap.size) := B0.size
  have B1 := B0.trans (A1.mono B0.size)
  have ohx_1 := ohx_0.below A1; clear ohx_0
  have oa_1 : Obj (w.heap.size) (w.heap.size + 1) (fun w' => Box w' (w.heap.size) [.int .i64 b0, .int .i64 d0, .int .i64 o0, .int .i64 e0, .slice a0 len0 cap0]) (w.alloc (.cells #[.int .i64 b0, .int .i64 d0, .int .i64 o0, .int .i64 e0, .slice a0 len0 cap0] 26)) := (Box.newAt _ _ _ (by rfl)).obj
  clear A1 B0
  go_enter Try.func5, Try.ntmps5
  have ca0 := oa_1.now.at 0 rfl
  have ca1 := oa_1.now.at 1 rfl
  have ca2 := oa_1.now.at 2 rfl
  have ca3 := oa_1.now.at 3 rfl
  have ca4 := oa_1.now.at 4 rfl
  go_wp2_with fail
  clear ca0 ca1 ca2 ca3 ca4
  refine (szTuning_any b0 d0 o0 e0 _ ps0 1048576 _ ohx_1.now (by omega)).mono ?_; rintro e w2 ⟨rfl, b2⟩
  have B2 := B1.trans (b2.mono B1.size)
  have ohx_2 := ohx_1.below b2; clear ohx_1
  have oa_2 := oa_1.below b2; clear oa_1
  clear b2 B1
  have ca0 := oa_2.now.at 0 rfl
  have ca1 := oa_2.now.at 1 rfl
  have ca2 := oa_2.now.at 2 rfl
  have ca3 := oa_2.now.at 3 rfl
  have ca4 := oa_2.now.at 4 rfl
  go_wp2_with fail
  clear ca0 ca1 ca2 ca3 ca4
  refine (toTuning_any b0 d0 o0 e0 _ ps0 _ ohx_2.now q0).mono ?_; rintro e w3 ⟨v3, rfl, q3, b3⟩
  have apa_t : Hid (w.heap.size + 1 ≤ w2.heap.size) := oa_2.le
  have lot : Hid (w.heap.size ≤ w2.heap.size) := B2.size
  have B3 := B2.trans (b3.mono B2.size)
  have ohx_3 := ohx_2.below b3; clear ohx_2
  have oa_3 := oa_2.below b3; clear oa_2
  have ot_3 := q3.objR; clear q3
  clear b3 B2
  go_wp2_with fail
  refine (specFok_any b0 d0 o0 e0 _ ps0 t1 _ _ ot_3.now.1).mono ?_; rintro e w4 ⟨rfl, b4⟩
  rw [← HR.out]; simp only
  have B4 := B3.trans (b4.mono B3.size)
  have ohx_4 := ohx_3.below b4; clear ohx_3
  have oa_4 := oa_3.below b4; clear oa_3
  have ot_4 := ot_3.below b4; clear ot_3
  clear b4 B3
  have A5 : Below w4.heap.size w4 (w4.alloc (.cells #[.int .i64 rn, .int .i64 rd] 29)) := (Below.refl _ _).alloc (Nat.le_refl _) _
  have apa_w0 : Hid (w.heap.size + 1 ≤ w4.heap.size) := oa_4.le
  have apt_w0 : Hid (w3.heap.size ≤ w4.heap.size) := ot_4.le
  have low0 : Hid (w.heap.size ≤ w4.heap.size) := B4.size
  have B5 := B4.trans (A5.mono B4.size)
  have ohx_5 := ohx_4.below A5; clear ohx_4
  have oa_5 := oa_4.below A5; clear oa_4
  have ot_5 := ot_4.below A5; clear ot_4
  have ow0_5 : Obj (w4.heap.size) (w4.heap.size + 1) (fun w' => Box w' (w4.heap.size) [.int .i64 rn, .int .i64 rd]) (w4.alloc (.cells #[.int .i64 rn, .int .i64 rd] 29)) := (Box.newAt _ _ _ (by rfl)).obj
  clear A5 B4
  clear ot_5
  have ca0 := oa_5.now.at 0 rfl
  have ca1 := oa_5.now.at 1 rfl
  have ca2 := oa_5.now.at 2 rfl
  have ca3 := oa_5.now.at 3 rfl
  have ca4 := oa_5.now.at 4 rfl
  go_wp2_with fail
  clear ca0 ca1 ca2 ca3 ca4
  refine (toTuning_any b0 d0 o0 e0 _ ps0 _ ohx_5.now q0).mono ?_; rintro e w6 ⟨v6, rfl, q6, b6⟩
  obtain ⟨ax, cx, rfl, _, _⟩ := q6.shape1
  have apa_x0 : Hid (w.heap.size + 1 ≤ (w4.alloc (.cells #[.int .i64 rn, .int .i64 rd] 29)).heap.size) := oa_5.le
  have apw0_x0 : Hid (w4.heap.size + 1 ≤ (w4.alloc (.cells #[.int .i64 rn, .int .i64 rd] 29)).heap.size) := ow0_5.le
  have lox0 : Hid (w.heap.size ≤ (w4.alloc (.cells #[.int .i64 rn, .int .i64 rd] 29)).heap.size) := B5.size
  have B6 := B5.trans (b6.mono B5.size)
  have ohx_6 := ohx_5.below b6; clear ohx_5
  have oa_6 := oa_5.below b6; clear oa_5
  have ow0_6 := ow0_5.below b6; clear ow0_5
  have ox0_6 := q6.objR; clear q6
  clear b6 B5
  have A7 : Below w6.heap.size w6 (w6.alloc (.cells #[.int .i64 b0, .int .i64 d0, .int .i64 o0, .int .i64 e0, .slice ax ps0.length cx] 32)) := (Below.refl _ _).alloc (Nat.le_refl _) _
  have apa_x0b : Hid (w.heap.size + 1 ≤ w6.heap.size) := oa_6.le
  have apw0_x0b : Hid (w4.heap.size + 1 ≤ w6.heap.size) := ow0_6.le
  have apx0_x0b : Hid (w6.heap.size ≤ w6.heap.size) := ox0_6.le
  have lox0b : Hid (w.heap.size ≤ w6.heap.size) := B6.size
  have B7 := B6.trans (A7.mono B6.size)
  have ohx_7 := ohx_6.below A7; clear ohx_6
  have oa_7 := oa_6.below A7; clear oa_6
  have ow0_7 := ow0_6.below A7; clear ow0_6
  have ox0_7 := ox0_6.below A7; clear ox0_6
  have ox0b_7 : Obj (w6.heap.size) (w6.heap.size + 1) (fun w' => Box w' (w6.heap.size) [.int .i64 b0, .int .i64 d0, .int .i64 o0, .int .i64 e0, .slice ax ps0.length cx]) (w6.alloc (.cells #[.int .i64 b0, .int .i64 d0, .int .i64 o0, .int .i64 e0, .slice ax ps0.length cx] 32)) := (Box.newAt _ _ _ (by rfl)).obj
  clear A7 B6
  have cx0b0 := ox0b_7.now.at 0 rfl
  have cx0b1 := ox0b_7.now.at 1 rfl
  have cx0b2 := ox0b_7.now.at 2 rfl
  have cx0b3 := ox0b_7.now.at 3 rfl
  have cx0b4 := ox0b_7.now.at 4 rfl
  go_wp2_with fail
  clear cx0b0 cx0b1 cx0b2 cx0b3 cx0b4
  refine (implFok_any b0 d0 o0 e0 _ ps0 t1 _ _ ox0_7.now.1).mono ?_; rintro e w8 ⟨rfl, b8⟩
  rw [← HR.out]; simp only
  have B8 := B7.trans (b8.mono B7.size)
  have ohx_8 := ohx_7.below b8; clear ohx_7
  have oa_8 := oa_7.below b8; clear oa_7
  have ow0_8 := ow0_7.below b8; clear ow0_7
  have ox0_8 := ox0_7.below b8; clear ox0_7
  have ox0b_8 := ox0b_7.below b8; clear ox0b_7
  clear b8 B7
  have A9 : Below w8.heap.size w8 (w8.alloc (.cells #[.int .i64 rn, .int .i64 rd] 29)) := (Below.refl _ _).alloc (Nat.le_refl _) _
  have apa_g0 : Hid (w.heap.size + 1 ≤ w8.heap.size) := oa_8.le
  have apw0_g0 : Hid (w4.heap.size + 1 ≤ w8.heap.size) := ow0_8.le
  have apx0_g0 : Hid (w6.heap.size ≤ w8.heap.size) := ox0_8.le
  have apx0b_g0 : Hid (w6.heap.size + 1 ≤ w8.heap.size) := ox0b_8.le
  have log0 : Hid (w.heap.size ≤ w8.heap.size) := B8.size
  have B9 := B8.trans (A9.mono B8.size)
  have ohx_9 := ohx_8.below A9; clear ohx_8
  have oa_9 := oa_8.below A9; clear oa_8
  have ow0_9 := ow0_8.below A9; clear ow0_8
  have ox0_9 := ox0_8.below A9; clear ox0_8
  have ox0b_9 := ox0b_8.below A9; clear ox0b_8
  have og0_9 : Obj (w8.heap.size) (w8.heap.size + 1) (fun w' => Box w' (w8.heap.size) [.int .i64 rn, .int .i64 rd]) (w8.alloc (.cells #[.int .i64 rn, .int .i64 rd] 29)) := (Box.newAt _ _ _ (by rfl)).obj
  clear A9 B8
  have cg00 := og0_9.now.at 0 rfl
  have cg01 := og0_9.now.at 1 rfl
  have cw00 := ow0_9.now.at 0 rfl
  have cw01 := ow0_9.now.at 1 rfl
  go_wp2_with fail
  clear cg00 cg01 cw00 cw01
  refine (eqFrac_same rn rd _).mono ?_; rintro e w10 ⟨rfl, b10⟩
  have B10 := B9.trans (b10.mono B9.size)
  have ohx_10 := ohx_9.below b10; clear ohx_9
  have oa_10 := oa_9.below b10; clear oa_9
  have ow0_10 := ow0_9.below b10; clear ow0_9
  have ox0_10 := ox0_9.below b10; clear ox0_9
  have ox0b_10 := ox0b_9.below b10; clear ox0b_9
  have og0_10 := og0_9.below b10; clear og0_9
  clear b10 B9
  go_wp2
  have cx0b0 := ox0b_10.now.at 0 rfl
  have cx0b1 := ox0b_10.now.at 1 rfl
  have cx0b2 := ox0b_10.now.at 2 rfl
  have cx0b3 := ox0b_10.now.at 3 rfl
  have cx0b4 := ox0b_10.now.at 4 rfl
  have ca0 := oa_10.now.at 0 rfl
  have ca1 := oa_10.now.at 1 rfl
  have ca2 := oa_10.now.at 2 rfl
  have ca3 := oa_10.now.at 3 rfl
  have ca4 := oa_10.now.at 4 rfl
  have K11 : ∀ w', Below w10.heap.size w10 w' → (w'.cell? ⟨w6.heap.size, 0, none⟩ = some (.int .i64 b0) ∧ w'.cell? ⟨w6.heap.size, 1, none⟩ = some (.int .i64 d0) ∧ w'.cell? ⟨w6.heap.size, 2, none⟩ = some (.int .i64 o0) ∧ w'.cell? ⟨w6.heap.size, 3, none⟩ = some (.int .i64 e0) ∧ w'.cell? ⟨w6.heap.size, 4, none⟩ = some (.slice ax ps0.length cx) ∧ w'.cell? ⟨w.heap.size, 0, none⟩ = some (.int .i64 b0) ∧ w'.cell? ⟨w.heap.size, 1, none⟩ = some (.int .i64 d0) ∧ w'.cell? ⟨w.heap.size, 2, none⟩ = some (.int .i64 o0) ∧ w'.cell? ⟨w.heap.size, 3, none⟩ = some (.int .i64 e0) ∧ w'.cell? ⟨w.heap.size, 4, none⟩ = some (.slice a0 len0 cap0)) := fun w' b' => ⟨(ox0b_10.below b').now.at 0 rfl, (ox0b_10.below b').now.at 1 rfl, (ox0b_10.below b').now.at 2 rfl, (ox0b_10.below b').now.at 3 rfl, (ox0b_10.below b').now.at 4 rfl, (oa_10.below b').now.at 0 rfl, (oa_10.below b').now.at 1 rfl, (oa_10.below b').now.at 2 rfl, (oa_10.below b').now.at 3 rfl, (oa_10.below b').now.at 4 rfl⟩
  have HK11 := Lib.hid K11; clear K11
  have l11 : Below w10.heap.size w10 w10.drew := (Below.refl _ _).drew
  have t11 := HK11.out _ l11
  have T11 := Lib.hid t11; clear t11
  go_region_held3 (fun w' => w'.cell? ⟨w6.heap.size, 0, none⟩ = some (.int .i64 b0) ∧ w'.cell? ⟨w6.heap.size, 1, none⟩ = some (.int .i64 d0) ∧ w'.cell? ⟨w6.heap.size, 2, none⟩ = some (.int .i64 o0) ∧ w'.cell? ⟨w6.heap.size, 3, none⟩ = some (.int .i64 e0) ∧ w'.cell? ⟨w6.heap.size, 4, none⟩ = some (.slice ax ps0.length cx) ∧ w'.cell? ⟨w.heap.size, 0, none⟩ = some (.int .i64 b0) ∧ w'.cell? ⟨w.heap.size, 1, none⟩ = some (.int .i64 d0) ∧ w'.cell? ⟨w.heap.size, 2, none⟩ = some (.int .i64 o0) ∧ w'.cell? ⟨w.heap.size, 3, none⟩ = some (.int .i64 e0) ∧ w'.cell? ⟨w.heap.size, 4, none⟩ = some (.slice a0 len0 cap0)) (first | exact T11.out | exact t12 | exact t13) (first | (go_at_call 9; (with_reducible refine (toTuning_any b0 d0 o0 e0 _ ps0 _ (ohx_10.below l11).now q0).mono ?_); rintro e w12 ⟨v12, rfl, q12, b12⟩; have l12 := Below.trans l11 (b12.mono (Below.size l11)); have t12 := HK11.out _ l12) | (go_at_call 11; (with_reducible refine (eqTuning_same b0 d0 o0 e0 _ _ ps0 _ (ox0_10.below l12).now.read q12.objR.now.read).mono ?_); rintro e w13 ⟨rfl, b13⟩; have l13 := Below.trans l12 (b13.mono (Below.size l12)); have t13 := HK11.out _ l13))
  clear T11 HK11 t12 t13 cx0b0 cx0b1 cx0b2 cx0b3 cx0b4 ca0 ca1 ca2 ca3 ca4
  have B13 := B10.trans (l13.mono B10.size)
  have ohx_13 := ohx_10.below l13; clear ohx_10
  have oa_13 := oa_10.below l13; clear oa_10
  have ow0_13 := ow0_10.below l13; clear ow0_10
  have ox0_13 := ox0_10.below l13; clear ox0_10
  have ox0b_13 := ox0b_10.below l13; clear ox0b_10
  have og0_13 := og0_10.below l13; clear og0_10
  clear q12
  clear b12 b13 l11 l12 l13 B10
  go_wp2_with fail
  go_ret
  exact ⟨rfl, B13⟩


end Go.Proofs.Ytpngabaeekjhmaa
