/-
  The law FnExactRenderEnvelope, walked.
-/
import Derived.Test.YtoclpcdmpeimkaaRendE
import Derived.Test.YtoclpcdmpeimkaaMarkP
import Derived.Test.YtoclpcdmpeimkaaMarkI
import Derived.Test.YtoclpcdmpeimkaaLawVEnv
namespace Go.Proofs.Ytoclpcdmpeimkaa
open Go.RowKit

set_option maxHeartbeats 2000000 in
theorem law_FnExactRenderEnvelope (s0 : Int) (a0 : Option Addr) (len0 cap0 : Nat) (r0 : Int) (ps0 : List (Int × Int)) (t1 : Int) (t2 : Int) (w : World) (hx0 : Pairs w (.slice a0 len0 cap0) ps0) (_ : InRP ps0) (_ : (Lit.int .i64 t1).wf = true) (_ : (Lit.int .i64 t2).wf = true) :
    Calls Try.prog 5 #[.agg #[.int .i64 s0, .slice a0 len0 cap0, .int .i64 r0], .int .i64 t1, .int .i64 t2] w fun e w' => e = .returned (.bool true) ∧ Below w.heap.size w w' := by
  by_cases hs0 : szF ps0.length 1048576 < 0
  · have B0 : Below w.heap.size w w := Below.refl _ _
    have ohx_0 := hx0.obj
    have A1 : Below w.heap.size w (w.alloc (.cells #[.int .i64 s0, .slice a0 len0 cap0, .int .i64 r0] 32)) := (Below.refl _ _).alloc (Nat.le_refl _) _
    have loa : Hid (w.heap.size ≤ w.heap.size) := B0.size
    have B1 := B0.trans (A1.mono B0.size)
    have ohx_1 := ohx_0.below A1; clear ohx_0
    have oa_1 : Obj (w.heap.size) (w.heap.size + 1) (fun w' => Box w' (w.heap.size) [.int .i64 s0, .slice a0 len0 cap0, .int .i64 r0]) (w.alloc (.cells #[.int .i64 s0, .slice a0 len0 cap0, .int .i64 r0] 32)) := (Box.newAt _ _ _ (by rfl)).obj
    clear A1 B0
    go_enter Try.func5, Try.ntmps5
    have ca0 := oa_1.now.at 0 rfl
    have ca1 := oa_1.now.at 1 rfl
    have ca2 := oa_1.now.at 2 rfl
    go_wp2_with fail
    clear ca0 ca1 ca2
    refine (szEnvelope_any s0 _ r0 ps0 1048576 _ ohx_1.now (by omega)).mono ?_; rintro e w2 ⟨rfl, b2⟩
    have B2 := B1.trans (b2.mono B1.size)
    have ohx_2 := ohx_1.below b2; clear ohx_1
    have oa_2 := oa_1.below b2; clear oa_1
    clear b2 B1
    go_wp2_with fail
    go_ret
    exact ⟨rfl, B2⟩
  obtain ⟨q0, q1, q2, hq⟩ := szF_in hs0 (by omega)
  clear hq hs0
  obtain ⟨R, hR⟩ : ∃ R, R = rendER s0 ps0 r0 t1 t2 := ⟨_, rfl⟩
  have hl : R.1.length ≤ 4000 := by rw [hR]; exact rendER_len _ _ _ _ _
  have HR := Lib.hid hR; clear hR
  have B0 : Below w.heap.size w w := Below.refl _ _
  have ohx_0 := hx0.obj
  have A1 : Below w.heap.size w (w.alloc (.cells #[.int .i64 s0, .slice a0 len0 cap0, .int .i64 r0] 32)) := (Below.refl _ _).alloc (Nat.le_refl _) _
  have loa : Hid (w.heap.size ≤ w.heap.size) := B0.size
  have B1 := B0.trans (A1.mono B0.size)
  have ohx_1 := ohx_0.below A1; clear ohx_0
  have oa_1 : Obj (w.heap.size) (w.heap.size + 1) (fun w' => Box w' (w.heap.size) [.int .i64 s0, .slice a0 len0 cap0, .int .i64 r0]) (w.alloc (.cells #[.int .i64 s0, .slice a0 len0 cap0, .int .i64 r0] 32)) := (Box.newAt _ _ _ (by rfl)).obj
  clear A1 B0
  go_enter Try.func5, Try.ntmps5
  have ca0 := oa_1.now.at 0 rfl
  have ca1 := oa_1.now.at 1 rfl
  have ca2 := oa_1.now.at 2 rfl
  go_wp2_with fail
  clear ca0 ca1 ca2
  refine (szEnvelope_any s0 _ r0 ps0 1048576 _ ohx_1.now (by omega)).mono ?_; rintro e w2 ⟨rfl, b2⟩
  have B2 := B1.trans (b2.mono B1.size)
  have ohx_2 := ohx_1.below b2; clear ohx_1
  have oa_2 := oa_1.below b2; clear oa_1
  clear b2 B1
  have ca0 := oa_2.now.at 0 rfl
  have ca1 := oa_2.now.at 1 rfl
  have ca2 := oa_2.now.at 2 rfl
  go_wp2_with fail
  clear ca0 ca1 ca2
  refine (toEnvelope_any s0 _ r0 ps0 _ ohx_2.now q0).mono ?_; rintro e w3 ⟨v3, rfl, q3, b3⟩
  have apa_t : Hid (w.heap.size + 1 ≤ w2.heap.size) := oa_2.le
  have lot : Hid (w.heap.size ≤ w2.heap.size) := B2.size
  have B3 := B2.trans (b3.mono B2.size)
  have ohx_3 := ohx_2.below b3; clear ohx_2
  have oa_3 := oa_2.below b3; clear oa_2
  have ot_3 := q3.objR; clear q3
  clear b3 B2
  go_wp2_with fail
  refine (specRendE_any s0 _ r0 ps0 t1 t2 _ ot_3.now.read).mono ?_; rintro e w4 ⟨v4, rfl, q4, b4⟩
  rw [← HR.out] at q4 ⊢
  have apa_w0 : Hid (w.heap.size + 1 ≤ w3.heap.size) := oa_3.le
  have apt_w0 : Hid (w3.heap.size ≤ w3.heap.size) := ot_3.le
  have low0 : Hid (w.heap.size ≤ w3.heap.size) := B3.size
  have B4 := B3.trans (b4.mono B3.size)
  have ohx_4 := ohx_3.below b4; clear ohx_3
  have oa_4 := oa_3.below b4; clear oa_3
  have ot_4 := ot_3.below b4; clear ot_3
  have ow0_4 := q4.objR; clear q4
  clear b4 B3
  clear ot_4
  have ca0 := oa_4.now.at 0 rfl
  have ca1 := oa_4.now.at 1 rfl
  have ca2 := oa_4.now.at 2 rfl
  go_wp2_with fail
  clear ca0 ca1 ca2
  refine (toEnvelope_any s0 _ r0 ps0 _ ohx_4.now q0).mono ?_; rintro e w5 ⟨v5, rfl, q5, b5⟩
  obtain ⟨ax, cx, rfl, _, _⟩ := q5.shape1
  have apa_x0 : Hid (w.heap.size + 1 ≤ w4.heap.size) := oa_4.le
  have apw0_x0 : Hid (w4.heap.size ≤ w4.heap.size) := ow0_4.le
  have lox0 : Hid (w.heap.size ≤ w4.heap.size) := B4.size
  have B5 := B4.trans (b5.mono B4.size)
  have ohx_5 := ohx_4.below b5; clear ohx_4
  have oa_5 := oa_4.below b5; clear oa_4
  have ow0_5 := ow0_4.below b5; clear ow0_4
  have ox0_5 := q5.objR; clear q5
  clear b5 B4
  have A6 : Below w5.heap.size w5 (w5.alloc (.cells #[.int .i64 s0, .slice ax ps0.length cx, .int .i64 r0] 36)) := (Below.refl _ _).alloc (Nat.le_refl _) _
  have apa_x0b : Hid (w.heap.size + 1 ≤ w5.heap.size) := oa_5.le
  have apw0_x0b : Hid (w4.heap.size ≤ w5.heap.size) := ow0_5.le
  have apx0_x0b : Hid (w5.heap.size ≤ w5.heap.size) := ox0_5.le
  have lox0b : Hid (w.heap.size ≤ w5.heap.size) := B5.size
  have B6 := B5.trans (A6.mono B5.size)
  have ohx_6 := ohx_5.below A6; clear ohx_5
  have oa_6 := oa_5.below A6; clear oa_5
  have ow0_6 := ow0_5.below A6; clear ow0_5
  have ox0_6 := ox0_5.below A6; clear ox0_5
  have ox0b_6 : Obj (w5.heap.size) (w5.heap.size + 1) (fun w' => Box w' (w5.heap.size) [.int .i64 s0, .slice ax ps0.length cx, .int .i64 r0]) (w5.alloc (.cells #[.int .i64 s0, .slice ax ps0.length cx, .int .i64 r0] 36)) := (Box.newAt _ _ _ (by rfl)).obj
  clear A6 B5
  have cx0b0 := ox0b_6.now.at 0 rfl
  have cx0b1 := ox0b_6.now.at 1 rfl
  have cx0b2 := ox0b_6.now.at 2 rfl
  go_wp2_with fail
  clear cx0b0 cx0b1 cx0b2
  refine (implRendE_any s0 _ r0 ps0 t1 t2 _ ox0_6.now.read).mono ?_; rintro e w7 ⟨v7, rfl, q7, b7⟩
  rw [← HR.out] at q7 ⊢
  have apa_g0 : Hid (w.heap.size + 1 ≤ (w5.alloc (.cells #[.int .i64 s0, .slice ax ps0.length cx, .int .i64 r0] 36)).heap.size) := oa_6.le
  have apw0_g0 : Hid (w4.heap.size ≤ (w5.alloc (.cells #[.int .i64 s0, .slice ax ps0.length cx, .int .i64 r0] 36)).heap.size) := ow0_6.le
  have apx0_g0 : Hid (w5.heap.size ≤ (w5.alloc (.cells #[.int .i64 s0, .slice ax ps0.length cx, .int .i64 r0] 36)).heap.size) := ox0_6.le
  have apx0b_g0 : Hid (w5.heap.size + 1 ≤ (w5.alloc (.cells #[.int .i64 s0, .slice ax ps0.length cx, .int .i64 r0] 36)).heap.size) := ox0b_6.le
  have log0 : Hid (w.heap.size ≤ (w5.alloc (.cells #[.int .i64 s0, .slice ax ps0.length cx, .int .i64 r0] 36)).heap.size) := B6.size
  have B7 := B6.trans (b7.mono B6.size)
  have ohx_7 := ohx_6.below b7; clear ohx_6
  have oa_7 := oa_6.below b7; clear oa_6
  have ow0_7 := ow0_6.below b7; clear ow0_6
  have ox0_7 := ox0_6.below b7; clear ox0_6
  have ox0b_7 := ox0b_6.below b7; clear ox0b_6
  have og0_7 := q7.objR; clear q7
  clear b7 B6
  go_wp2_with fail
  refine (eqInt64S_same _ _ R.1 _ og0_7.now.read ow0_7.now.read).mono ?_; rintro e w8 ⟨rfl, b8⟩
  have B8 := B7.trans (b8.mono B7.size)
  have ohx_8 := ohx_7.below b8; clear ohx_7
  have oa_8 := oa_7.below b8; clear oa_7
  have ow0_8 := ow0_7.below b8; clear ow0_7
  have ox0_8 := ox0_7.below b8; clear ox0_7
  have ox0b_8 := ox0b_7.below b8; clear ox0b_7
  have og0_8 := og0_7.below b8; clear og0_7
  clear b8 B7
  go_wp2
  have cx0b0 := ox0b_8.now.at 0 rfl
  have cx0b1 := ox0b_8.now.at 1 rfl
  have cx0b2 := ox0b_8.now.at 2 rfl
  have ca0 := oa_8.now.at 0 rfl
  have ca1 := oa_8.now.at 1 rfl
  have ca2 := oa_8.now.at 2 rfl
  have K9 : ∀ w', Below w8.heap.size w8 w' → (w'.cell? ⟨w5.heap.size, 0, none⟩ = some (.int .i64 s0) ∧ w'.cell? ⟨w5.heap.size, 1, none⟩ = some (.slice ax ps0.length cx) ∧ w'.cell? ⟨w5.heap.size, 2, none⟩ = some (.int .i64 r0) ∧ w'.cell? ⟨w.heap.size, 0, none⟩ = some (.int .i64 s0) ∧ w'.cell? ⟨w.heap.size, 1, none⟩ = some (.slice a0 len0 cap0) ∧ w'.cell? ⟨w.heap.size, 2, none⟩ = some (.int .i64 r0)) := fun w' b' => ⟨(ox0b_8.below b').now.at 0 rfl, (ox0b_8.below b').now.at 1 rfl, (ox0b_8.below b').now.at 2 rfl, (oa_8.below b').now.at 0 rfl, (oa_8.below b').now.at 1 rfl, (oa_8.below b').now.at 2 rfl⟩
  have HK9 := Lib.hid K9; clear K9
  have l9 : Below w8.heap.size w8 w8.drew := (Below.refl _ _).drew
  have t9 := HK9.out _ l9
  have T9 := Lib.hid t9; clear t9
  go_region_held3 (fun w' => w'.cell? ⟨w5.heap.size, 0, none⟩ = some (.int .i64 s0) ∧ w'.cell? ⟨w5.heap.size, 1, none⟩ = some (.slice ax ps0.length cx) ∧ w'.cell? ⟨w5.heap.size, 2, none⟩ = some (.int .i64 r0) ∧ w'.cell? ⟨w.heap.size, 0, none⟩ = some (.int .i64 s0) ∧ w'.cell? ⟨w.heap.size, 1, none⟩ = some (.slice a0 len0 cap0) ∧ w'.cell? ⟨w.heap.size, 2, none⟩ = some (.int .i64 r0)) (first | exact T9.out | exact t10 | exact t11) (first | (go_at_call 14; (with_reducible refine (toEnvelope_any s0 _ r0 ps0 _ (ohx_8.below l9).now q0).mono ?_); rintro e w10 ⟨v10, rfl, q10, b10⟩; have l10 := Below.trans l9 (b10.mono (Below.size l9)); have t10 := HK9.out _ l10) | (go_at_call 16; (with_reducible refine (eqEnvelope_same s0 _ _ r0 ps0 _ (ox0_8.below l10).now.read q10.objR.now.read).mono ?_); rintro e w11 ⟨rfl, b11⟩; have l11 := Below.trans l10 (b11.mono (Below.size l10)); have t11 := HK9.out _ l11))
  clear T9 HK9 t10 t11 cx0b0 cx0b1 cx0b2 ca0 ca1 ca2
  have B11 := B8.trans (l11.mono B8.size)
  have ohx_11 := ohx_8.below l11; clear ohx_8
  have oa_11 := oa_8.below l11; clear oa_8
  have ow0_11 := ow0_8.below l11; clear ow0_8
  have ox0_11 := ox0_8.below l11; clear ox0_8
  have ox0b_11 := ox0b_8.below l11; clear ox0b_8
  have og0_11 := og0_8.below l11; clear og0_8
  clear q10
  clear b10 b11 l9 l10 l11 B8
  have cx0b0 := ox0b_11.now.at 0 rfl
  have cx0b1 := ox0b_11.now.at 1 rfl
  have cx0b2 := ox0b_11.now.at 2 rfl
  go_wp2_with fail
  clear cx0b0 cx0b1 cx0b2
  refine (markEnvelope_obj s0 _ r0 ps0 _ _ 1 _ ox0_11 (by omega) (by omega)).mono ?_; rintro e w12 ⟨rfl, mx0_12, g12⟩
  have B12 := below_chg B11 g12 lox0.out
  have ohx_12 := ohx_11.chg g12 (.inl lox0.out); clear ohx_11
  have oa_12 := oa_11.chg g12 (.inl apa_x0.out); clear oa_11
  have ow0_12 := ow0_11.chg g12 (.inl apw0_x0.out); clear ow0_11
  have ox0b_12 := ox0b_11.chg g12 (.inr apx0_x0b.out); clear ox0b_11
  have og0_12 := og0_11.chg g12 (.inr apx0_g0.out); clear og0_11
  clear ox0_11 g12 B11
  clear mx0_12
  clear ox0b_12
  go_wp2_with fail
  refine (eqInt64S_same _ _ R.1 _ og0_12.now.read ow0_12.now.read).mono ?_; rintro e w13 ⟨rfl, b13⟩
  have B13 := B12.trans (b13.mono B12.size)
  have ohx_13 := ohx_12.below b13; clear ohx_12
  have oa_13 := oa_12.below b13; clear oa_12
  have ow0_13 := ow0_12.below b13; clear ow0_12
  have og0_13 := og0_12.below b13; clear og0_12
  clear b13 B12
  go_wp2_with fail
  refine (markInt64S_obj _ R.1 _ _ 1 _ og0_13 (by omega) (by omega)).mono ?_; rintro e w14 ⟨rfl, mg0_14, g14⟩
  have B14 := below_chg B13 g14 log0.out
  have ohx_14 := ohx_13.chg g14 (.inl log0.out); clear ohx_13
  have oa_14 := oa_13.chg g14 (.inl apa_g0.out); clear oa_13
  have ow0_14 := ow0_13.chg g14 (.inl apw0_g0.out); clear ow0_13
  clear og0_13 g14 B13
  go_wp2_with fail
  refine (heldInt64S_b _ R.1.length 1 _ mg0_14.now.read (by omega) (by omega)).mono ?_; rintro e w15 ⟨rfl, b15⟩
  have B15 := B14.trans (b15.mono B14.size)
  have ohx_15 := ohx_14.below b15; clear ohx_14
  have oa_15 := oa_14.below b15; clear oa_14
  have ow0_15 := ow0_14.below b15; clear ow0_14
  have og0_15 := mg0_14.below b15; clear mg0_14
  clear b15 B14
  have ca0 := oa_15.now.at 0 rfl
  have ca1 := oa_15.now.at 1 rfl
  have ca2 := oa_15.now.at 2 rfl
  go_wp2_with fail
  clear ca0 ca1 ca2
  refine (toEnvelope_any s0 _ r0 ps0 _ ohx_15.now q0).mono ?_; rintro e w16 ⟨v16, rfl, q16, b16⟩
  have apa_t : Hid (w.heap.size + 1 ≤ w15.heap.size) := oa_15.le
  have apw0_t : Hid (w4.heap.size ≤ w15.heap.size) := ow0_15.le
  have apg0_t : Hid (w7.heap.size ≤ w15.heap.size) := og0_15.le
  have lot : Hid (w.heap.size ≤ w15.heap.size) := B15.size
  have B16 := B15.trans (b16.mono B15.size)
  have ohx_16 := ohx_15.below b16; clear ohx_15
  have oa_16 := oa_15.below b16; clear oa_15
  have ow0_16 := ow0_15.below b16; clear ow0_15
  have og0_16 := og0_15.below b16; clear og0_15
  have ot_16 := q16.objR; clear q16
  clear b16 B15
  go_wp2_with fail
  refine (implRendE_any s0 _ r0 ps0 t1 t2 _ ot_16.now.read).mono ?_; rintro e w17 ⟨v17, rfl, q17, b17⟩
  rw [← HR.out] at q17 ⊢
  have apa_h0 : Hid (w.heap.size + 1 ≤ w16.heap.size) := oa_16.le
  have apw0_h0 : Hid (w4.heap.size ≤ w16.heap.size) := ow0_16.le
  have apg0_h0 : Hid (w7.heap.size ≤ w16.heap.size) := og0_16.le
  have apt_h0 : Hid (w16.heap.size ≤ w16.heap.size) := ot_16.le
  have loh0 : Hid (w.heap.size ≤ w16.heap.size) := B16.size
  have B17 := B16.trans (b17.mono B16.size)
  have ohx_17 := ohx_16.below b17; clear ohx_16
  have oa_17 := oa_16.below b17; clear oa_16
  have ow0_17 := ow0_16.below b17; clear ow0_16
  have og0_17 := og0_16.below b17; clear og0_16
  have ot_17 := ot_16.below b17; clear ot_16
  have oh0_17 := q17.objR; clear q17
  clear b17 B16
  clear ot_17
  go_wp2_with fail
  refine (eqInt64S_same _ _ R.1 _ oh0_17.now.read ow0_17.now.read).mono ?_; rintro e w18 ⟨rfl, b18⟩
  have B18 := B17.trans (b18.mono B17.size)
  have ohx_18 := ohx_17.below b18; clear ohx_17
  have oa_18 := oa_17.below b18; clear oa_17
  have ow0_18 := ow0_17.below b18; clear ow0_17
  have og0_18 := og0_17.below b18; clear og0_17
  have oh0_18 := oh0_17.below b18; clear oh0_17
  clear b18 B17
  clear oh0_18
  clear ow0_18
  go_wp2_with fail
  refine (heldInt64S_b _ R.1.length 1 _ og0_18.now.read (by omega) (by omega)).mono ?_; rintro e w19 ⟨rfl, b19⟩
  have B19 := B18.trans (b19.mono B18.size)
  have ohx_19 := ohx_18.below b19; clear ohx_18
  have oa_19 := oa_18.below b19; clear oa_18
  have og0_19 := og0_18.below b19; clear og0_18
  clear b19 B18
  go_wp2_with fail
  go_ret
  exact ⟨rfl, B19⟩


end Go.Proofs.Ytoclpcdmpeimkaa
