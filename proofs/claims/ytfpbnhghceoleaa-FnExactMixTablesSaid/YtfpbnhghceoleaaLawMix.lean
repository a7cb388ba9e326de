/-
  The law FnExactMixTables, walked.
-/
import Derived.Test.YtfpbnhghceoleaaMix
import Derived.Test.YtfpbnhghceoleaaMarkI
namespace Go.Proofs.Ytfpbnhghceoleaa
open Go.RowKit

set_option maxHeartbeats 2000000 in
theorem law_FnExactMixTables (a0 : Option Addr) (len0 cap0 : Nat) (xss0 : List (List Int)) (a1 : Option Addr) (len1 cap1 : Nat) (zs1 : List Int) (w : World) (hx0 : Lists w (.slice a0 len0 cap0) xss0) (hr0 : ∀ i, InR (xss0.getD i [])) (hrow1 : IsRow .i64 w a1 len1 cap1 zs1) :
    Calls Try.prog 14 #[.slice a0 len0 cap0, .slice a1 len1 cap1] w fun e w' => e = .returned (.bool true) ∧ Below w.heap.size w w' := by
  have HR0 := Lib.hid hr0; clear hr0
  have hx1 := Nums.of_row hrow1; have hr1 := InR.of_row hrow1
  have hln1 : (zs1.take len1).length = len1 := by
    obtain ⟨_, a', cap', hv, _⟩ := hx1; simp at hv; simp; omega
  generalize zs1.take len1 = xs1 at *; clear hrow1
  by_cases hs1 : 1048576 < len1
  · have B0 : Below w.heap.size w w := Below.refl _ _
    go_enter Try.func14, Try.ntmps14
    go_wp2_with fail
    go_ret
    exact ⟨rfl, B0⟩
  by_cases hs0 : szT (xss0.length + total xss0) (1048576) < 0
  · have B0 : Below w.heap.size w w := Below.refl _ _
    have ohx0_0 := hx0.obj
    have ohx1_0 := hx1.obj
    go_enter Try.func14, Try.ntmps14
    go_wp2_with fail
    refine (szInt64SS_b _ xss0 (1048576) _ ohx0_0.now (by omega)).mono ?_; rintro e w1 ⟨rfl, b1⟩
    have B1 := B0.trans (b1.mono B0.size)
    have ohx0_1 := ohx0_0.below b1; clear ohx0_0
    have ohx1_1 := ohx1_0.below b1; clear ohx1_0
    clear b1 B0
    go_wp2_with fail
    go_ret
    exact ⟨rfl, B1⟩
  obtain ⟨q0, qq0, qr0, hq0⟩ := szT_in hs0 (by omega)
  have QL0 : Hid (∀ j, (xss0.getD j []).length ≤ 1048576) := fun j => by have := len_le_total xss0 j; omega
  clear hq0 hs0
  obtain ⟨R, hR⟩ : ∃ R, R = MixF xss0 xs1 := ⟨_, rfl⟩
  have hl : R.1.length ≤ 1048576 := by rw [hR]; exact mixF_len xss0 xs1 QL0.out
  have HR := Lib.hid hR; clear hR
  have B0 : Below w.heap.size w w := Below.refl _ _
  have ohx0_0 := hx0.obj
  have ohx1_0 := hx1.obj
  go_enter Try.func14, Try.ntmps14
  go_wp2_with fail
  refine (szInt64SS_b _ xss0 (1048576) _ ohx0_0.now (by omega)).mono ?_; rintro e w1 ⟨rfl, b1⟩
  have B1 := B0.trans (b1.mono B0.size)
  have ohx0_1 := ohx0_0.below b1; clear ohx0_0
  have ohx1_1 := ohx1_0.below b1; clear ohx1_0
  clear b1 B0
  go_wp2_with fail
  refine (toInt64SS_any _ xss0 _ ohx0_1.now (by omega) (QL0.out)).mono ?_; rintro e w2 ⟨v2, rfl, q2, b2⟩
  have lot0 : Hid (w.heap.size ≤ w1.heap.size) := B1.size
  have B2 := B1.trans (b2.mono B1.size)
  have ohx0_2 := ohx0_1.below b2; clear ohx0_1
  have ohx1_2 := ohx1_1.below b2; clear ohx1_1
  have ot0_2 := q2.objR; clear q2
  clear b2 B1
  go_wp2_with fail
  refine (toInt64S_any _ xs1 _ ohx1_2.now (by omega)).mono ?_; rintro e w3 ⟨v3, rfl, q3, b3⟩
  have apt0_t1 : Hid (w2.heap.size ≤ w2.heap.size) := ot0_2.le
  have lot1 : Hid (w.heap.size ≤ w2.heap.size) := B2.size
  have B3 := B2.trans (b3.mono B2.size)
  have ohx0_3 := ohx0_2.below b3; clear ohx0_2
  have ohx1_3 := ohx1_2.below b3; clear ohx1_2
  have ot0_3 := ot0_2.below b3; clear ot0_2
  have ot1_3 := q3.objR; clear q3
  clear b3 B2
  go_wp2_with fail
  refine (specMix_any _ _ xss0 xs1 _ ot0_3.now.read ot1_3.now.read QL0.out).mono ?_; rintro e w4 ⟨v4, rfl, q4, b4⟩
  rw [← HR.out] at q4 ⊢
  have apt0_w0 : Hid (w2.heap.size ≤ w3.heap.size) := ot0_3.le
  have apt1_w0 : Hid (w3.heap.size ≤ w3.heap.size) := ot1_3.le
  have low0 : Hid (w.heap.size ≤ w3.heap.size) := B3.size
  have B4 := B3.trans (b4.mono B3.size)
  have ohx0_4 := ohx0_3.below b4; clear ohx0_3
  have ohx1_4 := ohx1_3.below b4; clear ohx1_3
  have ot0_4 := ot0_3.below b4; clear ot0_3
  have ot1_4 := ot1_3.below b4; clear ot1_3
  have ow0_4 := q4.objR; clear q4
  clear b4 B3
  clear ot0_4
  clear ot1_4
  go_wp2_with fail
  refine (toInt64SS_any _ xss0 _ ohx0_4.now (by omega) (QL0.out)).mono ?_; rintro e w5 ⟨v5, rfl, q5, b5⟩
  have apw0_x0 : Hid (w4.heap.size ≤ w4.heap.size) := ow0_4.le
  have lox0 : Hid (w.heap.size ≤ w4.heap.size) := B4.size
  have B5 := B4.trans (b5.mono B4.size)
  have ohx0_5 := ohx0_4.below b5; clear ohx0_4
  have ohx1_5 := ohx1_4.below b5; clear ohx1_4
  have ow0_5 := ow0_4.below b5; clear ow0_4
  have ox0_5 := q5.objR; clear q5
  clear b5 B4
  go_wp2_with fail
  refine (toInt64S_any _ xs1 _ ohx1_5.now (by omega)).mono ?_; rintro e w6 ⟨v6, rfl, q6, b6⟩
  have apw0_x1 : Hid (w4.heap.size ≤ w5.heap.size) := ow0_5.le
  have apx0_x1 : Hid (w5.heap.size ≤ w5.heap.size) := ox0_5.le
  have lox1 : Hid (w.heap.size ≤ w5.heap.size) := B5.size
  have B6 := B5.trans (b6.mono B5.size)
  have ohx0_6 := ohx0_5.below b6; clear ohx0_5
  have ohx1_6 := ohx1_5.below b6; clear ohx1_5
  have ow0_6 := ow0_5.below b6; clear ow0_5
  have ox0_6 := ox0_5.below b6; clear ox0_5
  have ox1_6 := q6.objR; clear q6
  clear b6 B5
  go_wp2_with fail
  refine (implMix_any _ _ xss0 xs1 _ ox0_6.now.read ox1_6.now.read QL0.out).mono ?_; rintro e w7 ⟨v7, rfl, q7, b7⟩
  rw [← HR.out] at q7 ⊢
  have apw0_g0 : Hid (w4.heap.size ≤ w6.heap.size) := ow0_6.le
  have apx0_g0 : Hid (w5.heap.size ≤ w6.heap.size) := ox0_6.le
  have apx1_g0 : Hid (w6.heap.size ≤ w6.heap.size) := ox1_6.le
  have log0 : Hid (w.heap.size ≤ w6.heap.size) := B6.size
  have B7 := B6.trans (b7.mono B6.size)
  have ohx0_7 := ohx0_6.below b7; clear ohx0_6
  have ohx1_7 := ohx1_6.below b7; clear ohx1_6
  have ow0_7 := ow0_6.below b7; clear ow0_6
  have ox0_7 := ox0_6.below b7; clear ox0_6
  have ox1_7 := ox1_6.below b7; clear ox1_6
  have og0_7 := q7.objR; clear q7
  clear b7 B6
  go_wp2_with fail
  refine (eqInt64S_same _ _ R.1 _ og0_7.now.read ow0_7.now.read).mono ?_; rintro e w8 ⟨rfl, b8⟩
  have B8 := B7.trans (b8.mono B7.size)
  have ohx0_8 := ohx0_7.below b8; clear ohx0_7
  have ohx1_8 := ohx1_7.below b8; clear ohx1_7
  have ow0_8 := ow0_7.below b8; clear ow0_7
  have ox0_8 := ox0_7.below b8; clear ox0_7
  have ox1_8 := ox1_7.below b8; clear ox1_7
  have og0_8 := og0_7.below b8; clear og0_7
  clear b8 B7
  go_wp2_with fail
  refine (toInt64SS_any _ xss0 _ ohx0_8.now (by omega) (QL0.out)).mono ?_; rintro e w9 ⟨v9, rfl, q9, b9⟩
  have apw0_e0 : Hid (w4.heap.size ≤ w8.heap.size) := ow0_8.le
  have apx0_e0 : Hid (w5.heap.size ≤ w8.heap.size) := ox0_8.le
  have apx1_e0 : Hid (w6.heap.size ≤ w8.heap.size) := ox1_8.le
  have apg0_e0 : Hid (w7.heap.size ≤ w8.heap.size) := og0_8.le
  have loe0 : Hid (w.heap.size ≤ w8.heap.size) := B8.size
  have B9 := B8.trans (b9.mono B8.size)
  have ohx0_9 := ohx0_8.below b9; clear ohx0_8
  have ohx1_9 := ohx1_8.below b9; clear ohx1_8
  have ow0_9 := ow0_8.below b9; clear ow0_8
  have ox0_9 := ox0_8.below b9; clear ox0_8
  have ox1_9 := ox1_8.below b9; clear ox1_8
  have og0_9 := og0_8.below b9; clear og0_8
  have oe0_9 := q9.objR; clear q9
  clear b9 B8
  go_wp2_with fail
  refine (eqInt64SS_same _ _ xss0 _ ox0_9.now.read oe0_9.now.read).mono ?_; rintro e w10 ⟨rfl, b10⟩
  have B10 := B9.trans (b10.mono B9.size)
  have ohx0_10 := ohx0_9.below b10; clear ohx0_9
  have ohx1_10 := ohx1_9.below b10; clear ohx1_9
  have ow0_10 := ow0_9.below b10; clear ow0_9
  have ox0_10 := ox0_9.below b10; clear ox0_9
  have ox1_10 := ox1_9.below b10; clear ox1_9
  have og0_10 := og0_9.below b10; clear og0_9
  have oe0_10 := oe0_9.below b10; clear oe0_9
  clear b10 B9
  clear oe0_10
  go_wp2_with fail
  refine (toInt64S_any _ xs1 _ ohx1_10.now (by omega)).mono ?_; rintro e w11 ⟨v11, rfl, q11, b11⟩
  have apw0_e1 : Hid (w4.heap.size ≤ w10.heap.size) := ow0_10.le
  have apx0_e1 : Hid (w5.heap.size ≤ w10.heap.size) := ox0_10.le
  have apx1_e1 : Hid (w6.heap.size ≤ w10.heap.size) := ox1_10.le
  have apg0_e1 : Hid (w7.heap.size ≤ w10.heap.size) := og0_10.le
  have loe1 : Hid (w.heap.size ≤ w10.heap.size) := B10.size
  have B11 := B10.trans (b11.mono B10.size)
  have ohx0_11 := ohx0_10.below b11; clear ohx0_10
  have ohx1_11 := ohx1_10.below b11; clear ohx1_10
  have ow0_11 := ow0_10.below b11; clear ow0_10
  have ox0_11 := ox0_10.below b11; clear ox0_10
  have ox1_11 := ox1_10.below b11; clear ox1_10
  have og0_11 := og0_10.below b11; clear og0_10
  have oe1_11 := q11.objR; clear q11
  clear b11 B10
  go_wp2_with fail
  refine (eqInt64S_same _ _ xs1 _ ox1_11.now.read oe1_11.now.read).mono ?_; rintro e w12 ⟨rfl, b12⟩
  have B12 := B11.trans (b12.mono B11.size)
  have ohx0_12 := ohx0_11.below b12; clear ohx0_11
  have ohx1_12 := ohx1_11.below b12; clear ohx1_11
  have ow0_12 := ow0_11.below b12; clear ow0_11
  have ox0_12 := ox0_11.below b12; clear ox0_11
  have ox1_12 := ox1_11.below b12; clear ox1_11
  have og0_12 := og0_11.below b12; clear og0_11
  have oe1_12 := oe1_11.below b12; clear oe1_11
  clear b12 B11
  clear oe1_12
  go_wp2_with fail
  refine (markInt64SS_obj _ xss0 _ _ (1) _ ox0_12 (by omega)).mono ?_; rintro e w13 ⟨rfl, mx0_13, g13⟩
  have B13 := below_chg B12 g13 lox0.out
  have ohx0_13 := ohx0_12.chg g13 (.inl lox0.out); clear ohx0_12
  have ohx1_13 := ohx1_12.chg g13 (.inl lox0.out); clear ohx1_12
  have ow0_13 := ow0_12.chg g13 (.inl apw0_x0.out); clear ow0_12
  have ox1_13 := ox1_12.chg g13 (.inr apx0_x1.out); clear ox1_12
  have og0_13 := og0_12.chg g13 (.inr apx0_g0.out); clear og0_12
  clear ox0_12 g13 B12
  go_wp2_with fail
  refine (markInt64S_obj _ xs1 _ _ (1 + (total xss0 : Int)) _ ox1_13 (by omega) (by omega)).mono ?_; rintro e w14 ⟨rfl, mx1_14, g14⟩
  have B14 := below_chg B13 g14 lox1.out
  have ohx0_14 := ohx0_13.chg g14 (.inl lox1.out); clear ohx0_13
  have ohx1_14 := ohx1_13.chg g14 (.inl lox1.out); clear ohx1_13
  have ow0_14 := ow0_13.chg g14 (.inl apw0_x1.out); clear ow0_13
  have ox0_14 := mx0_13.chg g14 (.inl apx0_x1.out); clear mx0_13
  have og0_14 := og0_13.chg g14 (.inr apx1_g0.out); clear og0_13
  clear ox1_13 g14 B13
  clear ox0_14
  clear mx1_14
  go_wp2_with fail
  refine (eqInt64S_same _ _ R.1 _ og0_14.now.read ow0_14.now.read).mono ?_; rintro e w15 ⟨rfl, b15⟩
  have B15 := B14.trans (b15.mono B14.size)
  have ohx0_15 := ohx0_14.below b15; clear ohx0_14
  have ohx1_15 := ohx1_14.below b15; clear ohx1_14
  have ow0_15 := ow0_14.below b15; clear ow0_14
  have og0_15 := og0_14.below b15; clear og0_14
  clear b15 B14
  go_wp2_with fail
  refine (markInt64S_obj _ R.1 _ _ 1 _ og0_15 (by omega) (by omega)).mono ?_; rintro e w16 ⟨rfl, mg0_16, g16⟩
  have B16 := below_chg B15 g16 log0.out
  have ohx0_16 := ohx0_15.chg g16 (.inl log0.out); clear ohx0_15
  have ohx1_16 := ohx1_15.chg g16 (.inl log0.out); clear ohx1_15
  have ow0_16 := ow0_15.chg g16 (.inl apw0_g0.out); clear ow0_15
  clear og0_15 g16 B15
  go_wp2_with fail
  refine (heldInt64S_b _ R.1.length 1 _ mg0_16.now.read (by omega) (by omega)).mono ?_; rintro e w17 ⟨rfl, b17⟩
  have B17 := B16.trans (b17.mono B16.size)
  have ohx0_17 := ohx0_16.below b17; clear ohx0_16
  have ohx1_17 := ohx1_16.below b17; clear ohx1_16
  have ow0_17 := ow0_16.below b17; clear ow0_16
  have og0_17 := mg0_16.below b17; clear mg0_16
  clear b17 B16
  go_wp2_with fail
  refine (toInt64SS_any _ xss0 _ ohx0_17.now (by omega) (QL0.out)).mono ?_; rintro e w18 ⟨v18, rfl, q18, b18⟩
  have apw0_y0 : Hid (w4.heap.size ≤ w17.heap.size) := ow0_17.le
  have apg0_y0 : Hid (w7.heap.size ≤ w17.heap.size) := og0_17.le
  have loy0 : Hid (w.heap.size ≤ w17.heap.size) := B17.size
  have B18 := B17.trans (b18.mono B17.size)
  have ohx0_18 := ohx0_17.below b18; clear ohx0_17
  have ohx1_18 := ohx1_17.below b18; clear ohx1_17
  have ow0_18 := ow0_17.below b18; clear ow0_17
  have og0_18 := og0_17.below b18; clear og0_17
  have oy0_18 := q18.objR; clear q18
  clear b18 B17
  go_wp2_with fail
  refine (toInt64S_any _ xs1 _ ohx1_18.now (by omega)).mono ?_; rintro e w19 ⟨v19, rfl, q19, b19⟩
  have apw0_y1 : Hid (w4.heap.size ≤ w18.heap.size) := ow0_18.le
  have apg0_y1 : Hid (w7.heap.size ≤ w18.heap.size) := og0_18.le
  have apy0_y1 : Hid (w18.heap.size ≤ w18.heap.size) := oy0_18.le
  have loy1 : Hid (w.heap.size ≤ w18.heap.size) := B18.size
  have B19 := B18.trans (b19.mono B18.size)
  have ohx0_19 := ohx0_18.below b19; clear ohx0_18
  have ohx1_19 := ohx1_18.below b19; clear ohx1_18
  have ow0_19 := ow0_18.below b19; clear ow0_18
  have og0_19 := og0_18.below b19; clear og0_18
  have oy0_19 := oy0_18.below b19; clear oy0_18
  have oy1_19 := q19.objR; clear q19
  clear b19 B18
  go_wp2_with fail
  refine (implMix_any _ _ xss0 xs1 _ oy0_19.now.read oy1_19.now.read QL0.out).mono ?_; rintro e w20 ⟨v20, rfl, q20, b20⟩
  rw [← HR.out] at q20 ⊢
  have apw0_h0 : Hid (w4.heap.size ≤ w19.heap.size) := ow0_19.le
  have apg0_h0 : Hid (w7.heap.size ≤ w19.heap.size) := og0_19.le
  have apy0_h0 : Hid (w18.heap.size ≤ w19.heap.size) := oy0_19.le
  have apy1_h0 : Hid (w19.heap.size ≤ w19.heap.size) := oy1_19.le
  have loh0 : Hid (w.heap.size ≤ w19.heap.size) := B19.size
  have B20 := B19.trans (b20.mono B19.size)
  have ohx0_20 := ohx0_19.below b20; clear ohx0_19
  have ohx1_20 := ohx1_19.below b20; clear ohx1_19
  have ow0_20 := ow0_19.below b20; clear ow0_19
  have og0_20 := og0_19.below b20; clear og0_19
  have oy0_20 := oy0_19.below b20; clear oy0_19
  have oy1_20 := oy1_19.below b20; clear oy1_19
  have oh0_20 := q20.objR; clear q20
  clear b20 B19
  clear oy0_20
  clear oy1_20
  go_wp2_with fail
  refine (eqInt64S_same _ _ R.1 _ oh0_20.now.read ow0_20.now.read).mono ?_; rintro e w21 ⟨rfl, b21⟩
  have B21 := B20.trans (b21.mono B20.size)
  have ohx0_21 := ohx0_20.below b21; clear ohx0_20
  have ohx1_21 := ohx1_20.below b21; clear ohx1_20
  have ow0_21 := ow0_20.below b21; clear ow0_20
  have og0_21 := og0_20.below b21; clear og0_20
  have oh0_21 := oh0_20.below b21; clear oh0_20
  clear b21 B20
  clear oh0_21
  clear ow0_21
  go_wp2_with fail
  refine (heldInt64S_b _ R.1.length 1 _ og0_21.now.read (by omega) (by omega)).mono ?_; rintro e w22 ⟨rfl, b22⟩
  have B22 := B21.trans (b22.mono B21.size)
  have ohx0_22 := ohx0_21.below b22; clear ohx0_21
  have ohx1_22 := ohx1_21.below b22; clear ohx1_21
  have og0_22 := og0_21.below b22; clear og0_21
  clear b22 B21
  go_wp2_with fail
  go_ret
  exact ⟨rfl, B22⟩


end Go.Proofs.Ytfpbnhghceoleaa
