/-
  The law FnExactSimpleEnvelope, walked.
-/
import Derived.Test.YtfpbnhghceoleaaSimple
namespace Go.Proofs.Ytfpbnhghceoleaa
open Go.RowKit

set_option maxHeartbeats 2000000 in
theorem law_FnExactSimpleEnvelope (a d s r : Int) (w : World) (_ : (Lit.int .i64 a).wf = true) (_ : (Lit.int .i64 d).wf = true) (_ : (Lit.int .i64 s).wf = true) (_ : (Lit.int .i64 r).wf = true) :
    Calls Try.prog 3 #[.int .i64 a, .int .i64 d, .int .i64 s, .int .i64 r] w fun e w' => e = .returned (.bool true) ∧ Below w.heap.size w w' := by
  obtain ⟨R, hR⟩ : ∃ R, R = simpR a d s r := ⟨_, rfl⟩
  have hl : R.1.2.1.length ≤ 2 := by rw [hR]; unfold simpR; split <;> simp
  obtain ⟨⟨s0, ps, r0⟩, c0⟩ := R
  simp only at hl
  have HR := Lib.hid hR; clear hR
  have B0 : Below w.heap.size w w := Below.refl _ _
  go_enter Try.func3, Try.ntmps3
  go_wp2_with fail
  refine (specSimple_any a d s r _).mono ?_; rintro e w1 ⟨v1, rfl, q1, b1⟩
  rw [← HR.out] at q1 ⊢; simp only at q1 ⊢; obtain ⟨x1, p1, rfl, _, _⟩ := q1.shape1
  have low0 : Hid (w.heap.size ≤ w.heap.size) := B0.size
  have B1 := B0.trans (b1.mono B0.size)
  have ow0_1 := q1.objR; clear q1
  clear b1 B0
  have A2 : Below w1.heap.size w1 (w1.alloc (.cells #[.int .i64 s0, .slice x1 ps.length p1, .int .i64 r0] 24)) := (Below.refl _ _).alloc (Nat.le_refl _) _
  have apw0_w0b : Hid (w1.heap.size ≤ w1.heap.size) := ow0_1.le
  have low0b : Hid (w.heap.size ≤ w1.heap.size) := B1.size
  have B2 := B1.trans (A2.mono B1.size)
  have ow0_2 := ow0_1.below A2; clear ow0_1
  have ow0b_2 : Obj (w1.heap.size) (w1.heap.size + 1) (fun w' => Box w' (w1.heap.size) [.int .i64 s0, .slice x1 ps.length p1, .int .i64 r0]) (w1.alloc (.cells #[.int .i64 s0, .slice x1 ps.length p1, .int .i64 r0] 24)) := (Box.newAt _ _ _ (by rfl)).obj
  clear A2 B1
  go_wp2_with fail
  refine (implSimple_any a d s r _).mono ?_; rintro e w3 ⟨v3, rfl, q3, b3⟩
  rw [← HR.out] at q3 ⊢; simp only at q3 ⊢; obtain ⟨x3, p3, rfl, _, _⟩ := q3.shape1
  have apw0_g0 : Hid (w1.heap.size ≤ (w1.alloc (.cells #[.int .i64 s0, .slice x1 ps.length p1, .int .i64 r0] 24)).heap.size) := ow0_2.le
  have apw0b_g0 : Hid (w1.heap.size + 1 ≤ (w1.alloc (.cells #[.int .i64 s0, .slice x1 ps.length p1, .int .i64 r0] 24)).heap.size) := ow0b_2.le
  have log0 : Hid (w.heap.size ≤ (w1.alloc (.cells #[.int .i64 s0, .slice x1 ps.length p1, .int .i64 r0] 24)).heap.size) := B2.size
  have B3 := B2.trans (b3.mono B2.size)
  have ow0_3 := ow0_2.below b3; clear ow0_2
  have ow0b_3 := ow0b_2.below b3; clear ow0b_2
  have og0_3 := q3.objR; clear q3
  clear b3 B2
  have A4 : Below w3.heap.size w3 (w3.alloc (.cells #[.int .i64 s0, .slice x3 ps.length p3, .int .i64 r0] 24)) := (Below.refl _ _).alloc (Nat.le_refl _) _
  have apw0_g0b : Hid (w1.heap.size ≤ w3.heap.size) := ow0_3.le
  have apw0b_g0b : Hid (w1.heap.size + 1 ≤ w3.heap.size) := ow0b_3.le
  have apg0_g0b : Hid (w3.heap.size ≤ w3.heap.size) := og0_3.le
  have log0b : Hid (w.heap.size ≤ w3.heap.size) := B3.size
  have B4 := B3.trans (A4.mono B3.size)
  have ow0_4 := ow0_3.below A4; clear ow0_3
  have ow0b_4 := ow0b_3.below A4; clear ow0b_3
  have og0_4 := og0_3.below A4; clear og0_3
  have og0b_4 : Obj (w3.heap.size) (w3.heap.size + 1) (fun w' => Box w' (w3.heap.size) [.int .i64 s0, .slice x3 ps.length p3, .int .i64 r0]) (w3.alloc (.cells #[.int .i64 s0, .slice x3 ps.length p3, .int .i64 r0] 24)) := (Box.newAt _ _ _ (by rfl)).obj
  clear A4 B3
  have cg0b0 := og0b_4.now.at 0 rfl
  have cg0b1 := og0b_4.now.at 1 rfl
  have cg0b2 := og0b_4.now.at 2 rfl
  have cw0b0 := ow0b_4.now.at 0 rfl
  have cw0b1 := ow0b_4.now.at 1 rfl
  have cw0b2 := ow0b_4.now.at 2 rfl
  go_wp2_with fail
  clear cg0b0 cg0b1 cg0b2 cw0b0 cw0b1 cw0b2
  refine (eqEnvelope_same s0 _ _ r0 ps _ og0_4.now.read ow0_4.now.read).mono ?_; rintro e w5 ⟨rfl, b5⟩
  have B5 := B4.trans (b5.mono B4.size)
  have ow0_5 := ow0_4.below b5; clear ow0_4
  have ow0b_5 := ow0b_4.below b5; clear ow0b_4
  have og0_5 := og0_4.below b5; clear og0_4
  have og0b_5 := og0b_4.below b5; clear og0b_4
  clear b5 B4
  have cg0b0 := og0b_5.now.at 0 rfl
  have cg0b1 := og0b_5.now.at 1 rfl
  have cg0b2 := og0b_5.now.at 2 rfl
  go_wp2_with fail
  clear cg0b0 cg0b1 cg0b2
  refine (markEnvelope_obj s0 _ r0 ps _ _ 1 _ og0_5 (by omega) (by omega)).mono ?_; rintro e w6 ⟨rfl, mg0_6, g6⟩
  have B6 := below_chg B5 g6 log0.out
  have ow0_6 := ow0_5.chg g6 (.inl apw0_g0.out); clear ow0_5
  have ow0b_6 := ow0b_5.chg g6 (.inl apw0b_g0.out); clear ow0b_5
  have og0b_6 := og0b_5.chg g6 (.inr apg0_g0b.out); clear og0b_5
  clear og0_5 g6 B5
  have cg0b0 := og0b_6.now.at 0 rfl
  have cg0b1 := og0b_6.now.at 1 rfl
  have cg0b2 := og0b_6.now.at 2 rfl
  go_wp2_with fail
  clear cg0b0 cg0b1 cg0b2
  refine (heldEnvelope_any s0 _ r0 ps.length 1 _ mg0_6.now.read (by omega) (by omega)).mono ?_; rintro e w7 ⟨rfl, b7⟩
  have B7 := B6.trans (b7.mono B6.size)
  have ow0_7 := ow0_6.below b7; clear ow0_6
  have ow0b_7 := ow0b_6.below b7; clear ow0b_6
  have og0_7 := mg0_6.below b7; clear mg0_6
  have og0b_7 := og0b_6.below b7; clear og0b_6
  clear b7 B6
  go_wp2_with fail
  refine (implSimple_any a d s r _).mono ?_; rintro e w8 ⟨v8, rfl, q8, b8⟩
  rw [← HR.out] at q8 ⊢; simp only at q8 ⊢; obtain ⟨x8, p8, rfl, _, _⟩ := q8.shape1
  have apw0_h0 : Hid (w1.heap.size ≤ w7.heap.size) := ow0_7.le
  have apw0b_h0 : Hid (w1.heap.size + 1 ≤ w7.heap.size) := ow0b_7.le
  have apg0_h0 : Hid (w3.heap.size ≤ w7.heap.size) := og0_7.le
  have apg0b_h0 : Hid (w3.heap.size + 1 ≤ w7.heap.size) := og0b_7.le
  have loh0 : Hid (w.heap.size ≤ w7.heap.size) := B7.size
  have B8 := B7.trans (b8.mono B7.size)
  have ow0_8 := ow0_7.below b8; clear ow0_7
  have ow0b_8 := ow0b_7.below b8; clear ow0b_7
  have og0_8 := og0_7.below b8; clear og0_7
  have og0b_8 := og0b_7.below b8; clear og0b_7
  have oh0_8 := q8.objR; clear q8
  clear b8 B7
  have A9 : Below w8.heap.size w8 (w8.alloc (.cells #[.int .i64 s0, .slice x8 ps.length p8, .int .i64 r0] 24)) := (Below.refl _ _).alloc (Nat.le_refl _) _
  have apw0_h0b : Hid (w1.heap.size ≤ w8.heap.size) := ow0_8.le
  have apw0b_h0b : Hid (w1.heap.size + 1 ≤ w8.heap.size) := ow0b_8.le
  have apg0_h0b : Hid (w3.heap.size ≤ w8.heap.size) := og0_8.le
  have apg0b_h0b : Hid (w3.heap.size + 1 ≤ w8.heap.size) := og0b_8.le
  have aph0_h0b : Hid (w8.heap.size ≤ w8.heap.size) := oh0_8.le
  have loh0b : Hid (w.heap.size ≤ w8.heap.size) := B8.size
  have B9 := B8.trans (A9.mono B8.size)
  have ow0_9 := ow0_8.below A9; clear ow0_8
  have ow0b_9 := ow0b_8.below A9; clear ow0b_8
  have og0_9 := og0_8.below A9; clear og0_8
  have og0b_9 := og0b_8.below A9; clear og0b_8
  have oh0_9 := oh0_8.below A9; clear oh0_8
  have oh0b_9 : Obj (w8.heap.size) (w8.heap.size + 1) (fun w' => Box w' (w8.heap.size) [.int .i64 s0, .slice x8 ps.length p8, .int .i64 r0]) (w8.alloc (.cells #[.int .i64 s0, .slice x8 ps.length p8, .int .i64 r0] 24)) := (Box.newAt _ _ _ (by rfl)).obj
  clear A9 B8
  have ch0b0 := oh0b_9.now.at 0 rfl
  have ch0b1 := oh0b_9.now.at 1 rfl
  have ch0b2 := oh0b_9.now.at 2 rfl
  have cw0b0 := ow0b_9.now.at 0 rfl
  have cw0b1 := ow0b_9.now.at 1 rfl
  have cw0b2 := ow0b_9.now.at 2 rfl
  go_wp2_with fail
  clear ch0b0 ch0b1 ch0b2 cw0b0 cw0b1 cw0b2
  refine (eqEnvelope_same s0 _ _ r0 ps _ oh0_9.now.read ow0_9.now.read).mono ?_; rintro e w10 ⟨rfl, b10⟩
  have B10 := B9.trans (b10.mono B9.size)
  have ow0_10 := ow0_9.below b10; clear ow0_9
  have ow0b_10 := ow0b_9.below b10; clear ow0b_9
  have og0_10 := og0_9.below b10; clear og0_9
  have og0b_10 := og0b_9.below b10; clear og0b_9
  have oh0_10 := oh0_9.below b10; clear oh0_9
  have oh0b_10 := oh0b_9.below b10; clear oh0b_9
  clear b10 B9
  clear oh0_10
  clear oh0b_10
  clear ow0_10
  clear ow0b_10
  have cg0b0 := og0b_10.now.at 0 rfl
  have cg0b1 := og0b_10.now.at 1 rfl
  have cg0b2 := og0b_10.now.at 2 rfl
  go_wp2_with fail
  clear cg0b0 cg0b1 cg0b2
  refine (heldEnvelope_any s0 _ r0 ps.length 1 _ og0_10.now.read (by omega) (by omega)).mono ?_; rintro e w11 ⟨rfl, b11⟩
  have B11 := B10.trans (b11.mono B10.size)
  have og0_11 := og0_10.below b11; clear og0_10
  have og0b_11 := og0b_10.below b11; clear og0b_10
  clear b11 B10
  go_wp2_with fail
  go_ret
  exact ⟨rfl, B11⟩


end Go.Proofs.Ytfpbnhghceoleaa
