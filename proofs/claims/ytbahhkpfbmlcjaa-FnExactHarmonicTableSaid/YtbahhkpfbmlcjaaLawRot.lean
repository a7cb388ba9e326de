/-
  The laws FnExactRotateTable and FnExactHarmonicTable, walked.
-/
import Derived.Test.YtbahhkpfbmlcjaaRot
namespace Go.Proofs.Ytbahhkpfbmlcjaa
open Go.RowKit

theorem law_FnExactRotateTable (a : Option Addr) (len cap : Nat) (zs : List Int) (s : Int) (w : World) (hrow : IsRow .i64 w a len cap zs) (_ : (Lit.int .i64 s).wf = true) :
    Calls Try.prog 13 #[.slice a len cap, .int .i64 s] w fun e w' => e = .returned (.bool true) ∧ Below w.heap.size w w' := by
  have hx := Nums.of_row hrow
  have hlen : (zs.take len).length = len := by
    obtain ⟨_, a', cap', hv, _⟩ := hx; simp at hv; simp; omega
  have hl := hx.1
  generalize zs.take len = xs at *
  clear hrow
  by_cases hb : 1048576 < len
  · go_enter Try.func13, Try.ntmps13
    go_wp2
    go_ret
    exact ⟨rfl, Below.refl _ _⟩
  obtain ⟨R, hR⟩ : ∃ R, R = pickF xs s fun (i : Nat) => (i : Int) + s := ⟨_, rfl⟩
  have hRl : R.1.length ≤ 1048576 := by
    rw [hR]; unfold pickF; split
    · split
      · simp; omega
      · simp
    · simp
  have HR := Lib.hid hR; clear hR
  have B0 : Below w.heap.size w w := Below.refl _ _
  go_enter Try.func13, Try.ntmps13
  go_wp2_with fail
  refine (toInt64S_any _ xs _ hx (by omega)).mono ?_; rintro e w1 ⟨v1, rfl, o1, b1⟩
  have B1 := B0.trans (b1.mono B0.size); clear B0
  go_wp2_with fail
  refine (specRotate_any _ xs s _ o1.ints).mono ?_; rintro e w2 ⟨vw, rfl, ow, b2⟩
  rw [← HR.out] at ow ⊢
  have B2 := B1.trans (b2.mono B1.size)
  go_wp2_with fail
  refine (toInt64S_any _ xs _ (hx.below B2) (by omega)).mono ?_; rintro e w3 ⟨vx, rfl, ox, b3⟩
  have B3 := B2.trans (b3.mono B2.size)
  have ap := ow.apart ox (Nat.le_refl _)
  have ow3 := ow.below b3
  go_wp2_with fail
  refine (implRotate_any _ xs s _ ox.ints).mono ?_; rintro e w4 ⟨vg, rfl, og, b4⟩
  rw [← HR.out] at og ⊢
  have B4 := B3.trans (b4.mono B3.size)
  have apx := ox.apart og (Nat.le_refl _)
  have apw := ow3.apart og (Nat.le_refl _)
  have ow4 := ow3.below b4
  have ox4 := ox.below b4
  have hxb : w.heap.size ≤ w2.heap.size := B2.size
  have hgb : w.heap.size ≤ w3.heap.size := B3.size
  clear ow ow3 ox o1 b1 b2 b3 b4 B1 B2 B3
  go_wp2_with fail
  refine (eqInt64S_same _ _ _ _ og.ints ow4.ints).mono ?_; rintro e w5 ⟨rfl, b5⟩
  have B5 := B4.trans (b5.mono B4.size)
  have og5 := og.below b5
  have ow5 := ow4.below b5
  have ox5 := ox4.below b5
  clear B4 b5 og ow4 ox4
  go_wp2_with fail
  refine (toInt64S_any _ xs _ (hx.below B5) (by omega)).mono ?_; rintro e w6 ⟨vy, rfl, oy, b6⟩
  have B6 := B5.trans (b6.mono B5.size)
  have og6 := og5.below b6
  have ow6 := ow5.below b6
  have ox6 := ox5.below b6
  clear B5 b6 og5 ow5 ox5
  go_wp2_with fail
  refine (eqInt64S_same _ _ _ _ ox6.ints oy.ints).mono ?_; rintro e w7 ⟨rfl, b7⟩
  have B7 := B6.trans (b7.mono B6.size)
  have og7 := og6.below b7
  have ow7 := ow6.below b7
  have ox7 := ox6.below b7
  clear B6 b7 og6 ow6 ox6 oy
  go_wp2_with fail
  refine (markInt64S_any _ xs _ 1 _ ox7 (by omega) (by omega)).mono ?_; rintro e w8 ⟨rfl, _, g8⟩
  have B8 := below_marked B7 g8 ox7 hxb
  have og8 := og7.keep g8 (fun g hg hh => apx g hh hg)
  have ow8 := ow7.keep g8 (fun g hg hh => ap g hg hh)
  clear B7 g8 og7 ow7 ox7
  go_wp2_with fail
  refine (eqInt64S_same _ _ _ _ og8.ints ow8.ints).mono ?_; rintro e w9 ⟨rfl, b9⟩
  have B9 := B8.trans (b9.mono B8.size)
  have og9 := og8.below b9
  have ow9 := ow8.below b9
  clear B8 b9 og8 ow8
  go_wp2_with fail
  refine (markInt64S_any _ R.1 _ 1 _ og9 (by omega) (by omega)).mono ?_; rintro e w10 ⟨rfl, og10, g10⟩
  have B10 := below_marked B9 g10 og9 hgb
  have ow10 := ow9.keep g10 (fun g hg hh => apw g hg hh)
  clear B9 g10 og9 ow9
  go_wp2_with fail
  refine (heldInt64S_b _ _ 1 _ og10.ints (by omega) (by omega)).mono ?_; rintro e w11 ⟨rfl, b11⟩
  have B11 := B10.trans (b11.mono B10.size)
  have og11 := og10.below b11
  have ow11 := ow10.below b11
  clear B10 b11 og10 ow10
  go_wp2_with fail
  refine (toInt64S_any _ xs _ (hx.below B11) (by omega)).mono ?_; rintro e w12 ⟨vz, rfl, oz, b12⟩
  have B12 := B11.trans (b12.mono B11.size)
  have og12 := og11.below b12
  have ow12 := ow11.below b12
  clear B11 b12 og11 ow11
  go_wp2_with fail
  refine (implRotate_any _ xs s _ oz.ints).mono ?_; rintro e w13 ⟨vh, rfl, oh, b13⟩
  rw [← HR.out] at oh ⊢
  have B13 := B12.trans (b13.mono B12.size)
  have og13 := og12.below b13
  have ow13 := ow12.below b13
  clear B12 b13 og12 ow12 oz
  go_wp2_with fail
  refine (eqInt64S_same _ _ _ _ oh.ints ow13.ints).mono ?_; rintro e w14 ⟨rfl, b14⟩
  have B14 := B13.trans (b14.mono B13.size)
  have og14 := og13.below b14
  clear B13 b14 og13 ow13 oh
  go_wp2_with fail
  refine (heldInt64S_b _ _ 1 _ og14.ints (by omega) (by omega)).mono ?_; rintro e w15 ⟨rfl, b15⟩
  have B15 := B14.trans (b15.mono B14.size)
  clear B14 b15 og14
  go_wp2_with fail
  go_ret
  exact ⟨rfl, B15⟩
theorem law_FnExactHarmonicTable (a : Option Addr) (len cap : Nat) (zs : List Int) (s : Int) (w : World) (hrow : IsRow .i64 w a len cap zs) (_ : (Lit.int .i64 s).wf = true) :
    Calls Try.prog 12 #[.slice a len cap, .int .i64 s] w fun e w' => e = .returned (.bool true) ∧ Below w.heap.size w w' := by
  have hx := Nums.of_row hrow
  have hlen : (zs.take len).length = len := by
    obtain ⟨_, a', cap', hv, _⟩ := hx; simp at hv; simp; omega
  have hl := hx.1
  generalize zs.take len = xs at *
  clear hrow
  by_cases hb : 1048576 < len
  · go_enter Try.func12, Try.ntmps12
    go_wp2
    go_ret
    exact ⟨rfl, Below.refl _ _⟩
  obtain ⟨R, hR⟩ : ∃ R, R = pickF xs s fun (i : Nat) => s * (i : Int) := ⟨_, rfl⟩
  have hRl : R.1.length ≤ 1048576 := by
    rw [hR]; unfold pickF; split
    · split
      · simp; omega
      · simp
    · simp
  have HR := Lib.hid hR; clear hR
  have B0 : Below w.heap.size w w := Below.refl _ _
  go_enter Try.func12, Try.ntmps12
  go_wp2_with fail
  refine (toInt64S_any _ xs _ hx (by omega)).mono ?_; rintro e w1 ⟨v1, rfl, o1, b1⟩
  have B1 := B0.trans (b1.mono B0.size); clear B0
  go_wp2_with fail
  refine (specHarmonic_any _ xs s _ o1.ints).mono ?_; rintro e w2 ⟨vw, rfl, ow, b2⟩
  rw [← HR.out] at ow ⊢
  have B2 := B1.trans (b2.mono B1.size)
  go_wp2_with fail
  refine (toInt64S_any _ xs _ (hx.below B2) (by omega)).mono ?_; rintro e w3 ⟨vx, rfl, ox, b3⟩
  have B3 := B2.trans (b3.mono B2.size)
  have ap := ow.apart ox (Nat.le_refl _)
  have ow3 := ow.below b3
  go_wp2_with fail
  refine (implHarmonic_any _ xs s _ ox.ints).mono ?_; rintro e w4 ⟨vg, rfl, og, b4⟩
  rw [← HR.out] at og ⊢
  have B4 := B3.trans (b4.mono B3.size)
  have apx := ox.apart og (Nat.le_refl _)
  have apw := ow3.apart og (Nat.le_refl _)
  have ow4 := ow3.below b4
  have ox4 := ox.below b4
  have hxb : w.heap.size ≤ w2.heap.size := B2.size
  have hgb : w.heap.size ≤ w3.heap.size := B3.size
  clear ow ow3 ox o1 b1 b2 b3 b4 B1 B2 B3
  go_wp2_with fail
  refine (eqInt64S_same _ _ _ _ og.ints ow4.ints).mono ?_; rintro e w5 ⟨rfl, b5⟩
  have B5 := B4.trans (b5.mono B4.size)
  have og5 := og.below b5
  have ow5 := ow4.below b5
  have ox5 := ox4.below b5
  clear B4 b5 og ow4 ox4
  go_wp2_with fail
  refine (toInt64S_any _ xs _ (hx.below B5) (by omega)).mono ?_; rintro e w6 ⟨vy, rfl, oy, b6⟩
  have B6 := B5.trans (b6.mono B5.size)
  have og6 := og5.below b6
  have ow6 := ow5.below b6
  have ox6 := ox5.below b6
  clear B5 b6 og5 ow5 ox5
  go_wp2_with fail
  refine (eqInt64S_same _ _ _ _ ox6.ints oy.ints).mono ?_; rintro e w7 ⟨rfl, b7⟩
  have B7 := B6.trans (b7.mono B6.size)
  have og7 := og6.below b7
  have ow7 := ow6.below b7
  have ox7 := ox6.below b7
  clear B6 b7 og6 ow6 ox6 oy
  go_wp2_with fail
  refine (markInt64S_any _ xs _ 1 _ ox7 (by omega) (by omega)).mono ?_; rintro e w8 ⟨rfl, _, g8⟩
  have B8 := below_marked B7 g8 ox7 hxb
  have og8 := og7.keep g8 (fun g hg hh => apx g hh hg)
  have ow8 := ow7.keep g8 (fun g hg hh => ap g hg hh)
  clear B7 g8 og7 ow7 ox7
  go_wp2_with fail
  refine (eqInt64S_same _ _ _ _ og8.ints ow8.ints).mono ?_; rintro e w9 ⟨rfl, b9⟩
  have B9 := B8.trans (b9.mono B8.size)
  have og9 := og8.below b9
  have ow9 := ow8.below b9
  clear B8 b9 og8 ow8
  go_wp2_with fail
  refine (markInt64S_any _ R.1 _ 1 _ og9 (by omega) (by omega)).mono ?_; rintro e w10 ⟨rfl, og10, g10⟩
  have B10 := below_marked B9 g10 og9 hgb
  have ow10 := ow9.keep g10 (fun g hg hh => apw g hg hh)
  clear B9 g10 og9 ow9
  go_wp2_with fail
  refine (heldInt64S_b _ _ 1 _ og10.ints (by omega) (by omega)).mono ?_; rintro e w11 ⟨rfl, b11⟩
  have B11 := B10.trans (b11.mono B10.size)
  have og11 := og10.below b11
  have ow11 := ow10.below b11
  clear B10 b11 og10 ow10
  go_wp2_with fail
  refine (toInt64S_any _ xs _ (hx.below B11) (by omega)).mono ?_; rintro e w12 ⟨vz, rfl, oz, b12⟩
  have B12 := B11.trans (b12.mono B11.size)
  have og12 := og11.below b12
  have ow12 := ow11.below b12
  clear B11 b12 og11 ow11
  go_wp2_with fail
  refine (implHarmonic_any _ xs s _ oz.ints).mono ?_; rintro e w13 ⟨vh, rfl, oh, b13⟩
  rw [← HR.out] at oh ⊢
  have B13 := B12.trans (b13.mono B12.size)
  have og13 := og12.below b13
  have ow13 := ow12.below b13
  clear B12 b13 og12 ow12 oz
  go_wp2_with fail
  refine (eqInt64S_same _ _ _ _ oh.ints ow13.ints).mono ?_; rintro e w14 ⟨rfl, b14⟩
  have B14 := B13.trans (b14.mono B13.size)
  have og14 := og13.below b14
  clear B13 b14 og13 ow13 oh
  go_wp2_with fail
  refine (heldInt64S_b _ _ 1 _ og14.ints (by omega) (by omega)).mono ?_; rintro e w15 ⟨rfl, b15⟩
  have B15 := B14.trans (b15.mono B14.size)
  clear B14 b15 og14
  go_wp2_with fail
  go_ret
  exact ⟨rfl, B15⟩

end Go.Proofs.Ytbahhkpfbmlcjaa
