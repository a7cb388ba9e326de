/-
  The law FnExactRenderWave, walked.
-/
import Derived.Test.YtfpbnhghceoleaaRend
namespace Go.Proofs.Ytfpbnhghceoleaa
open Go.RowKit

theorem law_FnExactRenderWave (a : Option Addr) (len cap : Nat) (zs : List Int) (s1 : Int) (s2 : Int) (s3 : Int) (w : World) (hrow : IsRow .i64 w a len cap zs) (wf1 : (Lit.int .i64 s1).wf = true) (wf2 : (Lit.int .i64 s2).wf = true) (wf3 : (Lit.int .i64 s3).wf = true) :
    Calls Try.prog 4 #[.slice a len cap, .int .i64 s1, .int .i64 s2, .int .i64 s3] w fun e w' => e = .returned (.bool true) ∧ Below w.heap.size w w' := by
  have bd1 := bd_i64 wf1
  have bd2 := bd_i64 wf2
  have bd3 := bd_i64 wf3
  have hx := Nums.of_row hrow
  have hr := InR.of_row hrow
  have hlen : (zs.take len).length = len := by
    obtain ⟨_, a', cap', hv, _⟩ := hx; simp at hv; simp; omega
  have hl := hx.1
  generalize zs.take len = xs at *
  clear hrow
  by_cases hb : 1048576 < len
  · go_enter Try.func4, Try.ntmps4
    go_wp2
    go_ret
    exact ⟨rfl, Below.refl _ _⟩
  obtain ⟨R, hR⟩ : ∃ R, R = RendF xs s1 s2 s3 := ⟨_, rfl⟩
  have hRl : R.1.length ≤ 1048576 := by rw [hR]; exact rendF_len _ _ _ _
  have HR := Lib.hid hR; clear hR
  have B0 : Below w.heap.size w w := Below.refl _ _
  go_enter Try.func4, Try.ntmps4
  go_wp2_with fail
  refine (toInt64S_any _ xs _ hx (by omega)).mono ?_; rintro e w1 ⟨v_oa, rfl, oa1, b1⟩
  have B1 := B0.trans (b1.mono B0.size)
  have hb_oa : w.heap.size ≤ w.heap.size := B0.size
  clear  b1 B0
  go_wp2_with fail
  refine (specRend_any _ xs s1 s2 s3 _ oa1.ints).mono ?_; rintro e w2 ⟨v_ow, rfl, ow2, b2⟩
  rw [← HR.out] at ow2 ⊢
  have B2 := B1.trans (b2.mono B1.size)
  have hb_ow : w.heap.size ≤ w1.heap.size := B1.size
  have oa2 := oa1.below b2
  have ap_oa_ow := oa1.apart ow2 (Nat.le_refl _)
  clear oa1 b2 B1
  clear oa2
  go_wp2_with fail
  refine (toInt64S_any _ xs _ (hx.below B2) (by omega)).mono ?_; rintro e w3 ⟨v_ox, rfl, ox3, b3⟩
  have B3 := B2.trans (b3.mono B2.size)
  have hb_ox : w.heap.size ≤ w2.heap.size := B2.size
  have ow3 := ow2.below b3
  have ap_ow_ox := ow2.apart ox3 (Nat.le_refl _)
  clear ow2 b3 B2
  go_wp2_with fail
  refine (implRend_any _ xs s1 s2 s3 _ ox3.ints).mono ?_; rintro e w4 ⟨v_og, rfl, og4, b4⟩
  rw [← HR.out] at og4 ⊢
  have B4 := B3.trans (b4.mono B3.size)
  have hb_og : w.heap.size ≤ w3.heap.size := B3.size
  have ow4 := ow3.below b4
  have ox4 := ox3.below b4
  have ap_ow_og := ow3.apart og4 (Nat.le_refl _)
  have ap_ox_og := ox3.apart og4 (Nat.le_refl _)
  clear ow3 ox3 b4 B3
  go_wp2_with fail
  refine (eqInt64S_same _ _ _ _ og4.ints ow4.ints).mono ?_; rintro e w5 ⟨rfl, b5⟩
  have B5 := B4.trans (b5.mono B4.size)
  have ow5 := ow4.below b5
  have ox5 := ox4.below b5
  have og5 := og4.below b5
  clear ow4 ox4 og4 b5 B4
  go_wp2_with fail
  refine (toInt64S_any _ xs _ (hx.below B5) (by omega)).mono ?_; rintro e w6 ⟨v_oy, rfl, oy6, b6⟩
  have B6 := B5.trans (b6.mono B5.size)
  have hb_oy : w.heap.size ≤ w5.heap.size := B5.size
  have ow6 := ow5.below b6
  have ox6 := ox5.below b6
  have og6 := og5.below b6
  have ap_ow_oy := ow5.apart oy6 (Nat.le_refl _)
  have ap_ox_oy := ox5.apart oy6 (Nat.le_refl _)
  have ap_og_oy := og5.apart oy6 (Nat.le_refl _)
  clear ow5 ox5 og5 b6 B5
  go_wp2_with fail
  refine (eqInt64S_same _ _ _ _ ox6.ints oy6.ints).mono ?_; rintro e w7 ⟨rfl, b7⟩
  have B7 := B6.trans (b7.mono B6.size)
  have ow7 := ow6.below b7
  have ox7 := ox6.below b7
  have og7 := og6.below b7
  have oy7 := oy6.below b7
  clear ow6 ox6 og6 oy6 b7 B6
  clear oy7
  go_wp2_with fail
  refine (markInt64S_any _ xs _ 1 _ ox7 (by omega) (by omega)).mono ?_; rintro e w8 ⟨rfl, ox8, g8⟩
  have B8 := below_marked B7 g8 ox7 hb_ox
  have ow8 := ow7.keep g8 (fun g hg hh => ap_ow_ox g hg hh)
  have og8 := og7.keep g8 (fun g hg hh => ap_ox_og g hh hg)
  clear ow7 ox7 og7 g8 B7
  clear ox8
  go_wp2_with fail
  refine (eqInt64S_same _ _ _ _ og8.ints ow8.ints).mono ?_; rintro e w9 ⟨rfl, b9⟩
  have B9 := B8.trans (b9.mono B8.size)
  have ow9 := ow8.below b9
  have og9 := og8.below b9
  clear ow8 og8 b9 B8
  go_wp2_with fail
  refine (markInt64S_any _ R.1 _ 1 _ og9 (by omega) (by omega)).mono ?_; rintro e w10 ⟨rfl, og10, g10⟩
  have B10 := below_marked B9 g10 og9 hb_og
  have ow10 := ow9.keep g10 (fun g hg hh => ap_ow_og g hg hh)
  clear ow9 og9 g10 B9
  go_wp2_with fail
  refine (heldInt64S_b _ _ 1 _ og10.ints (by omega) (by omega)).mono ?_; rintro e w11 ⟨rfl, b11⟩
  have B11 := B10.trans (b11.mono B10.size)
  have ow11 := ow10.below b11
  have og11 := og10.below b11
  clear ow10 og10 b11 B10
  go_wp2_with fail
  refine (toInt64S_any _ xs _ (hx.below B11) (by omega)).mono ?_; rintro e w12 ⟨v_oz, rfl, oz12, b12⟩
  have B12 := B11.trans (b12.mono B11.size)
  have hb_oz : w.heap.size ≤ w11.heap.size := B11.size
  have ow12 := ow11.below b12
  have og12 := og11.below b12
  have ap_ow_oz := ow11.apart oz12 (Nat.le_refl _)
  have ap_og_oz := og11.apart oz12 (Nat.le_refl _)
  clear ow11 og11 b12 B11
  go_wp2_with fail
  refine (implRend_any _ xs s1 s2 s3 _ oz12.ints).mono ?_; rintro e w13 ⟨v_oh, rfl, oh13, b13⟩
  rw [← HR.out] at oh13 ⊢
  have B13 := B12.trans (b13.mono B12.size)
  have hb_oh : w.heap.size ≤ w12.heap.size := B12.size
  have ow13 := ow12.below b13
  have og13 := og12.below b13
  have oz13 := oz12.below b13
  have ap_ow_oh := ow12.apart oh13 (Nat.le_refl _)
  have ap_og_oh := og12.apart oh13 (Nat.le_refl _)
  have ap_oz_oh := oz12.apart oh13 (Nat.le_refl _)
  clear ow12 og12 oz12 b13 B12
  clear oz13
  go_wp2_with fail
  refine (eqInt64S_same _ _ _ _ oh13.ints ow13.ints).mono ?_; rintro e w14 ⟨rfl, b14⟩
  have B14 := B13.trans (b14.mono B13.size)
  have ow14 := ow13.below b14
  have og14 := og13.below b14
  have oh14 := oh13.below b14
  clear ow13 og13 oh13 b14 B13
  clear oh14
  go_wp2_with fail
  refine (heldInt64S_b _ _ 1 _ og14.ints (by omega) (by omega)).mono ?_; rintro e w15 ⟨rfl, b15⟩
  have B15 := B14.trans (b15.mono B14.size)
  have ow15 := ow14.below b15
  have og15 := og14.below b15
  clear ow14 og14 b15 B14
  go_wp2_with fail
  go_ret
  exact ⟨rfl, B15⟩


end Go.Proofs.Ytfpbnhghceoleaa
