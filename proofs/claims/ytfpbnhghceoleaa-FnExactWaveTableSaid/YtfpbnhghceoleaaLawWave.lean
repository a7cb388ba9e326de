/-
  The law FnExactWaveTable, walked.
-/
import Derived.Test.YtfpbnhghceoleaaWave
namespace Go.Proofs.Ytfpbnhghceoleaa
open Go.RowKit

theorem waveF_len (kind n p : Int) : (WaveF kind n p).1.length ≤ 1048576 := by
  unfold WaveF
  split
  · split
    · rename_i h; simp only [Bool.and_eq_true, szB_true] at h; simp; omega
    · simp
  · simp

theorem law_FnExactWaveTable (s0 : Int) (s1 : Int) (s2 : Int) (w : World) (wf0 : (Lit.int .i64 s0).wf = true) (wf1 : (Lit.int .i64 s1).wf = true) (wf2 : (Lit.int .i64 s2).wf = true) :
    Calls Try.prog 5 #[.int .i64 s0, .int .i64 s1, .int .i64 s2] w fun e w' => e = .returned (.bool true) ∧ Below w.heap.size w w' := by
  have bd0 := bd_i64 wf0
  have bd1 := bd_i64 wf1
  have bd2 := bd_i64 wf2
  obtain ⟨R, hR⟩ : ∃ R, R = WaveF s0 s1 s2 := ⟨_, rfl⟩
  have hRl : R.1.length ≤ 1048576 := by rw [hR]; exact waveF_len _ _ _
  have HR := Lib.hid hR; clear hR
  have B0 : Below w.heap.size w w := Below.refl _ _
  go_enter Try.func5, Try.ntmps5
  go_wp2_with fail
  refine (specWave_any s0 s1 s2 _).mono ?_; rintro e w1 ⟨v_ow, rfl, ow1, b1⟩
  rw [← HR.out] at ow1 ⊢
  have B1 := B0.trans (b1.mono B0.size)
  have hb_ow : w.heap.size ≤ w.heap.size := B0.size
  clear  b1 B0
  go_wp2_with fail
  refine (implWave_any s0 s1 s2 _).mono ?_; rintro e w2 ⟨v_og, rfl, og2, b2⟩
  rw [← HR.out] at og2 ⊢
  have B2 := B1.trans (b2.mono B1.size)
  have hb_og : w.heap.size ≤ w1.heap.size := B1.size
  have ow2 := ow1.below b2
  have ap_ow_og := ow1.apart og2 (Nat.le_refl _)
  clear ow1 b2 B1
  go_wp2_with fail
  refine (eqInt64S_same _ _ _ _ og2.ints ow2.ints).mono ?_; rintro e w3 ⟨rfl, b3⟩
  have B3 := B2.trans (b3.mono B2.size)
  have ow3 := ow2.below b3
  have og3 := og2.below b3
  clear ow2 og2 b3 B2
  go_wp2_with fail
  refine (markInt64S_any _ R.1 _ 1 _ og3 (by omega) (by omega)).mono ?_; rintro e w4 ⟨rfl, og4, g4⟩
  have B4 := below_marked B3 g4 og3 hb_og
  have ow4 := ow3.keep g4 (fun g hg hh => ap_ow_og g hg hh)
  clear ow3 og3 g4 B3
  go_wp2_with fail
  refine (heldInt64S_b _ _ 1 _ og4.ints (by omega) (by omega)).mono ?_; rintro e w5 ⟨rfl, b5⟩
  have B5 := B4.trans (b5.mono B4.size)
  have ow5 := ow4.below b5
  have og5 := og4.below b5
  clear ow4 og4 b5 B4
  go_wp2_with fail
  refine (implWave_any s0 s1 s2 _).mono ?_; rintro e w6 ⟨v_oh, rfl, oh6, b6⟩
  rw [← HR.out] at oh6 ⊢
  have B6 := B5.trans (b6.mono B5.size)
  have hb_oh : w.heap.size ≤ w5.heap.size := B5.size
  have ow6 := ow5.below b6
  have og6 := og5.below b6
  have ap_ow_oh := ow5.apart oh6 (Nat.le_refl _)
  have ap_og_oh := og5.apart oh6 (Nat.le_refl _)
  clear ow5 og5 b6 B5
  go_wp2_with fail
  refine (eqInt64S_same _ _ _ _ oh6.ints ow6.ints).mono ?_; rintro e w7 ⟨rfl, b7⟩
  have B7 := B6.trans (b7.mono B6.size)
  have ow7 := ow6.below b7
  have og7 := og6.below b7
  have oh7 := oh6.below b7
  clear ow6 og6 oh6 b7 B6
  clear oh7
  go_wp2_with fail
  refine (heldInt64S_b _ _ 1 _ og7.ints (by omega) (by omega)).mono ?_; rintro e w8 ⟨rfl, b8⟩
  have B8 := B7.trans (b8.mono B7.size)
  have ow8 := ow7.below b8
  have og8 := og7.below b8
  clear ow7 og7 b8 B7
  go_wp2_with fail
  go_ret
  exact ⟨rfl, B8⟩


end Go.Proofs.Ytfpbnhghceoleaa
