/-
  Contracts of functions: render, Render.
-/
import Derived.Test.YtiafipboklboeaaHb13
import Derived.Test.YtiafipboklboeaaHb11
import Derived.Test.YtiafipboklboeaaHt1
namespace Go.Proofs.Ytiafipboklboeaa
open Go.RowKit
set_option linter.unusedSimpArgs false
set_option linter.unusedVariables false

set_option maxRecDepth 100000
set_option maxHeartbeats 4000000
def T_mHb150 : Tab := fun f => match T_plBlock f with
 | some k => some k
 | none => T_startState f
theorem T_mHb150_ok : TabOk Try.prog T_mHb150 := tabM T_plBlock_ok T_startState_ok
attribute [go_sem] T_mHb150 T0

def T_mHb151 : Tab := fun f => match T_mHb150 f with
 | some k => some k
 | none => T_playerOf f
theorem T_mHb151_ok : TabOk Try.prog T_mHb151 := tabM T_mHb150_ok T_playerOf_ok
attribute [go_sem] T_mHb151 T0

def K_implRender0 : Con := ⟨[.val ((.prod (.int .i64) (.prod (.row 26 (.row 2 (.int .i64))) (.prod (.row 83 (.prod (.int .i64) (.prod (.int .i64) (.prod (.int .i64) (.row 2 (.int .i64)))))) (.row 2 (.int .i64)))))), .val ((.row 26 (.row 2 (.int .i64)))), .val (.int .i64)], [⟨(.row 26 (.row 2 (.int .i64))), true⟩], fun x => patchB x.1 = true ∧ insOk x.1 x.2.1 ∧ inR x.2.2.1 0 1000000 = true, fun x => renderL x.1 x.2.1 (Int.toNat x.2.2.1)⟩
theorem implRender0_ok : PureT Try.prog 29 K_implRender0 := by
  refine pure_of_body Try.func29 rfl ?_
  have hres : Try.f29.results.toList = [.tmp 6] := rfl
  rintro ⟨⟨(pi : Int), (ts : List (List Int)), (ns : List NodeD), (os : List Int)⟩, (ins : List (List Int)), (nn : Int), _⟩ hc hL
  simp only [K_implRender0, go_sem] at hL
  simp only [K_implRender0, St.init, St.initG, Try.ntmps29, go_sem] 
  obtain ⟨hP, hin, hnr⟩ := (show patchB (pi, ts, ns, os) = true ∧ insOk (pi, ts, ns, os) ins ∧ inR nn 0 1000000 = true from hc)
  obtain ⟨hn1, hn2⟩ := inR_iff.1 hnr
  have hF := (patchB_parts hP).1
  have hs0 := startL_ok hF
  have h00 : (0 : Int) ≤ 0 := Int.le_refl _
  have h0n : 0 + nn ≤ 1000000 := by omega
  refine oS fun K1 hK1 => ?_
  refine oW T_mHb151_ok ?_
  simp only [go_sem]
  refine hK1 _ ?_
  refine oS fun K2 hK2 => ?_
  refine oR T_mHb151_ok
    [[], [], [1], [0, 1, 2], [], [], [0, 1, 2, 3, 4, 5], [0, 1, 2, 3, 4, 5, 6]]
    [[244, 245, 246, 247, 248, 249, 250, 251, 252, 253, 254, 255, 256, 257, 258, 259, 260, 261, 262, 263], [], [], [], [244, 245, 246, 247, 248, 249, 250, 251, 252, 253, 254, 255, 256, 257, 258, 259, 260, 261, 262, 263, 264, 265, 266, 267, 268, 269, 270, 271, 272, 273, 274, 275], [244, 245, 246, 247, 248, 249, 250, 251, 252, 253, 254, 255, 256, 257, 258, 259, 260, 261, 262, 263, 264, 265, 266, 267, 268, 269, 270, 271, 272, 273, 274, 275], [], []]
    [[], [], [244, 245, 246, 247, 248, 249, 250, 251, 252, 253, 254, 255, 256, 257, 258, 259, 260, 261, 262, 263], [260, 261, 262, 263, 264, 265, 266, 267, 268, 269, 270, 271, 272, 273, 274, 275], [], [], [], []] (by kernel_rfl) (by kernel_rfl) (adrawR_ok (acc := []) ?_)
  simp (maxSteps := 2000000) only [go_sem]
  repeat (with_reducible first | refine oD ?_ | refine And.intro (by first | exact hP | exact ⟨hP, hs0⟩ | exact ⟨hP, hs0, hin, h00, hn1, h0n⟩ | exact ⟨hP, vals0_ok _, hs0, hin, h00, hn1, h0n⟩ | exact ⟨hP, rfl, vals0_ok _, hs0, hin, h00, hn1, h0n⟩ | exact ⟨hP, hs0, hin, hn2⟩ | exact ⟨hP, hs0, hin, hn1, hn2⟩ | exact ⟨hP, hs0, hin, h00, hn1, hn2⟩ | exact ⟨hP, vals0_ok _, hs0, hin, hn2⟩ | exact ⟨hP, vals0_ok _, hs0, hin, hn1, hn2⟩ | exact ⟨hP, vals0_ok _, hs0, hin, h00, hn1, hn2⟩) ?_)
  refine hK2 _ ?_
  refine AWP_ret ?_
  simp only [hres, go_sem]
  first | exact oF | exact oFr
def T_implRender0 : Tab := fun f => if f = 29 then some (.p K_implRender0) else T_mHb151 f
theorem T_implRender0_ok : TabOk Try.prog T_implRender0 := tabP implRender0_ok (fnOk_of Try.func29 rfl (by decide)) T_mHb151_ok
attribute [go_sem] T_implRender0 K_implRender0

def K_implRender : Con := ⟨[.val ((.prod (.int .i64) (.prod (.row 26 (.row 2 (.int .i64))) (.prod (.row 83 (.prod (.int .i64) (.prod (.int .i64) (.prod (.int .i64) (.row 2 (.int .i64)))))) (.row 2 (.int .i64)))))), .val ((.row 26 (.row 2 (.int .i64)))), .val (.int .i64)], [⟨(.row 26 (.row 2 (.int .i64))), true⟩, ⟨.int .i64, true⟩], fun _ => True, fun x => renderR x.1 x.2.1 x.2.2.1⟩
theorem implRender_ok : PureT Try.prog 8 K_implRender := by
  refine pure_of_body Try.func8 rfl ?_
  have hres : Try.f8.results.toList = [.tmp 6, .tmp 7] := rfl
  rintro ⟨⟨(pi : Int), (ts : List (List Int)), (ns : List NodeD), (os : List Int)⟩, (ins : List (List Int)), (nn : Int), _⟩ hc hL
  simp only [K_implRender, go_sem] at hL
  simp only [K_implRender, St.init, St.initG, Try.ntmps8, go_sem] 
  refine oS fun K1 hK1 => ?_
  refine oW T_implRender0_ok ?_
  simp only [go_sem]
  refine hK1 _ ?_
  refine oS fun K2 hK2 => ?_
  refine oS fun K3 hK3 => ?_
  refine oW T_implRender0_ok ?_
  simp only [go_sem]
  repeat (with_reducible refine oA ?_)
  refine hK3 _ ?_
  refine oC rfl ?_ ?_
  ·
   intro c0
   refine oS fun K4 hK4 => ?_
   refine oW T_implRender0_ok ?_
   simp only [go_sem]
   refine hK4 _ ?_
   refine AWP_ret ?_
   simp only [hres, go_sem]
   first | exact oF | (refine ⟨?_, oF⟩; first | (rw [renderR_1 c0]; exact ⟨rfl, rfl⟩) | (rw [renderR_1 c0]))
  intro c0
  refine AWP_skip ?_
  simp only [go_sem]
  refine hK2 _ ?_
  refine oS fun K5 hK5 => ?_
  refine oS fun K6 hK6 => ?_
  refine oW T_implRender0_ok ?_
  simp (maxSteps := 2000000) only [go_sem]
  repeat' (with_reducible first | refine oA ?_ | refine oT (fun g3 => ?_) (fun g3 => ?_) | refine oE (fun g3 => ?_) (fun g3 => ?_))
  all_goals
   refine hK6 _ ?_
   refine AWP_cond rfl ?_ ?_
   ·
    intro c1
    try simp only [decide_eq_true_eq, decide_eq_false_iff_not, Bool.not_eq_true', Bool.not_eq_false', ne_eq, Int.not_lt, Int.not_le, Bool.true_eq_false, Bool.false_eq_true] at c1
    all_goals
     refine oS fun K7 hK7 => ?_
     refine oW T_implRender0_ok ?_
     simp only [go_sem]
     refine hK7 _ ?_
     refine AWP_ret ?_
     simp only [hres, go_sem]
     first
      | exact oF
      | refine ⟨?_, oF⟩
        have hq : (sigB (pi, ts, ns, os) ins && inR nn 0 4000) = false := by first | (rw [show sigB (pi, ts, ns, os) ins = false by assumption]; rfl) | (rw [show inR nn 0 4000 = false by assumption, Bool.and_false])
        first | (rw [renderR_2 c0 hq]; exact ⟨rfl, rfl⟩) | (rw [renderR_2 c0 hq])
   ·
    intro c1
    try simp only [decide_eq_true_eq, decide_eq_false_iff_not, Bool.not_eq_true', Bool.not_eq_false', ne_eq, Int.not_lt, Int.not_le, Bool.true_eq_false, Bool.false_eq_true] at c1
    all_goals
     have hsg : sigB (pi, ts, ns, os) ins = true := by assumption
     have hnz : inR nn 0 4000 = true := by assumption
     obtain ⟨hz1, hz2⟩ := inR_iff.1 hnz
     have hrc : patchB (pi, ts, ns, os) = true ∧ insOk (pi, ts, ns, os) ins ∧ inR nn 0 1000000 = true := ⟨c0, sigB_iff.1 hsg, inR_t (by omega) (by omega)⟩
     refine AWP_skip ?_
     simp only [go_sem]
     refine hK5 _ ?_
     refine oS fun K8 hK8 => ?_
     refine oW T_implRender0_ok ?_
     simp (maxSteps := 2000000) only [go_sem]
     repeat (with_reducible first | refine oA ?_ | refine And.intro (by first | exact hrc) ?_)
     refine hK8 _ ?_
     refine AWP_ret ?_
     simp only [hres, go_sem]
     first
      | exact oF
      | refine ⟨?_, oF⟩
        have hq : (sigB (pi, ts, ns, os) ins && inR nn 0 4000) = true := by rw [show sigB (pi, ts, ns, os) ins = true by assumption, show inR nn 0 4000 = true by assumption]; rfl
        first | (rw [renderR_0 c0 hq]; exact ⟨rfl, rfl⟩) | (rw [renderR_0 c0 hq])
def T_implRender : Tab := fun f => if f = 8 then some (.p K_implRender) else T_implRender0 f
theorem T_implRender_ok : TabOk Try.prog T_implRender := tabP implRender_ok (fnOk_of Try.func8 rfl (by decide)) T_implRender0_ok
attribute [go_sem] T_implRender K_implRender

end Go.Proofs.Ytiafipboklboeaa
