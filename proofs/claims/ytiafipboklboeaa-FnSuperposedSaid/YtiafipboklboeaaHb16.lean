/-
  Contracts of functions: l08Render, Render.
-/
import Derived.Test.YtiafipboklboeaaHb14
import Derived.Test.YtiafipboklboeaaHb12
namespace Go.Proofs.Ytiafipboklboeaa
open Go.RowKit
set_option linter.unusedSimpArgs false
set_option linter.unusedVariables false

set_option maxRecDepth 100000
set_option maxHeartbeats 4000000
def T_mHb160 : Tab := fun f => match T_l08Block f with
 | some k => some k
 | none => T_l08Start f
theorem T_mHb160_ok : TabOk Try.prog T_mHb160 := tabM T_l08Block_ok T_l08Start_ok
attribute [go_sem] T_mHb160 T0

def K_l08Render : Con := ⟨[.ptr (.prod (.int .i64) (.prod (.row 26 (.row 2 (.int .i64))) (.prod (.row 83 (.prod (.int .i64) (.prod (.int .i64) (.prod (.int .i64) (.row 2 (.int .i64)))))) (.row 2 (.int .i64))))), .val ((.row 26 (.row 2 (.int .i64)))), .val (.int .i64)], [⟨(.row 26 (.row 2 (.int .i64))), true⟩], fun x => patchB x.1 = true ∧ insOk x.1 x.2.1 ∧ inR x.2.2.1 0 1000000 = true, fun x => renderL x.1 x.2.1 (Int.toNat x.2.2.1)⟩
theorem l08Render_ok : PureT Try.prog 43 K_l08Render := by
  refine pure_of_body Try.func43 rfl ?_
  have hres : Try.f43.results.toList = [.tmp 6] := rfl
  rintro ⟨⟨(pi : Int), (ts : List (List Int)), (ns : List NodeD), (os : List Int)⟩, (ins : List (List Int)), (nn : Int), _⟩ hc hL
  simp only [K_l08Render, go_sem] at hL
  simp only [K_l08Render, St.init, St.initG, Try.ntmps43, go_sem] 
  obtain ⟨hP, hin, hnr⟩ := (show patchB (pi, ts, ns, os) = true ∧ insOk (pi, ts, ns, os) ins ∧ inR nn 0 1000000 = true from hc)
  obtain ⟨hn1, hn2⟩ := inR_iff.1 hnr
  have hF := (patchB_parts hP).1
  have hs0 := startL_ok hF
  have h00 : (0 : Int) ≤ 0 := Int.le_refl _
  have h0n : 0 + nn ≤ 1000000 := by omega
  refine oS fun K1 hK1 => ?_
  refine oW T_mHb160_ok ?_
  simp only [go_sem]
  refine hK1 _ ?_
  refine oS fun K2 hK2 => ?_
  refine oW T_mHb160_ok ?_
  simp only [go_sem]
  repeat (with_reducible first | refine oA ?_ | refine And.intro (by first | exact hP | exact ⟨hP, hs0⟩ | exact ⟨hP, hs0, hin, h00, hn1, h0n⟩ | exact ⟨hP, vals0_ok _, hs0, hin, h00, hn1, h0n⟩ | exact ⟨hP, rfl, vals0_ok _, hs0, hin, h00, hn1, h0n⟩ | exact ⟨hP, hs0, hin, hn2⟩ | exact ⟨hP, hs0, hin, hn1, hn2⟩ | exact ⟨hP, hs0, hin, h00, hn1, hn2⟩ | exact ⟨hP, vals0_ok _, hs0, hin, hn2⟩ | exact ⟨hP, vals0_ok _, hs0, hin, hn1, hn2⟩ | exact ⟨hP, vals0_ok _, hs0, hin, h00, hn1, hn2⟩) ?_)
  refine hK2 _ ?_
  refine oS fun K3 hK3 => ?_
  refine oW T_mHb160_ok ?_
  simp (maxSteps := 2000000) only [go_sem]
  repeat (with_reducible first | refine oA ?_ | refine And.intro (by first | exact hP | exact ⟨hP, hs0⟩ | exact ⟨hP, hs0, hin, h00, hn1, h0n⟩ | exact ⟨hP, vals0_ok _, hs0, hin, h00, hn1, h0n⟩ | exact ⟨hP, rfl, vals0_ok _, hs0, hin, h00, hn1, h0n⟩ | exact ⟨hP, hs0, hin, hn2⟩ | exact ⟨hP, hs0, hin, hn1, hn2⟩ | exact ⟨hP, hs0, hin, h00, hn1, hn2⟩ | exact ⟨hP, vals0_ok _, hs0, hin, hn2⟩ | exact ⟨hP, vals0_ok _, hs0, hin, hn1, hn2⟩ | exact ⟨hP, vals0_ok _, hs0, hin, h00, hn1, hn2⟩) ?_)
  refine hK3 _ ?_
  refine AWP_ret ?_
  simp only [hres, go_sem]
  first | exact oF | exact oFr
def T_l08Render : Tab := fun f => if f = 43 then some (.p K_l08Render) else T_mHb160 f
theorem T_l08Render_ok : TabOk Try.prog T_l08Render := tabP l08Render_ok (fnOk_of Try.func43 rfl (by decide)) T_mHb160_ok
attribute [go_sem] T_l08Render K_l08Render

def K_specRender : Con := ⟨[.val ((.prod (.int .i64) (.prod (.row 26 (.row 2 (.int .i64))) (.prod (.row 83 (.prod (.int .i64) (.prod (.int .i64) (.prod (.int .i64) (.row 2 (.int .i64)))))) (.row 2 (.int .i64)))))), .val ((.row 26 (.row 2 (.int .i64)))), .val (.int .i64)], [⟨(.row 26 (.row 2 (.int .i64))), true⟩, ⟨.int .i64, true⟩], fun _ => True, fun x => renderR x.1 x.2.1 x.2.2.1⟩
theorem specRender_ok : PureT Try.prog 18 K_specRender := by
  refine pure_of_body Try.func18 rfl ?_
  have hres : Try.f18.results.toList = [.tmp 6, .tmp 7] := rfl
  rintro ⟨⟨(pi : Int), (ts : List (List Int)), (ns : List NodeD), (os : List Int)⟩, (ins : List (List Int)), (nn : Int), _⟩ hc hL
  simp only [K_specRender, go_sem] at hL
  simp only [K_specRender, St.init, St.initG, Try.ntmps18, go_sem] 
  refine oS fun K1 hK1 => ?_
  refine oW T_l08Render_ok ?_
  simp only [go_sem]
  refine hK1 _ ?_
  refine oS fun K2 hK2 => ?_
  refine oS fun K3 hK3 => ?_
  refine oW T_l08Render_ok ?_
  simp only [go_sem]
  repeat (with_reducible refine oA ?_)
  refine hK3 _ ?_
  refine oC rfl ?_ ?_
  ·
   intro c0
   refine oS fun K4 hK4 => ?_
   refine oW T_l08Render_ok ?_
   simp only [go_sem]
   refine hK4 _ ?_
   refine AWP_ret ?_
   simp only [hres, go_sem]
   first | exact oF | (refine ⟨?_, oF⟩; first | (rw [renderR_1 c0]; exact ⟨rfl, rfl⟩) | (rw [renderR_1 c0]))
  intro c0
  refine AWP_skip ?_
  simp only [go_sem]
  refine hK2 _ ?_
  refine oS fun K5 hK5 => ?_
  refine oS fun K6 hK6 => ?_
  refine oW T_l08Render_ok ?_
  simp (maxSteps := 2000000) only [go_sem]
  repeat' (with_reducible first | refine oA ?_ | refine oT (fun g3 => ?_) (fun g3 => ?_) | refine oE (fun g3 => ?_) (fun g3 => ?_))
  all_goals
   refine hK6 _ ?_
   refine AWP_cond rfl ?_ ?_
   ·
    intro c1
    try simp only [decide_eq_true_eq, decide_eq_false_iff_not, Bool.not_eq_true', Bool.not_eq_false', ne_eq, Int.not_lt, Int.not_le, Bool.true_eq_false, Bool.false_eq_true] at c1
    all_goals
     refine oS fun K7 hK7 => ?_
     refine oW T_l08Render_ok ?_
     simp only [go_sem]
     refine hK7 _ ?_
     refine AWP_ret ?_
     simp only [hres, go_sem]
     first
      | exact oF
      | refine ⟨?_, oF⟩
        have hq : (sigB (pi, ts, ns, os) ins && inR nn 0 4000) = false := by first | (rw [show sigB (pi, ts, ns, os) ins = false by assumption]; rfl) | (rw [show inR nn 0 4000 = false by assumption, Bool.and_false])
        first | (rw [renderR_2 c0 hq]; exact ⟨rfl, rfl⟩) | (rw [renderR_2 c0 hq])
   ·
    intro c1
    try simp only [decide_eq_true_eq, decide_eq_false_iff_not, Bool.not_eq_true', Bool.not_eq_false', ne_eq, Int.not_lt, Int.not_le, Bool.true_eq_false, Bool.false_eq_true] at c1
    all_goals
     have hsg : sigB (pi, ts, ns, os) ins = true := by assumption
     have hnz : inR nn 0 4000 = true := by assumption
     obtain ⟨hz1, hz2⟩ := inR_iff.1 hnz
     have hrc : patchB (pi, ts, ns, os) = true ∧ insOk (pi, ts, ns, os) ins ∧ inR nn 0 1000000 = true := ⟨c0, sigB_iff.1 hsg, inR_t (by omega) (by omega)⟩
     refine AWP_skip ?_
     simp only [go_sem]
     refine hK5 _ ?_
     refine oS fun K8 hK8 => ?_
     refine oW T_l08Render_ok ?_
     simp (maxSteps := 2000000) only [go_sem]
     repeat (with_reducible first | refine oA ?_ | refine And.intro (by first | exact hrc) ?_)
     refine hK8 _ ?_
     refine AWP_ret ?_
     simp only [hres, go_sem]
     first
      | exact oF
      | refine ⟨?_, oF⟩
        have hq : (sigB (pi, ts, ns, os) ins && inR nn 0 4000) = true := by rw [show sigB (pi, ts, ns, os) ins = true by assumption, show inR nn 0 4000 = true by assumption]; rfl
        first | (rw [renderR_0 c0 hq]; exact ⟨rfl, rfl⟩) | (rw [renderR_0 c0 hq])
def T_specRender : Tab := fun f => if f = 18 then some (.p K_specRender) else T_l08Render f
theorem T_specRender_ok : TabOk Try.prog T_specRender := tabP specRender_ok (fnOk_of Try.func18 rfl (by decide)) T_l08Render_ok
attribute [go_sem] T_specRender K_specRender

end Go.Proofs.Ytiafipboklboeaa
