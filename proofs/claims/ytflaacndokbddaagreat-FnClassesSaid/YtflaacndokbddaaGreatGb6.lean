/-
  Contracts of functions: l07Ok, l12Ask.
-/
import Derived.Test.YtflaacndokbddaaGreatGb4
import Derived.Test.YtflaacndokbddaaGreatGb5
namespace Go.Proofs.YtflaacndokbddaaGreat
open Go.RowKit
set_option linter.unusedSimpArgs false
set_option linter.unusedVariables false

set_option maxRecDepth 100000
set_option maxHeartbeats 1000000
def T_mGb60 : Tab := fun f => match T_l07Formed f with
 | some k => some k
 | none => T_l07Order f
theorem T_mGb60_ok : TabOk Tryz.prog T_mGb60 := tabM T_l07Formed_ok T_l07Order_ok
attribute [go_sem] T_mGb60 T0

def K_l07Ok : Con := ⟨[.ptr (.prod (.int .i64) (.prod (.row 26 (.row 2 (.int .i64))) (.prod (.row 90 (.prod (.int .i64) (.prod (.int .i64) (.prod (.int .i64) (.row 2 (.int .i64)))))) (.row 2 (.int .i64)))))], [⟨.bool, true⟩], fun _ => True, fun x => patchB x.1⟩
theorem l07Ok_ok : PureT Tryz.prog 50 K_l07Ok := by
  refine pure_of_body Tryz.func50 rfl ?_
  have hres : Tryz.f50.results.toList = [.tmp 2] := rfl
  rintro ⟨⟨(pi : Int), (ts : List (List Int)), (ns : List NodeD), (os : List Int)⟩, _⟩ hc hL
  simp only [K_l07Ok, go_sem] at hL
  obtain ⟨⟨lts, lts2⟩, ⟨lns, lns2⟩, los⟩ := hL
  simp only [K_l07Ok, St.init, St.initG, Tryz.ntmps50, go_sem] 
  refine oS fun K1 hK1 => ?_
  refine oW T_mGb60_ok ?_
  simp only [go_sem]
  repeat (with_reducible first | refine oA ?_ | refine And.intro (by first | assumption) ?_)
  refine hK1 _ ?_
  refine oS fun K2 hK2 => ?_
  refine oS fun K3 hK3 => ?_
  refine oW T_mGb60_ok ?_
  simp only [go_sem]
  repeat (with_reducible first | refine oA ?_ | refine And.intro (by first | assumption) ?_)
  refine hK3 _ ?_
  refine oC rfl ?_ ?_
  ·
   intro c0
   refine oS fun K4 hK4 => ?_
   refine oW T_mGb60_ok ?_
   simp only [go_sem]
   repeat (with_reducible first | refine oA ?_ | refine And.intro (by first | assumption) ?_)
   refine hK4 _ ?_
   refine AWP_ret ?_
   simp only [hres, go_sem]
   first | exact oF | (refine ⟨?_, oF⟩; clear hK1 hK2 hK3 hK4; unfold patchB; simp_all [ordR] <;> (split <;> simp_all))
  intro c0
  refine AWP_skip ?_
  simp only [go_sem]
  refine hK2 _ ?_
  refine oS fun K5 hK5 => ?_
  refine oW T_mGb60_ok ?_
  simp (maxSteps := 2000000) only [go_sem]
  repeat (with_reducible first | refine oA ?_ | refine And.intro (by first | assumption) ?_)
  refine hK5 _ ?_
  refine oS fun K6 hK6 => ?_
  refine oW T_mGb60_ok ?_
  simp only [go_sem]
  repeat (with_reducible first | refine oA ?_ | refine And.intro (by first | assumption) ?_)
  refine hK6 _ ?_
  refine AWP_ret ?_
  simp only [hres, go_sem]
  first | exact oF | (refine ⟨?_, oF⟩; clear hK1 hK2 hK3 hK5 hK6; unfold patchB; simp_all [ordR] <;> (split <;> simp_all))
def T_l07Ok : Tab := fun f => if f = 50 then some (.p K_l07Ok) else T_mGb60 f
theorem T_l07Ok_ok : TabOk Tryz.prog T_l07Ok := tabP l07Ok_ok (fnOk_of Tryz.func50 rfl (by decide)) T_mGb60_ok
attribute [go_sem] T_l07Ok K_l07Ok

def T_l12Ask : Tab := T_l07Ok
theorem T_l12Ask_ok : TabOk Tryz.prog T_l12Ask := T_l07Ok_ok
attribute [go_sem] T_l12Ask
end Go.Proofs.YtflaacndokbddaaGreat
