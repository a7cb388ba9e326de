/-
  Contracts of functions: isPatch, unionCode.
-/
import Derived.Test.YtflaacndokbddaaGreatGa5
import Derived.Test.YtflaacndokbddaaGreatGa4
import Derived.Test.YtflaacndokbddaaGreatPe
namespace Go.Proofs.YtflaacndokbddaaGreat
open Go.RowKit
set_option linter.unusedSimpArgs false
set_option linter.unusedVariables false

set_option maxRecDepth 100000
set_option maxHeartbeats 1000000
def T_mGa70 : Tab := fun f => match T_isWellFormed f with
 | some k => some k
 | none => T_order f
theorem T_mGa70_ok : TabOk Tryz.prog T_mGa70 := tabM T_isWellFormed_ok T_order_ok
attribute [go_sem] T_mGa70 T0

def K_isPatch : Con := ⟨[.val ((.prod (.int .i64) (.prod (.row 26 (.row 2 (.int .i64))) (.prod (.row 90 (.prod (.int .i64) (.prod (.int .i64) (.prod (.int .i64) (.row 2 (.int .i64)))))) (.row 2 (.int .i64))))))], [⟨.bool, true⟩], fun _ => True, fun x => patchB x.1⟩
theorem isPatch_ok : PureT Tryz.prog 47 K_isPatch := by
  refine pure_of_body Tryz.func47 rfl ?_
  have hres : Tryz.f47.results.toList = [.tmp 2] := rfl
  rintro ⟨⟨(pi : Int), (ts : List (List Int)), (ns : List NodeD), (os : List Int)⟩, _⟩ hc hL
  simp only [K_isPatch, go_sem] at hL
  obtain ⟨⟨lts, lts2⟩, ⟨lns, lns2⟩, los⟩ := hL
  simp only [K_isPatch, St.init, St.initG, Tryz.ntmps47, go_sem] 
  refine oS fun K1 hK1 => ?_
  refine oW T_mGa70_ok ?_
  simp only [go_sem]
  repeat (with_reducible first | refine oA ?_ | refine And.intro (by first | clear hK1; simp_all) ?_)
  refine hK1 _ ?_
  refine oS fun K2 hK2 => ?_
  refine oR T_mGa70_ok
    [[], [0], [0, 1], [0, 1, 2], [0, 1, 2, 3], [0, 1, 2, 3, 4], [0, 1, 2], [0, 1, 2, 6], [0, 1, 2, 6, 7], [0, 1, 2, 3, 4, 5, 6, 7, 8], [0, 1, 2, 3, 4, 5, 6, 7, 8, 9], [0, 1, 2, 3, 4, 5, 6, 7, 8, 9, 10]]
    [[], [], [], [], [], [], [212, 213, 214, 215, 216, 217, 218, 219, 220, 221, 222, 223, 224, 225, 226, 227], [212, 213, 214, 215, 216, 217, 218, 219, 220, 221, 222, 223, 224, 225, 226, 227], [212, 213, 214, 215, 216, 217, 218, 219, 220, 221, 222, 223, 224, 225, 226, 227], [], [], []]
    [[], [], [], [], [212, 213, 214, 215, 216, 217, 218, 219, 220, 221, 222, 223, 224, 225, 226, 227], [], [], [], [], [], [], []] (by kernel_rfl) (by kernel_rfl) (adrawR_ok (acc := []) ?_)
  simp (maxSteps := 2000000) only [go_sem]
  repeat' (with_reducible first | refine oD ?_ | refine And.intro (by first | clear hK1 hK2; simp_all) ?_ | refine oT (fun g1 => ?_) (fun g1 => ?_) | refine oE (fun g1 => ?_) (fun g1 => ?_))
  all_goals
   refine hK2 _ ?_
   refine AWP_ret ?_
   simp only [hres, go_sem]
   first | exact oF | (refine ⟨?_, oF⟩; clear hK1 hK2; simp_all [patchB] <;> first | rfl | exact decide_eq_decide.2 (by omega))
def T_isPatch : Tab := fun f => if f = 47 then some (.p K_isPatch) else T_mGa70 f
theorem T_isPatch_ok : TabOk Tryz.prog T_isPatch := tabP isPatch_ok (fnOk_of Tryz.func47 rfl (by decide)) T_mGa70_ok
attribute [go_sem] T_isPatch K_isPatch

def T_unionCode : Tab := T_isPatch
theorem T_unionCode_ok : TabOk Tryz.prog T_unionCode := T_isPatch_ok
attribute [go_sem] T_unionCode
end Go.Proofs.YtflaacndokbddaaGreat
