/-
  Contracts of functions: l00Own, l07Own.
-/
import Derived.Test.YtiafipboklboeaaGa1
import Derived.Test.YtiafipboklboeaaPe
namespace Go.Proofs.Ytiafipboklboeaa
open Go.RowKit
set_option linter.unusedSimpArgs false
set_option linter.unusedVariables false

set_option maxRecDepth 100000
set_option maxHeartbeats 4000000
def K_l00Own : Con := ⟨[.val ((.row 2 (.int .i64)))], [⟨(.row 2 (.int .i64)), true⟩], fun x => x.1.length ≤ 1099511627776, fun x => x.1⟩
theorem l00Own_ok : PureT Try.prog 116 K_l00Own := by
  refine pure_of_body Try.func116 rfl ?_
  have hres : Try.f116.results.toList = [.tmp 2] := rfl
  rintro ⟨(xs : List Int), _⟩ hc hL
  simp only [K_l00Own, go_sem] at hL
  simp only [K_l00Own, St.init, St.initG, Try.ntmps116, go_sem] 
  have hx : xs.length ≤ 1099511627776 := hc
  refine oS fun K1 hK1 => ?_
  refine oW T_kinds_ok ?_
  simp only [go_sem]
  refine hK1 _ ?_
  refine oS fun K2 hK2 => ?_
  refine oW T_kinds_ok ?_
  simp only [go_sem]
  repeat (with_reducible refine oA ?_)
  refine hK2 _ ?_
  refine AWP_ret ?_
  simp only [hres, go_sem]
  first | exact oF | exact oFr
def T_l00Own : Tab := fun f => if f = 116 then some (.p K_l00Own) else T_kinds f
theorem T_l00Own_ok : TabOk Try.prog T_l00Own := tabP l00Own_ok (fnOk_of Try.func116 rfl (by decide)) T_kinds_ok
attribute [go_sem] T_l00Own K_l00Own

def T_l07Own : Tab := T_l00Own
theorem T_l07Own_ok : TabOk Try.prog T_l07Own := T_l00Own_ok
attribute [go_sem] T_l07Own
end Go.Proofs.Ytiafipboklboeaa
