/-
  Texts of this claim, joined (part 39). No condition beyond those of the theorems.
-/
import Derived.Test.YtenjbehedcegdaaR06
import Derived.Test.YtenjbehedcegdaaR05
namespace Go.Proofs.Ytenjbehedcegdaa
open Go.RowKit
set_option linter.unusedSimpArgs false
set_option linter.unusedVariables false
set_option maxRecDepth 100000
set_option maxHeartbeats 1000000
def K_clone:Con:=⟨[.val ((.row 2 (.int .i64)))],[⟨(.row 2 (.int .i64)),true⟩],fun x=>x.1.length≤1099511627776,fun x=>x.1⟩
theorem clone_ok:PureT Try.prog 62 K_clone:=by
  refine pure_of_body Try.func62 rfl ?_
  have hres:Try.f62.results.toList=[.tmp 2]:=rfl
  rintro⟨(xs:List Int),_⟩ hc hL
  simp only[K_clone,go_sem] at hL
  simp only[K_clone,St.init,St.initG,Try.ntmps62,go_sem] 
  have hx:xs.length≤1099511627776:=hc
  refine oS fun _ hK1=>?_
  refine oW T_kinds_ok ?_
  simp only[go_sem]
  refine hK1 _ ?_
  refine oS fun _ hK2=>?_
  refine oW T_kinds_ok ?_
  simp only[go_sem]
  repeat(with_reducible refine oA ?_)
  refine hK2 _ ?_
  refine AWP_ret ?_
  simp only[hres,go_sem]
  first|exact oF|exact oFr
def T_clone:Tab:=fun f=>if f=62 then some (.p K_clone) else T_kinds f
theorem T_clone_ok:TabOk Try.prog T_clone:=tabP clone_ok (fnOk_of Try.func62 rfl (by decide)) T_kinds_ok
attribute [go_sem] T_clone K_clone
def T_clones:Tab:=T_clone
theorem T_clones_ok:TabOk Try.prog T_clones:=T_clone_ok
attribute [go_sem] T_clones
def T_shiftedNode:Tab:=T_clones
attribute [go_sem] T_shiftedNode
end Go.Proofs.Ytenjbehedcegdaa
