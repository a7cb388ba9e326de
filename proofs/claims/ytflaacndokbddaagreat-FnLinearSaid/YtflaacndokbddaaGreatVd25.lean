/-
  Texts of this claim, joined (part 25). No condition beyond those of the theorems.
-/
import Derived.Test.YtflaacndokbddaaGreatVd07
import Derived.Test.YtflaacndokbddaaGreatVd05
namespace Go.Proofs.YtflaacndokbddaaGreat
open Go.RowKit
set_option linter.unusedSimpArgs false
set_option linter.unusedVariables false
set_option maxRecDepth 100000
set_option maxHeartbeats 1000000
def K_clone:Con:=⟨[.val ((.row 2 (.int .i64)))],[⟨(.row 2 (.int .i64)),true⟩],fun x=>x.1.length≤1099511627776,fun x=>x.1⟩
theorem clone_ok:PureT Tryz.prog 112 K_clone:=by
  refine pure_of_body Tryz.func112 rfl ?_
  have hres:Tryz.f112.results.toList=[.tmp 2]:=rfl
  rintro ⟨(xs:List Int),_⟩ hc hL
  simp only[K_clone,go_sem] at hL
  simp only[K_clone,St.init,St.initG,Tryz.ntmps112,go_sem] 
  have hx:xs.length≤1099511627776:=hc
  refine oS fun _ hK1=>?_
  refine oW T_kinds_ok ?_
  simp only[go_sem]
  refine hK1 _ ?_
  refine oS fun _ hK2=>?_
  refine oW T_kinds_ok ?_
  simp only[go_sem]
  repeat (with_reducible refine oA ?_)
  refine hK2 _ ?_
  refine AWP_ret ?_
  simp only[hres,go_sem]
  first | exact oF | exact oFr
def T_clone:Tab:=fun f=>if f=112 then some (.p K_clone) else T_kinds f
theorem T_clone_ok:TabOk Tryz.prog T_clone:=tabP clone_ok (fnOk_of Tryz.func112 rfl (by decide)) T_kinds_ok
attribute [go_sem] T_clone K_clone
def K_clones:Con:=⟨[.val ((.row 26 (.row 2 (.int .i64))))],[⟨(.row 26 (.row 2 (.int .i64))),true⟩],fun x=>fitsL x.1,fun x=>x.1⟩
theorem clones_ok:PureT Tryz.prog 51 K_clones:=by
  refine pure_of_body Tryz.func51 rfl ?_
  have hres:Tryz.f51.results.toList=[.tmp 2]:=rfl
  rintro ⟨(xs:List (List Int)),_⟩ hc hL
  simp only[K_clones,go_sem] at hL
  simp only[K_clones,St.init,St.initG,Tryz.ntmps51,go_sem] 
  obtain ⟨hx,hy⟩:=(show fitsL xs from hc)
  refine oS fun _ hK1=>?_
  refine oW T_clone_ok ?_
  simp only[go_sem]
  refine hK1 _ ?_
  refine oS fun _ hK2=>?_
  refine oW T_clone_ok ?_
  simp only[List.nodup_nil,go_sem]
  repeat (with_reducible refine oA ?_)
  refine hK2 _ ?_
  refine oS fun _ hK3=>?_
  refine oS fun _ hK4=>?_
  refine oW T_clone_ok ?_
  simp only[go_sem]
  refine hK4 _ ?_
  refine AWP_block ?_
  refine AWP_loop_k (ι:={ k:Nat // k≤xs.length }) (fun k=>⟨[zz,zz,zz,.c (.ow 9001),zz,zz,zz,.c (.rd [] 26 (.row 2 (.int .i64)) (xs)),.c (.sc (.int .i64 (xs.length))),.c (.sc (.int .i64 (k.1))),zz,zz,zz,zz,zz,zz,zz,zz,zz,zz],[(9001,.tree 26 (.row 2 (.int .i64)) (xs.take k.1) none)]⟩) (fun k=>xs.length - k.1) ⟨0,by simp⟩ ?_ ?_
  ·
   refine oK ?_
   simp (maxSteps:=2000000)only[go_sem]
   all_goals (first | rfl | ((repeat' refine And.intro ?_ ?_)<;>first | rfl | simp))
  rintro ⟨k,hk⟩ K5 hL5
  have htk:(List.take k xs).length≤1099511627776:=by rw [List.length_take]; omega
  have hyk:k < xs.length→(xs.getD k []).length≤1099511627776:=fun h=>hy _ (getD_mem h)
  refine oS fun _ hK6=>?_
  refine oW T_clone_ok ?_
  simp only[go_sem]
  refine hK6 _ ?_
  refine oS fun _ hK7=>?_
  refine oC rfl ?_ ?_
  ·
   intro c0
   refine AWP_skip ?_
   simp only[go_sem]
   refine hK7 _ ?_
   refine oS fun _ hK8=>?_
   refine AWP_block ?_
   refine oS fun _ hK9=>?_
   refine oW T_clone_ok ?_
   simp only[go_sem]
   repeat (with_reducible refine oA ?_)
   refine hK9 _ ?_
   refine oW T_clone_ok ?_
   simp (maxSteps:=2000000)only[List.nodup_cons,List.nodup_nil,List.not_mem_nil,not_false_eq_true,go_sem]
   repeat (with_reducible first | refine oA ?_ | refine And.intro (by first | omega) ?_)
   refine hK8 _ ?_
   refine oW T_clone_ok ?_
   simp only[go_sem]
   refine hL5 ⟨k+1,by omega⟩ _ (oK ?_) ?_
   ·
    simp (maxSteps:=2000000)only[go_sem]
    all_goals first | rfl | exact wk (by omega) | exact ⟨wk (by omega),by rw [take_next (xs:=xs) (k:=k) (d:=[]) (by omega)]⟩
   ·
    first | (simp only[]; omega) | omega | (simp; omega)
  intro c0
  refine AWP_exit ?_
  simp only[go_sem]
  refine hK3 _ ?_
  refine oS fun _ hK10=>?_
  refine oW T_clone_ok ?_
  simp only[go_sem]
  refine hK10 _ ?_
  refine AWP_ret ?_
  simp only[hres,go_sem]
  first | exact oF | (refine ⟨?_,oF⟩; exact List.take_of_length_le (by omega))
def T_clones:Tab:=fun f=>if f=51 then some (.p K_clones) else T_clone f
theorem T_clones_ok:TabOk Tryz.prog T_clones:=tabP clones_ok (fnOk_of Tryz.func51 rfl (by decide)) T_clone_ok
attribute [go_sem] T_clones K_clones
def T_shiftedNode:Tab:=T_clones
attribute [go_sem] T_shiftedNode
end Go.Proofs.YtflaacndokbddaaGreat
