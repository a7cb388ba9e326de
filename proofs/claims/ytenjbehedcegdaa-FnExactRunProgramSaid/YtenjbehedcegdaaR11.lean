/-
  Texts of this claim, joined (part 11). No condition beyond those of the theorems.
-/
import Derived.Test.YtenjbehedcegdaaR05
namespace Go.Proofs.Ytenjbehedcegdaa
open Go.RowKit
set_option linter.unusedSimpArgs false
set_option linter.unusedVariables false
set_option maxRecDepth 100000
set_option maxHeartbeats 1000000
def K_eqI:Con:=⟨[.val ((.row 2 (.int .i64))),.val ((.row 2 (.int .i64)))],[⟨.bool,true⟩],fun _=>True,fun x=>eqD (x.1:List Int) (x.2.1:List Int)⟩
theorem eqI_ok:PureT Try.prog 35 K_eqI:=by
  refine pure_of_body Try.func35 rfl ?_
  have hres:Try.f35.results.toList=[.tmp 4]:=rfl
  rintro⟨(xs:List Int),(ys:List Int),_⟩ hc hL
  simp only[K_eqI,go_sem] at hL
  obtain⟨lxs,lys⟩:=hL
  simp only[K_eqI,St.init,St.initG,Try.ntmps35,go_sem] 
  refine oS fun _ hK1=>?_
  refine oW T0_ok ?_
  simp only[go_sem]
  refine hK1 _ ?_
  refine oS fun _ hK2=>?_
  refine oS fun _ hK3=>?_
  refine oW T0_ok ?_
  simp (maxSteps:=2000000)only[go_sem]
  refine hK3 _ ?_
  refine oC rfl ?_ ?_
  ·
   intro c0
   refine oS fun _ hK4=>?_
   refine oW T0_ok ?_
   simp only[go_sem]
   refine hK4 _ ?_
   refine AWP_ret ?_
   simp only[hres,go_sem]
   first|exact oF|(refine⟨?_,oF⟩;exact(eq_len (by omega)).symm)
  intro c0
  refine AWP_skip ?_
  simp only[go_sem]
  refine hK2 _ ?_
  refine oS fun _ hK5=>?_
  refine oS fun _ hK6=>?_
  refine oW T0_ok ?_
  simp only[go_sem]
  refine hK6 _ ?_
  refine AWP_block ?_
  refine AWP_loop_k (ι:={ k:Nat // k≤xs.length∧xs.take k=ys.take k }) (fun k=>⟨[.c (.rd [] 2 (.int .i64) (xs)),.c (.rd [] 2 (.int .i64) (ys)),zz,zz,zz,.c (.sc (.int .i64 (k.1))),zz,zz,zz,zz,zz,zz,zz,zz,zz,zz,zz,zz,zz,zz,zz,zz,zz,zz,zz,zz],[]⟩) (fun k=>xs.length - k.1) ⟨0,by simp,by simp⟩ ?_ ?_
  ·
   refine oK ?_
   simp (maxSteps:=2000000)only[go_sem]
   all_goals(first|rfl|((repeat' refine And.intro ?_ ?_)<;>first|rfl|simp))
  rintro⟨k,hk,hp⟩ K7 hL7
  refine oS fun _ hK8=>?_
  refine oS fun _ hK9=>?_
  refine oW T0_ok ?_
  simp only[go_sem]
  refine hK9 _ ?_
  refine oC rfl ?_ ?_
  ·
   intro c1
   refine AWP_skip ?_
   simp only[go_sem]
   refine hK8 _ ?_
   refine oS fun _ hK10=>?_
   refine AWP_block ?_
   refine oS fun _ hK11=>?_
   refine oR T0_ok
     [[],[],[0,1],[0,1,2],[],[],[4,5],[4,5,6],[0,1,2,3,4,5,6,7]]
     [[],[],[],[],[],[],[],[],[]]
     [[],[],[],[],[],[],[],[],[]] (by kernel_rfl) (by kernel_rfl) (adrawR_ok (acc:=[]) ?_)
   simp (maxSteps:=2000000)only[go_sem]
   repeat(with_reducible refine oD ?_)
   refine hK11 _ ?_
   refine oC rfl ?_ ?_
   ·
    intro c2
    refine oS fun _ hK12=>?_
    refine oW T0_ok ?_
    simp only[go_sem]
    refine hK12 _ ?_
    refine AWP_ret ?_
    simp only[hres,go_sem]
    first|exact oF|(refine⟨?_,oF⟩;exact(eq_stop (0:Int) (m:=k) (by first|assumption|exact decide_eq_false (by assumption))).symm)
   intro c2
   refine AWP_skip ?_
   simp only[go_sem]
   refine hK10 _ ?_
   refine oW T0_ok ?_
   simp only[go_sem]
   refine hL7 ⟨k+1,by omega,eq_next (d:=(0:Int)) (by omega) (by omega) hp (by first|assumption|exact decide_eq_true (by assumption))⟩ _ (oK ?_) ?_
   ·
    simp (maxSteps:=2000000)only[go_sem]
    all_goals(first|rfl|((repeat' refine And.intro ?_ ?_)<;>first|rfl|exact wk (by omega)|simp))
   ·
    first|(simp only[];omega)|omega|(simp;omega)
  intro c1
  refine AWP_exit ?_
  simp only[go_sem]
  refine hK5 _ ?_
  refine oS fun _ hK13=>?_
  refine oW T0_ok ?_
  simp only[go_sem]
  refine hK13 _ ?_
  refine AWP_ret ?_
  simp only[hres,go_sem]
  first|exact oF|(refine⟨?_,oF⟩;exact(eq_done (m:=k) (by omega) (by omega) hp).symm)
def T_eqI:Tab:=fun f=>if f=35 then some (.p K_eqI) else T0 f
theorem T_eqI_ok:TabOk Try.prog T_eqI:=tabP eqI_ok (fnOk_of Try.func35 rfl (by decide)) T0_ok
attribute [go_sem] T_eqI K_eqI
def K_eqL:Con:=⟨[.val ((.row 24 (.row 2 (.int .i64)))),.val ((.row 24 (.row 2 (.int .i64))))],[⟨.bool,true⟩],fun _=>True,fun x=>eqD (x.1:List (List Int)) (x.2.1:List (List Int))⟩
theorem eqL_ok:PureT Try.prog 10 K_eqL:=by
  refine pure_of_body Try.func10 rfl ?_
  have hres:Try.f10.results.toList=[.tmp 4]:=rfl
  rintro⟨(xs:List (List Int)),(ys:List (List Int)),_⟩ hc hL
  simp only[K_eqL,go_sem] at hL
  obtain⟨lxs,lys⟩:=hL
  simp only[K_eqL,St.init,St.initG,Try.ntmps10,go_sem] 
  refine oS fun _ hK1=>?_
  refine oW T_eqI_ok ?_
  simp only[go_sem]
  refine hK1 _ ?_
  refine oS fun _ hK2=>?_
  refine oS fun _ hK3=>?_
  refine oW T_eqI_ok ?_
  simp (maxSteps:=2000000)only[go_sem]
  refine hK3 _ ?_
  refine oC rfl ?_ ?_
  ·
   intro c0
   refine oS fun _ hK4=>?_
   refine oW T_eqI_ok ?_
   simp only[go_sem]
   refine hK4 _ ?_
   refine AWP_ret ?_
   simp only[hres,go_sem]
   first|exact oF|(refine⟨?_,oF⟩;exact(eq_len (by omega)).symm)
  intro c0
  refine AWP_skip ?_
  simp only[go_sem]
  refine hK2 _ ?_
  refine oS fun _ hK5=>?_
  refine oS fun _ hK6=>?_
  refine oW T_eqI_ok ?_
  simp only[go_sem]
  refine hK6 _ ?_
  refine AWP_block ?_
  refine AWP_loop_k (ι:={ k:Nat // k≤xs.length∧xs.take k=ys.take k }) (fun k=>⟨[.c (.rd [] 24 (.row 2 (.int .i64)) (xs)),.c (.rd [] 24 (.row 2 (.int .i64)) (ys)),zz,zz,zz,.c (.sc (.int .i64 (k.1))),zz,zz,zz,zz,zz,zz,zz,zz,zz,zz,zz,zz,zz,zz,zz,zz,zz,zz,zz,zz,zz],[]⟩) (fun k=>xs.length - k.1) ⟨0,by simp,by simp⟩ ?_ ?_
  ·
   refine oK ?_
   simp (maxSteps:=2000000)only[go_sem]
   all_goals(first|rfl|((repeat' refine And.intro ?_ ?_)<;>first|rfl|simp))
  rintro⟨k,hk,hp⟩ K7 hL7
  refine oS fun _ hK8=>?_
  refine oS fun _ hK9=>?_
  refine oW T_eqI_ok ?_
  simp only[go_sem]
  refine hK9 _ ?_
  refine oC rfl ?_ ?_
  ·
   intro c1
   refine AWP_skip ?_
   simp only[go_sem]
   refine hK8 _ ?_
   refine oS fun _ hK10=>?_
   refine AWP_block ?_
   refine oS fun _ hK11=>?_
   refine oR T_eqI_ok
     [[],[],[0,1],[0,1,2],[],[],[4,5],[4,5,6],[0,1,2,3,4,5,6,7],[0,1,2,3,4,5,6,7,8]]
     [[],[],[],[],[],[],[],[],[],[]]
     [[],[],[],[],[],[],[],[],[],[]] (by kernel_rfl) (by kernel_rfl) (adrawR_ok (acc:=[]) ?_)
   simp (maxSteps:=2000000)only[go_sem]
   repeat(with_reducible refine oD ?_)
   refine hK11 _ ?_
   refine oC rfl ?_ ?_
   ·
    intro c2
    refine oS fun _ hK12=>?_
    refine oW T_eqI_ok ?_
    simp only[go_sem]
    refine hK12 _ ?_
    refine AWP_ret ?_
    simp only[hres,go_sem]
    first|exact oF|(refine⟨?_,oF⟩;exact(eq_stop ([]:List Int) (m:=k) (by first|assumption|exact decide_eq_false (by assumption))).symm)
   intro c2
   refine AWP_skip ?_
   simp only[go_sem]
   refine hK10 _ ?_
   refine oW T_eqI_ok ?_
   simp only[go_sem]
   refine hL7 ⟨k+1,by omega,eq_next (d:=([]:List Int)) (by omega) (by omega) hp (by first|assumption|exact decide_eq_true (by assumption))⟩ _ (oK ?_) ?_
   ·
    simp (maxSteps:=2000000)only[go_sem]
    all_goals(first|rfl|((repeat' refine And.intro ?_ ?_)<;>first|rfl|exact wk (by omega)|simp))
   ·
    first|(simp only[];omega)|omega|(simp;omega)
  intro c1
  refine AWP_exit ?_
  simp only[go_sem]
  refine hK5 _ ?_
  refine oS fun _ hK13=>?_
  refine oW T_eqI_ok ?_
  simp only[go_sem]
  refine hK13 _ ?_
  refine AWP_ret ?_
  simp only[hres,go_sem]
  first|exact oF|(refine⟨?_,oF⟩;exact(eq_done (m:=k) (by omega) (by omega) hp).symm)
def T_eqL:Tab:=fun f=>if f=10 then some (.p K_eqL) else T_eqI f
theorem T_eqL_ok:TabOk Try.prog T_eqL:=tabP eqL_ok (fnOk_of Try.func10 rfl (by decide)) T_eqI_ok
attribute [go_sem] T_eqL K_eqL
def T_eqP:Tab:=T_eqL
theorem T_eqP_ok:TabOk Try.prog T_eqP:=T_eqL_ok
attribute [go_sem] T_eqP
end Go.Proofs.Ytenjbehedcegdaa
