/-
  Texts of this claim, joined (part 28). No condition beyond those of the theorems.
-/
import Derived.Test.YtenjbehedcegdaaR26
namespace Go.Proofs.Ytenjbehedcegdaa
open Go.RowKit
set_option linter.unusedSimpArgs false
set_option linter.unusedVariables false
set_option maxRecDepth 100000
set_option maxHeartbeats 1000000
def K_l06Tables:Con:=⟨[.val ((.row 24 (.row 2 (.int .i64))))],[⟨.bool,true⟩],fun _=>True,fun x=>tabsB x.1⟩
theorem l06Tables_ok:PureT Try.prog 41 K_l06Tables:=by
  refine pure_of_body Try.func41 rfl ?_
  have hres:Try.f41.results.toList=[.tmp 2]:=rfl
  rintro⟨(xs:List (List Int)),_⟩ hc hL
  simp only[K_l06Tables,go_sem] at hL
  obtain⟨lxs,lxs2⟩:=hL
  simp only[K_l06Tables,St.init,St.initG,Try.ntmps41,go_sem] 
  refine oS fun _ hK1=>?_
  refine oW T_l06A_ok ?_
  simp only[go_sem]
  refine hK1 _ ?_
  refine oS fun _ hK2=>?_
  refine oS fun _ hK3=>?_
  refine oW T_l06A_ok ?_
  simp only[go_sem]
  refine hK3 _ ?_
  refine AWP_block ?_
  refine AWP_loop_k (ι:={ k:Nat // k≤xs.length∧(xs.take k).all tabB=true }) (fun k=>⟨[.c (.rd [] 24 (.row 2 (.int .i64)) (xs)),zz,zz,.c (.sc (.int .i64 (k.1))),zz,zz,zz,zz,zz,zz,zz,zz,zz,zz,zz,zz,zz,zz,zz,zz,zz,zz,zz,zz,zz,zz,zz,zz,zz],[]⟩) (fun k=>xs.length - k.1) ⟨0,by simp⟩ ?_ ?_
  ·
   refine oK ?_
   simp (maxSteps:=2000000)only[go_sem]
   all_goals(first|rfl|((repeat' refine And.intro ?_ ?_)<;>first|rfl|simp))
  rintro⟨k,hk,hp⟩ K4 hL4
  refine oS fun _ hK5=>?_
  refine oS fun _ hK6=>?_
  refine oW T_l06A_ok ?_
  simp only[go_sem]
  refine hK6 _ ?_
  refine oC rfl ?_ ?_
  ·
   intro c0
   refine AWP_skip ?_
   simp only[go_sem]
   refine hK5 _ ?_
   refine oS fun _ hK7=>?_
   refine AWP_block ?_
   refine oS fun _ hK8=>?_
   refine oW T_l06A_ok ?_
   simp (maxSteps:=2000000)only[go_sem]
   repeat' (with_reducible first|refine oA ?_|refine oT (fun g4=>?_) (fun g4=>?_)|refine oE (fun g4=>?_) (fun g4=>?_))
   all_goals
    refine hK8 _ ?_
    refine AWP_cond rfl ?_ ?_
    ·
     intro c1
     try simp only[zA,zB,zC,zD,zE,zF,zG,zH,zI] at c1
     all_goals
      refine oS fun _ hK9=>?_
      refine oW T_l06A_ok ?_
      simp only[go_sem]
      refine hK9 _ ?_
      refine AWP_ret ?_
      simp only[hres,go_sem]
      first
       | exact oF
       | refine ⟨?_, oF⟩
         have hq:tabB (xs.getD k [])=false:=by rw[←tab_eq];clear hK1 hK2 hK3 hL4 hK5 hK6 hK7 hK8 hK9;simp_all
         rw[tabsB,all_stop (k:=k) (d:=[]) (by omega) hq];rfl
    ·
     intro c1
     try simp only[zA,zB,zC,zD,zE,zF,zG,zH,zI] at c1
     all_goals
      have hq:tabB (xs.getD k [])=true:=by rw[←tab_eq];clear hK1 hK2 hK3 hL4 hK5 hK6 hK7 hK8;simp_all
      refine AWP_skip ?_
      simp only[go_sem]
      refine hK7 _ ?_
      refine oW T_l06A_ok ?_
      simp only[go_sem]
      refine hL4 ⟨k+1,by omega,all_next (d:=[]) (by omega) hp (by first|assumption|(clear hK1 hK2 hK3 hL4 hK5 hK6 hK7 hK8;simp_all))⟩ _ (oK ?_) ?_
      ·
       simp (maxSteps:=2000000)only[go_sem]
       first|rfl|exact wk (by omega)
      ·
       first|(simp only[];omega)|omega|(simp;omega)
  intro c0
  refine AWP_exit ?_
  simp only[go_sem]
  refine hK2 _ ?_
  refine oS fun _ hK10=>?_
  refine oW T_l06A_ok ?_
  simp only[go_sem]
  refine hK10 _ ?_
  refine AWP_ret ?_
  simp only[hres,go_sem]
  first|exact oF|(refine⟨?_,oF⟩;rw[tabsB,all_done hp (by omega),Bool.true_and];exact decide_eq_decide.2 (by omega))
def T_l06Tables:Tab:=fun f=>if f=41 then some (.p K_l06Tables) else T_l06A f
theorem T_l06Tables_ok:TabOk Try.prog T_l06Tables:=tabP l06Tables_ok (fnOk_of Try.func41 rfl (by decide)) T_l06A_ok
attribute [go_sem] T_l06Tables K_l06Tables
def K_l07All:Con:=⟨[.val ((.row 2 (.int .i64))),.val ((.row 2 (.int .i64)))],[⟨.bool,true⟩],fun _=>True,fun x=>x.1.all (fun f=>List.contains x.2.1 f)⟩
theorem l07All_ok:PureT Try.prog 67 K_l07All:=by
  refine pure_of_body Try.func67 rfl ?_
  have hres:Try.f67.results.toList=[.tmp 4]:=rfl
  rintro⟨(xs:List Int),(ys:List Int),_⟩ hc hL
  simp only[K_l07All,go_sem] at hL
  simp only[K_l07All,St.init,St.initG,Try.ntmps67,go_sem] 
  refine oS fun _ hK1=>?_
  refine oW T_l06Tables_ok ?_
  simp only[go_sem]
  refine hK1 _ ?_
  refine oS fun _ hK2=>?_
  refine oS fun _ hK3=>?_
  refine oW T_l06Tables_ok ?_
  simp only[go_sem]
  refine hK3 _ ?_
  refine AWP_block ?_
  refine AWP_loop_k (ι:={ k:Nat // k≤xs.length∧(xs.take k).all (fun f=>ys.contains f)=true }) (fun k=>⟨[.c (.rd [] 2 (.int .i64) (xs)),.c (.rd [] 2 (.int .i64) (ys)),zz,zz,zz,.c (.sc (.int .i64 (k.1))),zz,zz,zz,zz,zz,zz,zz,zz,zz,zz,zz,zz,zz],[]⟩) (fun k=>xs.length - k.1) ⟨0,by simp⟩ ?_ ?_
  ·
   refine oK ?_
   simp (maxSteps:=2000000)only[go_sem]
   all_goals(first|rfl|((repeat' refine And.intro ?_ ?_)<;>first|rfl|simp))
  rintro⟨k,hk,hp⟩ K4 hL4
  refine oS fun _ hK5=>?_
  refine oS fun _ hK6=>?_
  refine oW T_l06Tables_ok ?_
  simp only[go_sem]
  refine hK6 _ ?_
  refine oC rfl ?_ ?_
  ·
   intro c0
   refine AWP_skip ?_
   simp only[go_sem]
   refine hK5 _ ?_
   refine oS fun _ hK7=>?_
   refine AWP_block ?_
   refine oS fun _ hK8=>?_
   refine oW T_l06Tables_ok ?_
   simp (maxSteps:=2000000)only[go_sem]
   repeat(with_reducible refine oA ?_)
   refine hK8 _ ?_
   refine oC rfl ?_ ?_
   ·
    intro c1
    refine oS fun _ hK9=>?_
    refine oW T_l06Tables_ok ?_
    simp only[go_sem]
    refine hK9 _ ?_
    refine AWP_ret ?_
    simp only[hres,go_sem]
    first|exact oF|(refine⟨?_,oF⟩;exact(all_stop (k:=k) (d:=0) (by omega) (by first|assumption|(clear hp;clear hK1 hK2 hK3 hL4 hK5 hK6 hK7 hK8 hK9;simp_all))).symm)
   intro c1
   refine AWP_skip ?_
   simp only[go_sem]
   refine hK7 _ ?_
   refine oW T_l06Tables_ok ?_
   simp only[go_sem]
   refine hL4 ⟨k+1,by omega,all_next (d:=0) (by omega) hp (by first|assumption|(clear hK1 hK2 hK3 hL4 hK5 hK6 hK7 hK8;simp_all))⟩ _ (oK ?_) ?_
   ·
    simp (maxSteps:=2000000)only[go_sem]
    first|rfl|exact wk (by omega)
   ·
    first|(simp only[];omega)|omega|(simp;omega)
  intro c0
  refine AWP_exit ?_
  simp only[go_sem]
  refine hK2 _ ?_
  refine oS fun _ hK10=>?_
  refine oW T_l06Tables_ok ?_
  simp only[go_sem]
  refine hK10 _ ?_
  refine AWP_ret ?_
  simp only[hres,go_sem]
  first|exact oF|(refine⟨?_,oF⟩;exact(all_done hp (by omega)).symm)
def T_l07All:Tab:=fun f=>if f=67 then some (.p K_l07All) else T_l06Tables f
theorem T_l07All_ok:TabOk Try.prog T_l07All:=tabP l07All_ok (fnOk_of Try.func67 rfl (by decide)) T_l06Tables_ok
attribute [go_sem] T_l07All K_l07All
end Go.Proofs.Ytenjbehedcegdaa
