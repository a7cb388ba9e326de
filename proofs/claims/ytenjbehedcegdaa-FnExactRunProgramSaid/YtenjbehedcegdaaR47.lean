/-
  Texts of this claim, joined (part 47). No condition beyond those of the theorems.
-/
import Derived.Test.YtenjbehedcegdaaR06
namespace Go.Proofs.Ytenjbehedcegdaa
open Go.RowKit
set_option linter.unusedSimpArgs false
set_option linter.unusedVariables false
set_option maxRecDepth 100000
set_option maxHeartbeats 1000000
def K_areTables:Con:=⟨[.val ((.row 24 (.row 2 (.int .i64))))],[⟨.bool,true⟩],fun _=>True,fun x=>tabsB x.1⟩
theorem areTables_ok:PureT Try.prog 55 K_areTables:=by
  refine pure_of_body Try.func55 rfl ?_
  have hres:Try.f55.results.toList=[.tmp 2]:=rfl
  rintro⟨(xs:List (List Int)),_⟩ hc hL
  simp only[K_areTables,go_sem] at hL
  obtain⟨lxs,lxs2⟩:=hL
  simp only[K_areTables,St.init,St.initG,Try.ntmps55,go_sem] 
  refine oS fun _ hK1=>?_
  refine oW T_kinds_ok ?_
  simp only[go_sem]
  refine hK1 _ ?_
  refine oS fun _ hK2=>?_
  refine oS fun _ hK3=>?_
  refine oW T_kinds_ok ?_
  simp only[go_sem]
  refine hK3 _ ?_
  refine AWP_block ?_
  refine AWP_loop_k (ι:={ k:Nat // k≤xs.length∧(xs.take k).all tabB=true }) (fun k=>⟨[.c (.rd [] 24 (.row 2 (.int .i64)) (xs)),zz,zz,zz,zz,zz,.c (.rd [] 24 (.row 2 (.int .i64)) (xs)),.c (.sc (.int .i64 (xs.length))),.c (.sc (.int .i64 (k.1))),zz,zz,zz,zz,zz,zz,zz,zz,zz,zz,zz,zz,zz,zz,zz,zz,zz,zz,zz,zz,zz,zz,zz,zz,zz,zz,zz,zz],[]⟩) (fun k=>xs.length - k.1) ⟨0,by simp⟩ ?_ ?_
  ·
   refine oK ?_
   simp (maxSteps:=2000000)only[go_sem]
   all_goals(first|rfl|((repeat' refine And.intro ?_ ?_)<;>first|rfl|simp))
  rintro⟨k,hk,hp⟩ K4 hL4
  refine oS fun _ hK5=>?_
  refine oW T_kinds_ok ?_
  simp only[go_sem]
  refine hK5 _ ?_
  refine oS fun _ hK6=>?_
  refine oC rfl ?_ ?_
  ·
   intro c0
   refine AWP_skip ?_
   simp only[go_sem]
   refine hK6 _ ?_
   refine oS fun _ hK7=>?_
   refine AWP_block ?_
   refine oS fun _ hK8=>?_
   refine oW T_kinds_ok ?_
   simp only[go_sem]
   repeat(with_reducible refine oA ?_)
   refine hK8 _ ?_
   refine oS fun _ hK9=>?_
   refine oW T_kinds_ok ?_
   simp only[go_sem]
   refine hK9 _ ?_
   refine oS fun _ hK10=>?_
   refine oW T_kinds_ok ?_
   simp (maxSteps:=2000000)only[go_sem]
   repeat' (with_reducible first|refine oA ?_|refine oT (fun g5=>?_) (fun g5=>?_)|refine oE (fun g5=>?_) (fun g5=>?_))
   all_goals
    refine hK10 _ ?_
    refine AWP_cond rfl ?_ ?_
    ·
     intro c1
     try simp only[zA,zB,zC,zD,zE,zF,zG,zH,zI] at c1
     all_goals
      refine oS fun _ hK11=>?_
      refine oW T_kinds_ok ?_
      simp only[go_sem]
      refine hK11 _ ?_
      refine AWP_ret ?_
      simp only[hres,go_sem]
      first
       | exact oF
       | refine ⟨?_, oF⟩
         have hq:tabB (xs.getD k [])=false:=by clear hK1 hK2 hK3 hL4 hK5 hK6 hK7 hK8 hK9 hK10 hK11;simp_all [tabB]<;>omega
         rw[tabsB,all_stop (k:=k) (d:=[]) (by omega) hq];rfl
    ·
     intro c1
     try simp only[zA,zB,zC,zD,zE,zF,zG,zH,zI] at c1
     all_goals
      have hq:tabB (xs.getD k [])=true:=by clear hK1 hK2 hK3 hL4 hK5 hK6 hK7 hK8 hK9 hK10;simp_all [tabB]<;>omega
      refine AWP_skip ?_
      simp only[go_sem]
      refine hK7 _ ?_
      refine oW T_kinds_ok ?_
      simp only[go_sem]
      refine hL4 ⟨k+1,by omega,all_next (d:=[]) (by omega) hp (by first|assumption|(clear hK1 hK2 hK3 hL4 hK5 hK6 hK7 hK8 hK9 hK10;simp_all))⟩ _ (oK ?_) ?_
      ·
       simp (maxSteps:=2000000)only[go_sem]
       first|rfl|exact wk (by omega)
      ·
       first|(simp only[];omega)|omega|(simp;omega)
  intro c0
  refine AWP_exit ?_
  simp only[go_sem]
  refine hK2 _ ?_
  refine oS fun _ hK12=>?_
  refine oW T_kinds_ok ?_
  simp only[go_sem]
  refine hK12 _ ?_
  refine AWP_ret ?_
  simp only[hres,go_sem]
  first|exact oF|(refine⟨?_,oF⟩;rw[tabsB,all_done hp (by omega),Bool.true_and];exact decide_eq_decide.2 (by omega))
def T_areTables:Tab:=fun f=>if f=55 then some (.p K_areTables) else T_kinds f
theorem T_areTables_ok:TabOk Try.prog T_areTables:=tabP areTables_ok (fnOk_of Try.func55 rfl (by decide)) T_kinds_ok
attribute [go_sem] T_areTables K_areTables
def K_areIndices:Con:=⟨[.val ((.row 2 (.int .i64))),.val (.int .i64)],[⟨.bool,true⟩],fun x=>inR x.2.1 (-9223372036854775807) 9223372036854775807=true,fun x=>idxs x.2.1 x.1⟩
theorem areIndices_ok:PureT Try.prog 56 K_areIndices:=by
  refine pure_of_body Try.func56 rfl ?_
  have hres:Try.f56.results.toList=[.tmp 4]:=rfl
  rintro⟨(xs:List Int),(m:Int),_⟩ hc hL
  simp only[K_areIndices,go_sem] at hL
  simp only[K_areIndices,St.init,St.initG,Try.ntmps56,go_sem] 
  obtain⟨hm1,hm2⟩:=inR_iff.1 (show inR m _ _=true from hc)
  have hw:IntKind.i64.wrap (m - 1)=m - 1:=wrapI (by omega)
  refine oS fun _ hK1=>?_
  refine oW T_areTables_ok ?_
  simp only[go_sem]
  refine hK1 _ ?_
  refine oS fun _ hK2=>?_
  refine oS fun _ hK3=>?_
  refine oW T_areTables_ok ?_
  simp only[go_sem]
  refine hK3 _ ?_
  refine AWP_block ?_
  refine AWP_loop_k (ι:={ k:Nat // k≤xs.length∧(xs.take k).all (fun i=>inR i 0 (m - 1))=true }) (fun k=>⟨[zz,.c (.sc (.int .i64 (m))),zz,zz,zz,zz,zz,.c (.rd [] 2 (.int .i64) (xs)),.c (.sc (.int .i64 (xs.length))),.c (.sc (.int .i64 (k.1))),zz,zz,zz,zz,zz,zz,zz,zz,zz],[]⟩) (fun k=>xs.length - k.1) ⟨0,by simp⟩ ?_ ?_
  ·
   refine oK ?_
   simp (maxSteps:=2000000)only[go_sem]
   all_goals(first|rfl|((repeat' refine And.intro ?_ ?_)<;>first|rfl|simp))
  rintro⟨k,hk,hp⟩ K4 hL4
  refine oS fun _ hK5=>?_
  refine oW T_areTables_ok ?_
  simp only[go_sem]
  refine hK5 _ ?_
  refine oS fun _ hK6=>?_
  refine oC rfl ?_ ?_
  ·
   intro c0
   refine AWP_skip ?_
   simp only[go_sem]
   refine hK6 _ ?_
   refine oS fun _ hK7=>?_
   refine AWP_block ?_
   refine oS fun _ hK8=>?_
   refine oW T_areTables_ok ?_
   simp only[go_sem]
   repeat(with_reducible refine oA ?_)
   refine hK8 _ ?_
   refine oS fun _ hK9=>?_
   refine oW T_areTables_ok ?_
   simp (maxSteps:=2000000)only[hw,go_sem]
   repeat(with_reducible refine oA ?_)
   refine hK9 _ ?_
   refine oC rfl ?_ ?_
   ·
    intro c1
    refine oS fun _ hK10=>?_
    refine oW T_areTables_ok ?_
    simp only[go_sem]
    refine hK10 _ ?_
    refine AWP_ret ?_
    simp only[hres,go_sem]
    first|exact oF|(refine⟨?_,oF⟩;exact(all_stop (k:=k) (d:=0) (by omega) (by first|assumption|(clear hp;clear hK1 hK2 hK3 hL4 hK5 hK6 hK7 hK8 hK9 hK10;simp_all))).symm)
   intro c1
   refine AWP_skip ?_
   simp only[go_sem]
   refine hK7 _ ?_
   refine oW T_areTables_ok ?_
   simp only[go_sem]
   refine hL4 ⟨k+1,by omega,all_next (d:=0) (by omega) hp (by first|assumption|(clear hK1 hK2 hK3 hL4 hK5 hK6 hK7 hK8 hK9;simp_all))⟩ _ (oK ?_) ?_
   ·
    simp (maxSteps:=2000000)only[go_sem]
    first|rfl|exact wk (by omega)
   ·
    first|(simp only[];omega)|omega|(simp;omega)
  intro c0
  refine AWP_exit ?_
  simp only[go_sem]
  refine hK2 _ ?_
  refine oS fun _ hK11=>?_
  refine oW T_areTables_ok ?_
  simp only[go_sem]
  refine hK11 _ ?_
  refine AWP_ret ?_
  simp only[hres,go_sem]
  first|exact oF|(refine⟨?_,oF⟩;exact(all_done hp (by omega)).symm)
def T_areIndices:Tab:=fun f=>if f=56 then some (.p K_areIndices) else T_areTables f
theorem T_areIndices_ok:TabOk Try.prog T_areIndices:=tabP areIndices_ok (fnOk_of Try.func56 rfl (by decide)) T_areTables_ok
attribute [go_sem] T_areIndices K_areIndices
def T_waitsFor:Tab:=T_areIndices
theorem T_waitsFor_ok:TabOk Try.prog T_waitsFor:=T_areIndices_ok
attribute [go_sem] T_waitsFor
end Go.Proofs.Ytenjbehedcegdaa
