/-
  Texts of this claim, joined (part 27). No condition beyond those of the theorems.
-/
import Derived.Test.YtenjbehedcegdaaR26
namespace Go.Proofs.Ytenjbehedcegdaa
open Go.RowKit
set_option linter.unusedSimpArgs false
set_option linter.unusedVariables false
set_option maxRecDepth 100000
set_option maxHeartbeats 8000000
def K_l06Ok:Con:=⟨[.ptr (.prod (.int .i64) (.prod (.int .i64) (.prod (.int .i64) (.row 2 (.int .i64))))),.val (.int .i64)],[⟨.bool,true⟩],fun _=>True,fun x=>nodeB x.1 x.2.1⟩
theorem l06Ok_ok:PureT Try.prog 66 K_l06Ok:=by
  refine pure_of_body Try.func66 rfl ?_
  have hres:Try.f66.results.toList=[.tmp 4]:=rfl
  rintro⟨⟨(kd:Int),(a:Int),(bb:Int),(fr:List Int)⟩,(tb:Int),_⟩ hc hL
  simp only[K_l06Ok,go_sem] at hL
  simp only[K_l06Ok,St.init,St.initG,Try.ntmps66,go_sem] 
  rw[←l06okB_eq]
  refine oS fun _ hK1=>?_
  refine oW T_l06A_ok ?_
  simp only[go_sem]
  refine hK1 _ ?_
  refine AWP_seq_j (l06okB kd a bb fr tb=(fr.all (fun f=>inR f 0 23) && (match decide (kd=17) with|true=>inR bb 1 16|false=>decide (bb=0)))) ⟨[.c (.pt [] ((.prod (.int .i64) (.prod (.int .i64) (.prod (.int .i64) (.row 2 (.int .i64)))))) (kd,a,bb,fr) 0),zz,zz,zz,zz,zz,zz,zz,zz,zz,zz,zz,zz,zz,zz,zz,zz,zz,zz,zz,zz,zz,zz,zz,zz,zz,zz,zz,zz,zz,zz,zz,zz,zz,zz,zz,zz,zz,zz,zz,zz,zz,zz,zz,zz,zz,zz,zz,zz,zz,zz,zz,zz,zz,zz,zz,zz,zz,zz,zz,zz,zz,zz,zz],[]⟩ ?_ fun _ hK2=>?_
  ·
   intro hN
   refine oS fun _ hK3=>?_
   refine oS fun _ hK4=>?_
   refine oW T_l06A_ok ?_
   simp only[go_sem]
   refine hK4 _ ?_
   refine AWP_block ?_
   refine AWP_loop_k (ι:={ k:Nat // k≤fr.length∧(fr.take k).all (fun f=>inR f 0 23)=true }) (fun k=>⟨[.c (.pt [] ((.prod (.int .i64) (.prod (.int .i64) (.prod (.int .i64) (.row 2 (.int .i64)))))) (kd,a,bb,fr) 0),zz,zz,zz,zz,.c (.sc (.int .i64 (k.1))),zz,zz,zz,zz,zz,zz,zz,zz,zz,zz,zz,zz,zz,zz,zz,zz,zz,zz,zz,zz,zz,zz,zz,zz,zz,zz,zz,zz,zz,zz,zz,zz,zz,zz,zz,zz,zz,zz,zz,zz,zz,zz,zz,zz,zz,zz,zz,zz,zz,zz,zz,zz,zz,zz,zz,zz,zz,zz],[]⟩) (fun k=>fr.length - k.1) ⟨0,by simp⟩ ?_ ?_
   ·
    refine oK ?_
    simp (maxSteps:=2000000)only[go_sem]
    all_goals(first|rfl|((repeat' refine And.intro ?_ ?_)<;>first|rfl|simp))
   rintro⟨k,hk,hp⟩ K5 hL5
   refine oS fun _ hK6=>?_
   refine oS fun _ hK7=>?_
   refine oW T_l06A_ok ?_
   simp (maxSteps:=2000000)only[go_sem]
   repeat(with_reducible refine oA ?_)
   refine hK7 _ ?_
   refine oC rfl ?_ ?_
   ·
    intro c1
    refine AWP_skip ?_
    simp only[go_sem]
    refine hK6 _ ?_
    refine oS fun _ hK8=>?_
    refine AWP_block ?_
    refine oS fun _ hK9=>?_
    refine oW T_l06A_ok ?_
    simp (maxSteps:=2000000)only[go_sem]
    repeat(with_reducible refine oA ?_)
    refine hK9 _ ?_
    refine oC rfl ?_ ?_
    ·
     intro c2
     refine oS fun _ hK10=>?_
     refine oW T_l06A_ok ?_
     simp only[go_sem]
     refine hK10 _ ?_
     refine AWP_ret ?_
     simp only[hres,go_sem]
     first|exact oF|(refine⟨?_,oF⟩;rw[hN,all_stop (k:=k) (d:=0) (by omega) (by assumption)];rfl)
    intro c2
    refine AWP_skip ?_
    simp only[go_sem]
    refine hK8 _ ?_
    refine oW T_l06A_ok ?_
    simp only[go_sem]
    refine hL5 ⟨k+1,by omega,all_next (d:=0) (by omega) hp (by first|assumption|(clear hK1 hK3 hK4 hL5 hK6 hK7 hK8 hK9;simp_all))⟩ _ (oK ?_) ?_
    ·
     simp (maxSteps:=2000000)only[go_sem]
     first|rfl|exact wk (by omega)
    ·
     first|(simp only[];omega)|omega|(simp;omega)
   intro c1
   refine AWP_exit ?_
   simp only[go_sem]
   refine hK3 _ ?_
   refine oS fun _ hK11=>?_
   refine oS fun _ hK12=>?_
   refine oW T_l06A_ok ?_
   simp (maxSteps:=2000000)only[go_sem]
   repeat(with_reducible refine oA ?_)
   refine hK12 _ ?_
   refine oC rfl ?_ ?_
   ·
    intro c3
    refine oS fun _ hK13=>?_
    refine oW T_l06A_ok ?_
    simp (maxSteps:=2000000)only[go_sem]
    repeat(with_reducible refine oA ?_)
    refine hK13 _ ?_
    refine AWP_ret ?_
    simp only[hres,go_sem]
    first|exact oF|(refine⟨?_,oF⟩;rw[hN,all_done hp (by omega),Bool.true_and,decide_eq_true (show kd=17 by assumption)])
   intro c3
   refine AWP_skip ?_
   simp only[go_sem]
   refine hK11 _ ?_
   refine oS fun _ hK14=>?_
   refine oW T_l06A_ok ?_
   simp (maxSteps:=2000000)only[go_sem]
   repeat(with_reducible refine oA ?_)
   refine hK14 _ ?_
   refine AWP_ret ?_
   simp only[hres,go_sem]
   first|exact oF|(refine⟨?_,oF⟩;rw[hN,all_done hp (by omega),Bool.true_and,decide_eq_false (show ¬kd=17 by assumption)])
  refine oS fun _ hK15=>?_
  refine oR T_l06A_ok
    [[],[0],[0,1],[0,1,2],[0,1,2,3],[0,1,2,3,4],[0,1,2,3,4,5],[0,1,2,3,4,5,6],[0,1,2,3,4,5,6],[0,1,2,3,4,5,6,7,8],[0,1,2,3,4,5,6,7,8,9],[0,1,2,3,4,5,6,7,8,9,10],[0,1,2,3,4,5,6,7,8,9,10,11],[0,1,2,3,4,5,6,7,8,9,10,11,12],[0,1,2,3,4,5,6,7,8,9,10,11,12,13],[0,1,2,3,4,5,6,7,8,9,10,11,12,13,14],[0,1,2,3,4,5,6,7,8,9,10,11,12,13,14,15],[0,1,2,3,4,5,6,7,8,9,10,11,12,13,14,15,16],[0,1,2,3,4,5,6,7,8,9,10,11,12],[0,1,2,3,4,5,6,7,8,9,10,11,12,18],[0,1,2,3,4,5,6,7,8,9,10,11,12,18,19],[0,1,2,3,4,5,6,7,8,9,10,11,12,18,19,20],[0,1,2,3,4,5,6,7,8,9,10,11,12,18,19,20,21],[0,1,2,3,4,5,6,7,8,9,10,11,12,13,14,15,16,17,18,19,20,21,22],[0,1,2,3,4,5,6,7,8,9,10,11,12,13,14,15,16,17,18,19,20,21,22,23]]
    [[],[],[],[],[],[],[],[],[],[],[],[],[],[],[],[],[],[],[],[],[],[],[],[],[]]
    [[],[],[],[],[],[],[],[],[],[],[],[],[],[],[],[],[],[],[],[],[],[],[],[],[]] (by kernel_rfl) (by kernel_rfl) (adrawR_ok (acc:=[]) ?_)
  simp (maxSteps:=2000000)only[go_sem]
  repeat' (with_reducible first|refine oD ?_|refine And.intro (by first|exact inR_iff.2 (by have:=inR_iff.1 (show inR kd 1 17=true by clear hK1 hK2 hK15;simp_all);omega)) ?_|refine oT (fun g1=>?_) (fun g1=>?_)|refine oE (fun g1=>?_) (fun g1=>?_))
  all_goals
   refine hK15 _ ?_
   refine AWP_cond rfl ?_ ?_
   ·
    intro c0
    try simp only[zA,zB,zC,zD,zE,zF,zG,zH,zI] at c0
    all_goals
     refine oS fun _ hK16=>?_
     refine oW T_l06A_ok ?_
     simp only[go_sem]
     refine hK16 _ ?_
     refine AWP_ret ?_
     simp only[hres,go_sem]
     first|exact oF|(refine⟨?_,oF⟩;clear hK1 hK2 hK15 hK16;simp_all [l06okB])
   ·
    intro c0
    try simp only[zA,zB,zC,zD,zE,zF,zG,zH,zI] at c0
    all_goals
     refine AWP_skip ?_
     simp only[go_sem]
     refine hK2 _ (oK ?_) ?_
     ·
      simp (maxSteps:=2000000)only[go_sem]
      all_goals(first|rfl|((repeat' refine And.intro ?_ ?_)<;>first|rfl|exact wk (by omega)|simp))
     ·
      clear hK1 hK2 hK15;simp_all [l06okB]<;>rfl
def T_l06Ok:Tab:=fun f=>if f=66 then some (.p K_l06Ok) else T_l06A f
theorem T_l06Ok_ok:TabOk Try.prog T_l06Ok:=tabP l06Ok_ok (fnOk_of Try.func66 rfl (by decide)) T_l06A_ok
attribute [go_sem] T_l06Ok K_l06Ok
end Go.Proofs.Ytenjbehedcegdaa
