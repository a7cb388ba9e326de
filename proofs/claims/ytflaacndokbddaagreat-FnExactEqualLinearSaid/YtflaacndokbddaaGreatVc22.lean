/-
  Texts of this claim, joined (part 22). No condition beyond those of the theorems.
-/
import Derived.Test.YtflaacndokbddaaGreatVc14
import Derived.Test.YtflaacndokbddaaGreatVc12
import Derived.Test.YtflaacndokbddaaGreatVc21
namespace Go.Proofs.YtflaacndokbddaaGreat
open Go.RowKit
set_option linter.unusedSimpArgs false
set_option linter.unusedVariables false
set_option maxRecDepth 100000
set_option maxHeartbeats 4000000
def T_mHs20:Tab:=fun f=>match T_l06Start f with
 | some k=>some k
 | none=>T_l12Ask f
theorem T_mHs20_ok:TabOk Tryz.prog T_mHs20:=tabM T_l06Start_ok T_l12Ask_ok
attribute [go_sem] T_mHs20 T0
def K_l08Ok:Con:=⟨[.ptr (.prod (.int .i64) (.prod (.row 26 (.row 2 (.int .i64))) (.prod (.row 90 (.prod (.int .i64) (.prod (.int .i64) (.prod (.int .i64) (.row 2 (.int .i64)))))) (.row 2 (.int .i64))))),.ptr (.row 26 (.row 2 (.int .i64)))],[⟨.bool,true⟩],fun _=>True,fun x=>patchB x.1 && stateB x.1 x.2.1⟩
theorem l08Ok_ok:PureT Tryz.prog 115 K_l08Ok:=by
  refine pure_of_body Tryz.func115 rfl ?_
  have hres:Tryz.f115.results.toList=[.tmp 4]:=rfl
  rintro ⟨⟨(pi:Int),(ts:List (List Int)),(ns:List NodeD),(os:List Int)⟩,(cc:List (List Int)),_⟩ hc hL
  simp only[K_l08Ok,go_sem] at hL
  obtain ⟨⟨lts,lns,los⟩,lcc,lcc2⟩:=hL
  simp only[K_l08Ok,St.init,St.initG,Tryz.ntmps115,go_sem] 
  refine oS fun _ hK1=>?_
  refine oW T_mHs20_ok ?_
  simp only[go_sem]
  refine hK1 _ ?_
  refine oS fun _ hK2=>?_
  refine oS fun _ hK3=>?_
  refine oR T_mHs20_ok
    [[],[0],[0,1],[0,1,2],[0,1,2,3],[0,1,2,3,4],[0,1,2,3,4,5],[0,1,2,3,4,5,6],[0,1,2,3,4,5,6,7],[0,1,2,3],[0,1,2,3,9],[0,1,2,3,9,10],[0,1,2,3,9,10,11],[0,1,2,3,9,10,11,12],[0,1,2,3,4,5,6,7,8,9,10,11,12,13],[0,1,2,3,4,5,6,7,8,9,10,11,12,13,14]]
    [[],[],[],[],[],[],[],[],[],[],[],[],[],[],[],[]]
    [[],[],[],[],[],[],[],[],[],[],[],[],[],[],[],[]] (by kernel_rfl) (by kernel_rfl) (adrawR_ok (acc:=[]) ?_)
  simp (maxSteps:=2000000)only[go_sem]
  repeat' (with_reducible first | refine oD ?_ | refine oT (fun g1=>?_) (fun g1=>?_) | refine oE (fun g1=>?_) (fun g1=>?_))
  all_goals
   refine hK3 _ ?_
   refine AWP_cond rfl ?_ ?_
   ·
    intro c0
    try simp only[zA,zB,zC,zD,zE,zF,zG,zH,zI] at c0
    all_goals
     refine oS fun _ hK4=>?_
     refine oW T_mHs20_ok ?_
     simp only[go_sem]
     refine hK4 _ ?_
     refine AWP_ret ?_
     simp only[hres,go_sem]
     first | exact oF | (refine ⟨?_,oF⟩; first | (rw [stateB_f1 (p:=(pi,ts,ns,os)) (show ¬ cc.length=ns.length by omega),Bool.and_false]) | (clear hK1 hK2 hK3 hK4; simp_all; done))
   ·
    intro c0
    try simp only[zA,zB,zC,zD,zE,zF,zG,zH,zI] at c0
    all_goals
     have hP:patchB (pi,ts,ns,os)=true:=by clear hK1 hK2 hK3; simp_all
     have hlc:cc.length=ns.length:=by clear hK1 hK2 hK3; simp_all<;>omega
     have hn24:ns.length≤24:=(formedB_parts (patchB_parts hP).1).1
     refine AWP_skip ?_
     simp only[go_sem]
     refine hK2 _ ?_
     refine oS fun _ hK5=>?_
     refine oS fun _ hK6=>?_
     refine oW T_mHs20_ok ?_
     simp only[go_sem]
     refine hK6 _ ?_
     refine AWP_block ?_
     refine AWP_loop_k (ι:={ k:Nat // k≤ns.length∧∀ i,i < k→cellB (pi,ts,ns,os) cc i=true }) (fun k=>⟨[.c (.pt [] ((.prod (.int .i64) (.prod (.row 26 (.row 2 (.int .i64))) (.prod (.row 90 (.prod (.int .i64) (.prod (.int .i64) (.prod (.int .i64) (.row 2 (.int .i64)))))) (.row 2 (.int .i64)))))) (pi,ts,ns,os) 0),.c (.pt [] ((.row 26 (.row 2 (.int .i64)))) cc 0),zz,zz,zz,.c (.sc (.int .i64 (k.1))),zz,zz,zz,zz,zz,zz,zz,zz,zz,zz,zz,zz,zz,zz,zz,zz,zz,zz,zz,zz,zz,zz,zz,zz,zz,zz,zz,zz,zz,zz,zz,zz,zz,zz,zz,zz,zz,zz,zz,zz,zz,zz,zz,zz,zz,zz,zz,zz,zz,zz,zz,zz,zz],[]⟩) (fun k=>ns.length - k.1) ⟨0,by simp,fun i hi=>by omega⟩ ?_ ?_
     ·
      refine oK ?_
      simp (maxSteps:=2000000)only[go_sem]
      all_goals (first | rfl | ((repeat' refine And.intro ?_ ?_)<;>first | rfl | simp))
     rintro ⟨k,hk,hp⟩ K7 hL7
     have hnc:k < ns.length→nodeC (ns.getD k (0,0,0,[])):=fun h=>⟨_,(nodeIn_parts (node_at (p:=(pi,ts,ns,os)) (patchB_parts hP).1 h)).1⟩
     refine oS fun _ hK8=>?_
     refine oS fun _ hK9=>?_
     refine oW T_mHs20_ok ?_
     simp (maxSteps:=2000000)only[go_sem]
     repeat (with_reducible refine oA ?_)
     refine hK9 _ ?_
     refine AWP_cond rfl ?_ ?_
     ·
      intro c1
      try simp only[zA,zB,zC,zD,zE,zF,zG,zH,zI] at c1
      all_goals
       refine AWP_skip ?_
       simp only[go_sem]
       refine hK8 _ ?_
       refine oS fun _ hK10=>?_
       refine AWP_block ?_
       refine oS fun _ hK11=>?_
       refine oR T_mHs20_ok
         [[],[0],[0,1],[0,1,2],[],[0,1,2,3,4],[0,1,2,3,4,5],[0,1,2,3,4,5,6],[],[8],[8,9],[8,9,10],[],[8,9,10,11,12],[8,9,10,11,12,13],[8,9,10,11,12,13,14],[0,1,2,3,4,5,6,7,8,9,10,11,12,13,14,15],[0,1,2,3,4,5,6,7,8,9,10,11,12,13,14,15,16],[0,1,2,3,4,5,6,7,8,9,10,11,12,13,14,15,16,17],[0,1,2,3,4,5,6,7,8,9,10,11,12,13,14,15,16,17,18],[0,1,2,3,4,5,6,7,8,9,10,11,12,13,14,15,16,17,18,19],[0,1,2,3,4,5,6,7,8,9,10,11,12,13,14,15,16,17,18,19,20],[0,1,2,3,4,5,6,7,8,9,10,11,12,13,14,15,16,17],[0,1,2,3,4,5,6,7,8,9,10,11,12,13,14,15,16,17,18,19,20,21,22],[0,1,2,3,4,5,6,7,8,9,10,11,12,13,14,15,16,17,18,19,20,21,22,23],[0,1,2,3,4,5,6,7,8,9,10,11,12,13,14,15,16,17,18,19,20,21,22,23,24],[0,1,2,3,4,5,6,7,8,9,10,11,12,13,14,15,16,17,18,19,20,21,22,23,24,25],[0,1,2,3,4,5,6,7,8,9,10,11,12,13,14,15,16,17,18,19,20,21,22,23,24,25,26]]
         [[820,821,822,823,824,825,826,827,828,829,830,831,832,833,834,835],[820,821,822,823,824,825,826,827,828,829,830,831,832,833,834,835],[820,821,822,823,824,825,826,827,828,829,830,831,832,833,834,835],[820,821,822,823,824,825,826,827,828,829,830,831,832,833,834,835],[820,821,822,823,824,825,826,827,828,829,830,831,832,833,834,835],[820,821,822,823,824,825,826,827,828,829,830,831,832,833,834,835],[820,821,822,823,824,825,826,827,828,829,830,831,832,833,834,835],[820,821,822,823,824,825,826,827,828,829,830,831,832,833,834,835],[],[],[],[],[],[],[],[],[],[],[],[],[],[],[],[],[],[],[],[]]
         [[],[],[],[],[],[],[],[],[],[],[],[],[],[],[820,821,822,823,824,825,826,827,828,829,830,831,832,833,834,835],[],[],[],[],[],[],[],[],[],[],[],[],[]] (by kernel_rfl) (by kernel_rfl) (adrawR_ok (acc:=[]) ?_)
       simp (maxSteps:=2000000)only[go_sem]
       repeat' (with_reducible first | refine oD ?_ | refine And.intro (by first | exact hnc (by omega)) ?_ | refine oT (fun g6=>?_) (fun g6=>?_) | refine oE (fun g6=>?_) (fun g6=>?_))
       all_goals
        refine hK11 _ ?_
        refine AWP_cond rfl ?_ ?_
        ·
         intro c2
         try simp only[zA,zB,zC,zD,zE,zF,zG,zH,zI] at c2
         all_goals
          have hsv:(startV (ns.getD k (0,0,0,[]))).length=(startV ((pi,ts,ns,os).2.2.1.getD k n0)).length:=rfl
          have hs16:(startV (ns.getD k (0,0,0,[]))).length≤16:=startV_len' (nodeIn_parts (node_at (p:=(pi,ts,ns,os)) (patchB_parts hP).1 (i:=k) (show k < ns.length by omega))).1
          have hcf:cellB (pi,ts,ns,os) cc k=false:=by first | exact cellB_f1 (by omega) | exact cellB_f2 (by rw [← l03B_s (by omega)]; assumption)
          refine oS fun _ hK12=>?_
          refine oW T_mHs20_ok ?_
          simp only[go_sem]
          refine hK12 _ ?_
          refine AWP_ret ?_
          simp only[hres,go_sem]
          first | exact oF | (refine ⟨?_,oF⟩; rw [hP,stateB_f2 (p:=(pi,ts,ns,os)) (k:=k) (by show k < ns.length; omega) hcf]; rfl)
        ·
         intro c2
         try simp only[zA,zB,zC,zD,zE,zF,zG,zH,zI] at c2
         all_goals
          have hsv:(startV (ns.getD k (0,0,0,[]))).length=(startV ((pi,ts,ns,os).2.2.1.getD k n0)).length:=rfl
          have hs16:(startV (ns.getD k (0,0,0,[]))).length≤16:=startV_len' (nodeIn_parts (node_at (p:=(pi,ts,ns,os)) (patchB_parts hP).1 (i:=k) (show k < ns.length by omega))).1
          have hce:cellB (pi,ts,ns,os) cc k=true:=cellB_t (by omega) (by rw [← l03B_s (by omega)]; assumption)
          refine AWP_skip ?_
          simp only[go_sem]
          refine hK10 _ ?_
          refine oW T_mHs20_ok ?_
          simp only[go_sem]
          refine hL7 ⟨k+1,by omega,cellB_next hp hce⟩ _ (oK ?_) ?_
          ·
           simp (maxSteps:=2000000)only[go_sem]
           all_goals (first | rfl | ((repeat' refine And.intro ?_ ?_)<;>first | rfl | exact wk (by omega) | simp))
          ·
           first | (simp only[]; omega) | omega | (simp; omega)
     ·
      intro c1
      try simp only[zA,zB,zC,zD,zE,zF,zG,zH,zI] at c1
      all_goals
       refine AWP_exit ?_
       simp only[go_sem]
       refine hK5 _ ?_
       refine oS fun _ hK13=>?_
       refine oW T_mHs20_ok ?_
       simp only[go_sem]
       refine hK13 _ ?_
       refine AWP_ret ?_
       simp only[hres,go_sem]
       first | exact oF | (refine ⟨?_,oF⟩; rw [hP,stateB_t (p:=(pi,ts,ns,os)) (k:=k) (by show cc.length=ns.length; omega) (by show ¬ k < ns.length; omega) hp]; rfl)
def T_l08Ok:Tab:=fun f=>if f=115 then some (.p K_l08Ok) else T_mHs20 f
theorem T_l08Ok_ok:TabOk Tryz.prog T_l08Ok:=tabP l08Ok_ok (fnOk_of Tryz.func115 rfl (by decide)) T_mHs20_ok
attribute [go_sem] T_l08Ok K_l08Ok
def K_l08Frame:Con:=⟨[.ptr (.prod (.int .i64) (.prod (.row 26 (.row 2 (.int .i64))) (.prod (.row 90 (.prod (.int .i64) (.prod (.int .i64) (.prod (.int .i64) (.row 2 (.int .i64)))))) (.row 2 (.int .i64))))),.ptr (.row 26 (.row 2 (.int .i64))),.val ((.row 2 (.int .i64)))],[⟨.int .i64,true⟩],fun _=>True,fun x=>codeF x.1 x.2.1 x.2.2.1⟩
theorem l08Frame_ok:PureT Tryz.prog 58 K_l08Frame:=by
  refine pure_of_body Tryz.func58 rfl ?_
  have hres:Tryz.f58.results.toList=[.tmp 6]:=rfl
  rintro ⟨⟨(pi:Int),(ts:List (List Int)),(ns:List NodeD),(os:List Int)⟩,(cc:List (List Int)),(ff:List Int),_⟩ hc hL
  simp only[K_l08Frame,go_sem] at hL
  simp only[K_l08Frame,St.init,St.initG,Tryz.ntmps58,go_sem] 
  refine oS fun _ hK1=>?_
  refine oW T_l08Ok_ok ?_
  simp only[go_sem]
  refine hK1 _ ?_
  refine oS fun _ hK2=>?_
  refine oS fun _ hK3=>?_
  refine oW T_l08Ok_ok ?_
  simp only[go_sem]
  repeat (with_reducible refine oA ?_)
  refine hK3 _ ?_
  refine oC rfl ?_ ?_
  ·
   intro c0
   refine oS fun _ hK4=>?_
   refine oW T_l08Ok_ok ?_
   simp only[go_sem]
   refine hK4 _ ?_
   refine AWP_ret ?_
   simp only[hres,go_sem]
   first | exact oF | (refine ⟨?_,oF⟩; exact (codeF_1 c0).symm)
  intro c0
  have hpi:pi≤4:=(formedB_parts (patchB_parts (Bool.and_eq_true_iff.1 c0).1).1).2.2.2.2.1
  have hl3:(ff.length:Int)=pi→l03B ff=smps ff:=fun h=>by unfold l03B; rw [decide_eq_true (by omega)]; rfl
  refine AWP_skip ?_
  simp only[go_sem]
  refine hK2 _ ?_
  refine oS fun _ hK5=>?_
  refine oS fun _ hK6=>?_
  refine oW T_l08Ok_ok ?_
  simp (maxSteps:=2000000)only[go_sem]
  repeat' (with_reducible first | refine oA ?_ | refine oT (fun g3=>?_) (fun g3=>?_) | refine oE (fun g3=>?_) (fun g3=>?_))
  all_goals
   refine hK6 _ ?_
   refine AWP_cond rfl ?_ ?_
   ·
    intro c1
    try simp only[zA,zB,zC,zD,zE,zF,zG,zH,zI] at c1
    all_goals
     refine oS fun _ hK7=>?_
     refine oW T_l08Ok_ok ?_
     simp only[go_sem]
     refine hK7 _ ?_
     refine AWP_ret ?_
     simp only[hres,go_sem]
     first | exact oF | (refine ⟨?_,oF⟩; first | exact (codeF_2 c0 (by rw [decide_eq_false (by omega)]; rfl)).symm | exact (codeF_2 c0 (by rw [← hl3 (by omega),show l03B ff=false by assumption,Bool.and_false])).symm)
   ·
    intro c1
    try simp only[zA,zB,zC,zD,zE,zF,zG,zH,zI] at c1
    all_goals
     refine AWP_skip ?_
     simp only[go_sem]
     refine hK5 _ ?_
     refine oS fun _ hK8=>?_
     refine oW T_l08Ok_ok ?_
     simp only[go_sem]
     refine hK8 _ ?_
     refine AWP_ret ?_
     simp only[hres,go_sem]
     first | exact oF | (refine ⟨?_,oF⟩; exact (codeF_0 c0 (by rw [decide_eq_true (by omega),← hl3 (by omega),show l03B ff=true by assumption]; rfl)).symm)
def T_l08Frame:Tab:=fun f=>if f=58 then some (.p K_l08Frame) else T_l08Ok f
theorem T_l08Frame_ok:TabOk Tryz.prog T_l08Frame:=tabP l08Frame_ok (fnOk_of Tryz.func58 rfl (by decide)) T_l08Ok_ok
attribute [go_sem] T_l08Frame K_l08Frame
set_option maxRecDepth 100000
set_option maxHeartbeats 4000000
def T_mHt60:Tab:=fun f=>match T_l08Values f with
 | some k=>some k
 | none=>T_l08Step f
theorem T_mHt60_ok:TabOk Tryz.prog T_mHt60:=tabM T_l08Values_ok T_l08Step_ok
attribute [go_sem] T_mHt60 T0
def T_mHt61:Tab:=fun f=>match T_mHt60 f with
 | some k=>some k
 | none=>T_l08Frame f
theorem T_mHt61_ok:TabOk Tryz.prog T_mHt61:=tabM T_mHt60_ok T_l08Frame_ok
attribute [go_sem] T_mHt61 T0
def K_specStep:GCon where
  ps:=[.val ((.prod (.int .i64) (.prod (.row 26 (.row 2 (.int .i64))) (.prod (.row 90 (.prod (.int .i64) (.prod (.int .i64) (.prod (.int .i64) (.row 2 (.int .i64)))))) (.row 2 (.int .i64)))))),.one ((.row 26 (.row 2 (.int .i64)))),.val ((.row 2 (.int .i64)))]
  os:=[]
  c:=fun _=>True
  r:=fun x=>.tup [.c (.ow 10),.agg [.ow 11],.c (.sc (.int .i64 (stepR x.1.1 x.1.2.1 x.1.2.2.1).2.2))]
  o:=fun x=>[(10,.row 2 (.int .i64) ((stepR x.1.1 x.1.2.1 x.1.2.2.1).1) []),(11,.tree 26 (.row 2 (.int .i64)) ((stepR x.1.1 x.1.2.1 x.1.2.2.1).2.1) none)]
  ok:=by
    rintro ⟨⟨⟨(pi:Int),(ts:List (List Int)),(ns:List NodeD),(os:List Int)⟩,(cc:List (List Int)),(ff:List Int),_⟩,_⟩
    exact ⟨rfl,rfl,by decide⟩
theorem specStep_ok:GenT Tryz.prog 19 K_specStep:=by
  refine gen_of_body Tryz.func19 rfl ?_
  have hres:Tryz.f19.results.toList=[.tmp 6,.cell 7 39,.tmp 8]:=rfl
  rintro ⟨⟨⟨(pi:Int),(ts:List (List Int)),(ns:List NodeD),(os:List Int)⟩,(cc:List (List Int)),(ff:List Int),_⟩,_⟩ hc hL hO
  simp only[K_specStep,go_sem] at hL
  simp only[K_specStep,go_sem] at hO
  simp only[K_specStep,St.init,St.initG,Tryz.ntmps19,go_sem] 
  refine oS fun _ hK1=>?_
  refine oW T_mHt61_ok ?_
  simp (maxSteps:=2000000)only[go_sem]
  refine hK1 _ ?_
  refine oS fun _ hK2=>?_
  refine oS fun _ hK3=>?_
  refine oW T_mHt61_ok ?_
  simp only[go_sem]
  repeat (with_reducible refine oA ?_)
  refine hK3 _ ?_
  refine oS fun _ hK4=>?_
  refine oW T_mHt61_ok ?_
  simp only[go_sem]
  refine hK4 _ ?_
  refine oC rfl ?_ ?_
  ·
   intro c0
   refine oS fun _ hK5=>?_
   refine oW T_mHt61_ok ?_
   simp (maxSteps:=2000000)only[go_sem]
   repeat (with_reducible refine oA ?_)
   refine hK5 _ ?_
   refine AWP_wk (Wk_nilSlot _ 6 9101 2 (.int .i64) (by decide)) ?_
   simp (maxSteps:=2000000)only[go_sem]
   refine AWP_wk (Wk_nilBox _ 212 0 9102 26 ((.row 2 (.int .i64))) (by decide)) ?_
   simp (maxSteps:=2000000)only[go_sem]
   refine AWP_ret ?_
   simp only[hres,go_sem]
   first
    | exact oG
    | refine ⟨oG,?_⟩
      rw [stepR_f c0]
      (repeat' refine And.intro ?_ ?_)<;>first | rfl | (congr 1; done)
  intro c0
  obtain ⟨hP,hS,hfl,hff⟩:=codeF_ok c0
  have hsr:=stepR_t (p:=(pi,ts,ns,os)) (s:=cc) (fr:=ff) c0
  have hF:=(patchB_parts hP).1
  have hn24:ns.length≤24:=(formedB_parts hF).1
  have hvo:=valsL_ok' (p:=(pi,ts,ns,os)) (s:=cc) (fr:=ff) hF hS hff
  have hos:os.length≤1000∧idxs (valsL (pi,ts,ns,os) cc ff).length os=true:=⟨by have:=(formedB_parts hF).2.1; show os.length≤1000; have h:os.length≤4:=this; omega,by rw [hvo.1]; exact (formedB_parts hF).2.2.2.2.2.1⟩
  have hor:ordR ns=(ordL ns,true):=ordR_t (patchB_parts hP).2
  refine AWP_skip ?_
  simp only[go_sem]
  refine hK2 _ ?_
  refine oS fun _ hK6=>?_
  refine oW T_mHt61_ok ?_
  simp (maxSteps:=2000000)only[hor,go_sem]
  repeat (with_reducible first | refine oA ?_ | refine And.intro (by first | exact hF) ?_)
  refine hK6 _ ?_
  refine oS fun _ hK7=>?_
  refine oW T_mHt61_ok ?_
  simp only[go_sem]
  repeat (with_reducible first | refine oA ?_ | refine And.intro (by first | exact ⟨hP,rfl,hS,hfl,hff⟩ | exact ⟨hP,hS,hfl,hff⟩) ?_)
  refine hK7 _ ?_
  refine oS fun _ hK8=>?_
  refine oW T_mHt61_ok ?_
  simp only[go_sem]
  repeat (with_reducible first | refine oA ?_ | refine And.intro (by first | exact ⟨hP,hS,hfl,hff,hvo⟩) ?_)
  refine hK8 _ ?_
  refine oS fun _ hK9=>?_
  refine oR T_mHt61_ok
    [[],[0],[],[0,1,2],[],[0,1,2,3],[0,1,2,3,4,5],[0,1,2,3,4,5,6]]
    [[],[],[],[],[612,613,614,615,616,617,618,619,620,621,622,623,624,625,626,627],[],[],[]]
    [[],[],[],[612,613,614,615,616,617,618,619,620,621,622,623,624,625,626,627],[],[],[],[]] (by kernel_rfl) (by kernel_rfl) (adrawR_ok (acc:=[]) ?_)
  simp (maxSteps:=2000000)only[go_sem]
  repeat (with_reducible first | refine oD ?_ | refine And.intro (by first | exact hos) ?_)
  refine hK9 _ ?_
  refine AWP_ret ?_
  simp only[hres,go_sem]
  first
   | exact oG
   | refine ⟨oG,?_⟩
     rw [hsr]
     (repeat' refine And.intro ?_ ?_)<;>first | rfl | (congr 1; done)
def T_specStep:Tab:=fun f=>if f=19 then some (.g K_specStep) else T_mHt61 f
theorem T_specStep_ok:TabOk Tryz.prog T_specStep:=tabG specStep_ok (fnOk_of Tryz.func19 rfl (by decide)) T_mHt61_ok
attribute [go_sem] T_specStep K_specStep
end Go.Proofs.YtflaacndokbddaaGreat
