/-
  Texts of this claim, joined (part 31). No condition beyond those of the theorems.
-/
import Derived.Test.YtenjbehedcegdaaR29
import Derived.Test.YtenjbehedcegdaaR30
namespace Go.Proofs.Ytenjbehedcegdaa
open Go.RowKit
set_option linter.unusedSimpArgs false
set_option linter.unusedVariables false
set_option maxRecDepth 100000
set_option maxHeartbeats 8000000
def K_l11Instr:Con:=⟨[.ptr (.prod (.int .i64) (.prod (.int .i64) (.prod (.int .i64) (.prod (.int .i64) (.prod (.row 2 (.int .i64)) (.int .i64)))))),.val (.int .i64),.val (.int .i64)],[⟨.bool,true⟩],fun x=>inR x.2.1 (-1000) 1000=true,fun x=>insB x.2.1 x.2.2.1 x.1⟩
theorem l11Instr_ok:PureT Try.prog 42 K_l11Instr:=by
  refine pure_of_body Try.func42 rfl ?_
  have hres:Try.f42.results.toList=[.tmp 6]:=rfl
  rintro⟨⟨(kd:Int),(a:Int),(bb:Int),(nd:Int),(fr:List Int),(tt:Int)⟩,(rg:Int),(tb:Int),_⟩ hc hL
  simp only[K_l11Instr,go_sem] at hL
  simp only[K_l11Instr,St.init,St.initG,Try.ntmps42,go_sem] 
  obtain⟨hr1,hr2⟩:=inR_iff.1 (show inR rg (-1000) 1000=true from hc)
  have hw:IntKind.i64.wrap (rg - 1)=rg - 1:=wrapI (by omega)
  refine oS fun _ hK1=>?_
  refine oW T_l11Pairs_ok ?_
  refine aseq_take 200 (by rfl) ?_
  simp only[go_sem]
  refine hK1 _ ?_
  refine oS fun _ hK2=>?_
  refine oS fun _ hK3=>?_
  refine oW T_l11Pairs_ok ?_
  refine aseq_take 200 (by rfl) ?_
  simp (maxSteps:=2000000)only[go_sem]
  repeat(with_reducible refine oA ?_)
  refine hK3 _ ?_
  refine oC rfl ?_ ?_
  ·
   intro c0
   refine oS fun _ hK4=>?_
   refine oW T_l11Pairs_ok ?_
   refine aseq_take 200 (by rfl) ?_
   simp only[go_sem]
   refine hK4 _ ?_
   refine AWP_ret ?_
   simp only[hres,go_sem]
   first
    | exact oF
    | refine ⟨?_, oF⟩
      rw[insB_v]
      clear hK1 hK2 hK3 hK4;simp_all
  intro c0
  refine AWP_skip ?_
  simp only[go_sem]
  refine hK2 _ ?_
  refine oS fun _ hK5=>?_
  refine oS fun _ hK6=>?_
  refine oW T_l11Pairs_ok ?_
  refine aseq_take 200 (by rfl) ?_
  simp only[go_sem]
  refine hK6 _ ?_
  refine AWP_block ?_
  refine AWP_loop_k (ι:={ k:Nat // k≤fr.length∧(fr.take k).all (fun i=>inR i 0 (rg - 1))=true }) (fun k=>⟨[.c (.pt [] ((.prod (.int .i64) (.prod (.int .i64) (.prod (.int .i64) (.prod (.int .i64) (.prod (.row 2 (.int .i64)) (.int .i64))))))) (kd,a,bb,nd,fr,tt) 0),.c (.sc (.int .i64 (rg))),.c (.sc (.int .i64 (tb))),zz,zz,zz,zz,.c (.sc (.int .i64 (k.1))),zz,zz,zz,zz,zz,zz,zz,zz,zz,zz,zz,zz,zz,zz,zz,zz,zz,zz,zz,zz,zz,zz,zz,zz,zz,zz,zz,zz,zz,zz,zz,zz,zz,zz,zz,zz,zz,zz,zz,zz,zz,zz,zz,zz,zz,zz,zz,zz,zz,zz,zz,zz,zz,zz,zz,zz,zz,zz,zz,zz,zz,zz,zz,zz,zz,zz,zz,zz,zz,zz,zz,zz,zz,zz,zz,zz,zz,zz,zz,zz,zz,zz,zz,zz,zz,zz,zz,zz,zz,zz,zz,zz,zz,zz,zz,zz,zz,zz,zz,zz,zz,zz,zz,zz],[]⟩) (fun k=>fr.length - k.1) ⟨0,by simp⟩ ?_ ?_
  ·
   refine oK ?_
   simp (maxSteps:=2000000)only[go_sem]
   all_goals(first|rfl|((repeat' refine And.intro ?_ ?_)<;>first|rfl|simp))
  rintro⟨k,hk,hp⟩ K7 hL7
  refine oS fun _ hK8=>?_
  refine oS fun _ hK9=>?_
  refine oW T_l11Pairs_ok ?_
  refine aseq_take 200 (by rfl) ?_
  simp (maxSteps:=2000000)only[go_sem]
  repeat(with_reducible refine oA ?_)
  refine hK9 _ ?_
  refine oC rfl ?_ ?_
  ·
   intro c1
   refine AWP_skip ?_
   simp only[go_sem]
   refine hK8 _ ?_
   refine oS fun _ hK10=>?_
   refine AWP_block ?_
   refine oS fun _ hK11=>?_
   refine oW T_l11Pairs_ok ?_
   refine aseq_take 200 (by rfl) ?_
   simp (maxSteps:=2000000)only[hw,go_sem]
   repeat(with_reducible refine oA ?_)
   refine hK11 _ ?_
   refine oC rfl ?_ ?_
   ·
    intro c2
    refine oS fun _ hK12=>?_
    refine oW T_l11Pairs_ok ?_
    refine aseq_take 200 (by rfl) ?_
    simp only[go_sem]
    refine hK12 _ ?_
    refine AWP_ret ?_
    simp only[hres,go_sem]
    first
     | exact oF
     | refine ⟨?_, oF⟩
       have hix:idxs rg fr=false:=all_stop (k:=k) (d:=0) (by omega) (by first|assumption|(clear hK1 hK2 hK3 hK5 hK6 hL7 hK8 hK9 hK10 hK11 hK12;simp_all))
       rw[insB_v,hix]
       clear hK1 hK2 hK3 hK5 hK6 hL7 hK8 hK9 hK10 hK11 hK12;simp_all
   intro c2
   refine AWP_skip ?_
   simp only[go_sem]
   refine hK10 _ ?_
   refine oW T_l11Pairs_ok ?_
   refine aseq_take 200 (by rfl) ?_
   simp only[go_sem]
   refine hL7 ⟨k+1,by omega,all_next (d:=0) (by omega) hp (by first|assumption|(clear hK1 hK2 hK3 hK5 hK6 hL7 hK8 hK9 hK10 hK11;simp_all))⟩ _ (oK ?_) ?_
   ·
    simp (maxSteps:=2000000)only[go_sem]
    first|rfl|exact wk (by omega)
   ·
    first|(simp only[];omega)|omega|(simp;omega)
  intro c1
  have hix:idxs rg fr=true:=all_done hp (by omega)
  refine AWP_exit ?_
  simp only[go_sem]
  refine hK5 _ ?_
  refine oS fun _ hK13=>?_
  refine oS fun _ hK14=>?_
  refine oW T_l11Pairs_ok ?_
  refine aseq_take 200 (by rfl) ?_
  simp only[go_sem]
  repeat(with_reducible refine oA ?_)
  refine hK14 _ ?_
  refine AWP_block ?_
  refine oS fun _ hK15=>?_
  refine oW T_l11Pairs_ok ?_
  refine aseq_take 200 (by rfl) ?_
  simp only[go_sem]
  refine hK15 _ ?_
  refine oC rfl ?_ ?_
  ·
   intro c3
   refine oS fun _ hK16=>?_
   refine oW T_l11Pairs_ok ?_
   refine aseq_take 200 (by rfl) ?_
   simp (maxSteps:=2000000)only[go_sem]
   repeat' (with_reducible first|refine oA ?_|refine oT (fun g10=>?_) (fun g10=>?_)|refine oE (fun g10=>?_) (fun g10=>?_))
   all_goals
    refine hK16 _ ?_
    refine AWP_ret ?_
    simp only[hres,go_sem]
    first
     | exact oF
     | refine ⟨?_, oF⟩
       rw[insB_v]
       clear hK1 hK2 hK3 hK5 hK6 hL7 hK8 hK9 hK13 hK14 hK15 hK16
       first|(simp_all [nodeX];done)|(simp_all [nodeX,-Int.not_le];done)
  intro c3
  refine oS fun _ hK17=>?_
  refine oW T_l11Pairs_ok ?_
  refine aseq_take 200 (by rfl) ?_
  simp only[go_sem]
  refine hK17 _ ?_
  refine oC rfl ?_ ?_
  ·
   intro c4
   refine oS fun _ hK18=>?_
   refine oW T_l11Pairs_ok ?_
   refine aseq_take 200 (by rfl) ?_
   simp (maxSteps:=2000000)only[hw,go_sem]
   repeat' (with_reducible first|refine oA ?_|refine oT (fun g12=>?_) (fun g12=>?_)|refine oE (fun g12=>?_) (fun g12=>?_))
   all_goals
    refine hK18 _ ?_
    refine AWP_ret ?_
    simp only[hres,go_sem]
    first
     | exact oF
     | refine ⟨?_, oF⟩
       rw[insB_v]
       clear hK1 hK2 hK3 hK5 hK6 hL7 hK8 hK9 hK13 hK14 hK15 hK17 hK18
       first|(simp_all [nodeX];done)|(simp_all [nodeX,-Int.not_le];done)
  intro c4
  refine AWP_skip ?_
  simp only[go_sem]
  refine hK13 _ ?_
  refine oS fun _ hK19=>?_
  refine oW T_l11Pairs_ok ?_
  refine aseq_take 200 (by rfl) ?_
  simp only[go_sem]
  repeat(with_reducible refine oA ?_)
  refine hK19 _ ?_
  refine oS fun _ hK20=>?_
  refine oW T_l11Pairs_ok ?_
  refine aseq_take 200 (by rfl) ?_
  simp (maxSteps:=2000000)only[hw,go_sem]
  repeat' (with_reducible first|refine oA ?_|refine oT (fun g14=>?_) (fun g14=>?_)|refine oE (fun g14=>?_) (fun g14=>?_))
  all_goals
   refine hK20 _ ?_
   refine AWP_ret ?_
   simp only[hres,go_sem]
   first
    | exact oF
    | refine ⟨?_, oF⟩
      rw[insB_v]
      clear hK1 hK2 hK3 hK5 hK6 hL7 hK8 hK9 hK13 hK14 hK15 hK17 hK19 hK20
      first|(simp_all [nodeX];done)|(simp_all [nodeX,-Int.not_le];done)
def T_l11Instr:Tab:=fun f=>if f=42 then some (.p K_l11Instr) else T_l11Pairs f
theorem T_l11Instr_ok:TabOk Try.prog T_l11Instr:=tabP l11Instr_ok (fnOk_of Try.func42 rfl (by decide)) T_l11Pairs_ok
attribute [go_sem] T_l11Instr K_l11Instr
def K_l11Ok:Con:=⟨[.ptr (.prod (.int .i64) (.prod (.int .i64) (.prod (.row 24 (.row 2 (.int .i64))) (.prod (.row 49 (.prod (.int .i64) (.prod (.int .i64) (.prod (.int .i64) (.prod (.int .i64) (.prod (.row 2 (.int .i64)) (.int .i64))))))) (.row 2 (.int .i64))))))],[⟨.bool,true⟩],fun _=>True,fun x=>progB x.1⟩
theorem l11Ok_ok:PureT Try.prog 17 K_l11Ok:=by
  refine pure_of_body Try.func17 rfl ?_
  have hres:Try.f17.results.toList=[.tmp 2]:=rfl
  rintro⟨⟨(gi:Int),(gr:Int),(ts:List (List Int)),(xs:List InstrD),(os:List Int)⟩,_⟩ hc hL
  simp only[K_l11Ok,go_sem] at hL
  simp only[K_l11Ok,St.init,St.initG,Try.ntmps17,go_sem] 
  refine oS fun _ hK1=>?_
  refine oW T_l11Instr_ok ?_
  refine aseq_take 200 (by rfl) ?_
  simp only[go_sem]
  repeat(with_reducible first|refine oA ?_|refine And.intro (by first|exact hgr|exact hxl) ?_)
  refine hK1 _ ?_
  refine oS fun _ hK2=>?_
  refine oS fun _ hK3=>?_
  refine oW T_l11Instr_ok ?_
  refine aseq_take 200 (by rfl) ?_
  simp (maxSteps:=2000000)only[go_sem]
  repeat' (with_reducible first|refine oA ?_|refine And.intro (by first|exact hgr|exact hxl) ?_|refine oT (fun g1=>?_) (fun g1=>?_)|refine oE (fun g1=>?_) (fun g1=>?_))
  all_goals
   refine hK3 _ ?_
   refine AWP_cond rfl ?_ ?_
   ·
    intro c0
    try simp only[zA,zB,zC,zD,zE,zF,zG,zH,zI] at c0
    all_goals
     refine oS fun _ hK4=>?_
     refine oW T_l11Instr_ok ?_
     refine aseq_take 200 (by rfl) ?_
     simp only[go_sem]
     repeat(with_reducible first|refine oA ?_|refine And.intro (by first|exact hgr|exact hxl) ?_)
     refine hK4 _ ?_
     refine AWP_ret ?_
     simp only[hres,go_sem]
     first
      | exact oF
      | refine ⟨?_, oF⟩
        have hA:progC (gi,gr,ts,xs,os)=false:=by
          clear hK1 hK2 hK3 hK4
          unfold progC
          first|(simp_all;done)|(simp_all;omega)
        rw[progC_eq,hA];rfl
   ·
    intro c0
    try simp only[zA,zB,zC,zD,zE,zF,zG,zH,zI] at c0
    all_goals
     have hxl:xs.length≤48:=by omega
     have e2:os.length≤4:=by omega
     have hA:progC (gi,gr,ts,xs,os)=true:=by
       clear hK1 hK2 hK3
       unfold progC
       simp only[decide_eq_true hxl,decide_eq_true e2]
       simp_all
     have hgr:inR gr (-1000) 1000=true:=by
       have h2:inR gr 0 24=true:=by clear hK1 hK2 hK3;simp_all
       have:=inR_iff.1 h2
       exact inR_t (by omega) (by omega)
     refine AWP_skip ?_
     simp only[go_sem]
     refine hK2 _ ?_
     refine oS fun _ hK5=>?_
     refine oS fun _ hK6=>?_
     refine oW T_l11Instr_ok ?_
     refine aseq_take 200 (by rfl) ?_
     simp only[go_sem]
     repeat(with_reducible first|refine oA ?_|refine And.intro (by first|exact hgr|exact hxl) ?_)
     refine hK6 _ ?_
     refine AWP_block ?_
     refine AWP_loop_k (ι:={ k:Nat // k≤xs.length∧(xs.take k).all (insG (gi,gr,ts,xs,os))=true }) (fun k=>⟨[.c (.pt [] ((.prod (.int .i64) (.prod (.int .i64) (.prod (.row 24 (.row 2 (.int .i64))) (.prod (.row 49 (.prod (.int .i64) (.prod (.int .i64) (.prod (.int .i64) (.prod (.int .i64) (.prod (.row 2 (.int .i64)) (.int .i64))))))) (.row 2 (.int .i64))))))) (gi,gr,ts,xs,os) 0),zz,zz,.c (.sc (.int .i64 (k.1))),zz,zz,zz,zz,zz,zz,zz,zz,zz,zz,zz,zz,zz,zz,zz,zz,zz,zz,zz,zz,zz,zz,zz,zz,zz,zz,zz,zz,zz,zz,zz,zz,zz,zz,zz,zz,zz,zz,zz,zz,zz,zz,zz,zz,zz,zz,zz,zz,zz,zz,zz,zz,zz,zz,zz,zz,zz,zz,zz,zz,zz,zz,zz,zz,zz,zz,zz,zz,zz,zz,zz,zz,zz,zz,zz,zz,zz,zz,zz,zz,zz,zz,zz,zz,zz,zz,zz,zz,zz,zz,zz,zz,zz],[]⟩) (fun k=>xs.length - k.1) ⟨0,by simp⟩ ?_ ?_
     ·
      refine oK ?_
      simp (maxSteps:=2000000)only[go_sem]
      all_goals(first|rfl|((repeat' refine And.intro ?_ ?_)<;>first|rfl|simp))
     rintro⟨k,hk,hp⟩ K7 hL7
     refine oS fun _ hK8=>?_
     refine oS fun _ hK9=>?_
     refine oW T_l11Instr_ok ?_
     refine aseq_take 200 (by rfl) ?_
     simp (maxSteps:=2000000)only[go_sem]
     repeat(with_reducible first|refine oA ?_|refine And.intro (by first|exact hgr|exact hxl) ?_)
     refine hK9 _ ?_
     refine AWP_cond rfl ?_ ?_
     ·
      intro c1
      try simp only[zA,zB,zC,zD,zE,zF,zG,zH,zI] at c1
      all_goals
       refine AWP_skip ?_
       simp only[go_sem]
       refine hK8 _ ?_
       refine oS fun _ hK10=>?_
       refine AWP_block ?_
       refine oS fun _ hK11=>?_
       refine oW T_l11Instr_ok ?_
       refine aseq_take 200 (by rfl) ?_
       simp (maxSteps:=2000000)only[go_sem]
       repeat(with_reducible first|refine oA ?_|refine And.intro (by first|exact hgr|exact hxl) ?_)
       refine hK11 _ ?_
       refine oS fun _ hK12=>?_
       refine oR T_l11Instr_ok
         [[],[],[1],[1,2],[1,2,3],[],[5],[5,6],[5,6,7],[5,6,7,8],[0,1,2,3,4,5,6,7,8,9],[0,1,2,3,4,5,6,7,8,9,10],[0,1,2,3,4,5,6,7,8,9,10,11],[0,1,2,3,4,5,6,7,8,9,10,11,12],[0,1,2,3,4,5,6,7,8,9,10,11,12,13],[0,1,2,3,4,5,6,7,8,9,10,11,12,13,14],[0,1,2,3,4,5,6,7,8,9,10,11,12,13,14,15],[0,1,2,3,4,5,6,7,8,9,10,11,12,13,14,15,16],[0,1,2,3,4,5,6,7,8,9,10,11,12,13,14,15,16,17],[0,1,2,3,4,5,6,7,8,9,10,11,12,13,14,15,16,17,18],[0,1,2,3,4,5,6,7,8,9,10,11,12,13,14,15,16,17,18,19],[0,1,2,3,4,5,6,7,8,9,10,11,12,13,14,15,16,17,18,19,20],[0,1,2,3,4,5,6,7,8,9,10,11,12,13,14,15,16,17,18,19,20,21],[0,1,2,3,4,5,6,7,8,9,10,11,12,13,14,15,16,17,18],[0,1,2,3,4,5,6,7,8,9,10,11,12,13,14,15,16,17,18,23],[0,1,2,3,4,5,6,7,8,9,10,11,12,13,14,15,16,17,18,23,24],[0,1,2,3,4,5,6,7,8,9,10,11,12,13,14,15,16,17,18,23,24,25],[0,1,2,3,4,5,6,7,8,9,10,11,12,13,14,15,16,17,18,19,20,21,22,23,24,25,26],[0,1,2,3,4,5,6,7,8,9,10,11,12,13,14,15,16,17,18,19,20,21,22,23,24,25,26,27],[0,1,2,3,4,5,6,7,8,9,10,11,12,13,14,15,16,17,18,19,20,21,22,23,24,25,26,27,28]]
         [[],[],[],[],[],[],[],[],[],[],[],[],[],[],[],[],[],[],[],[],[],[],[],[],[],[],[],[],[],[]]
         [[],[],[],[],[],[],[],[],[],[],[],[],[],[],[],[],[],[],[],[],[],[],[],[],[],[],[],[],[],[]] (by kernel_rfl) (by kernel_rfl) (adrawR_ok (acc:=[]) ?_)
       simp (maxSteps:=2000000)only[go_sem]
       repeat' (with_reducible first|refine oD ?_|refine And.intro (by first|exact hgr|exact hxl) ?_|refine oT (fun g7=>?_) (fun g7=>?_)|refine oE (fun g7=>?_) (fun g7=>?_))
       all_goals
        refine hK12 _ ?_
        refine AWP_cond rfl ?_ ?_
        ·
         intro c2
         try simp only[zA,zB,zC,zD,zE,zF,zG,zH,zI] at c2
         all_goals
          refine oS fun _ hK13=>?_
          refine oW T_l11Instr_ok ?_
          refine aseq_take 200 (by rfl) ?_
          simp only[go_sem]
          repeat(with_reducible first|refine oA ?_|refine And.intro (by first|exact hgr|exact hxl) ?_)
          refine hK13 _ ?_
          refine AWP_ret ?_
          simp only[hres,go_sem]
          first
           | exact oF
           | refine ⟨?_, oF⟩
             have hq:insG (gi,gr,ts,xs,os) (xs.getD k ((0,0,0,0,[],0):InstrD))=false:=by
               cases hh:insG (gi,gr,ts,xs,os) (xs.getD k ((0,0,0,0,[],0):InstrD)) with
               | false=>rfl
               | true =>
                 exfalso
                 obtain⟨q1,q2⟩:=insG_parts hh
                 have q1:insB gr ts.length (xs.getD k ((0,0,0,0,[],0):InstrD))=true:=q1
                 have q2:¬((xs.getD k ((0,0,0,0,[],0):InstrD)).1=1∧gi≤(xs.getD k ((0,0,0,0,[],0):InstrD)).2.1):=q2
                 first|omega|exact absurd q1 (by rw[Bool.not_eq_true];assumption)
             have hn:xs.all (insG (gi,gr,ts,xs,os))=false:=all_stop (k:=k) (d:=((0,0,0,0,[],0):InstrD)) (by omega) hq
             rw[progC_eq,hA]
             show false=(true && (xs.all (insG (gi,gr,ts,xs,os)) && _))
             rw[hn];rfl
        ·
         intro c2
         try simp only[zA,zB,zC,zD,zE,zF,zG,zH,zI] at c2
         all_goals
          have hq:insG (gi,gr,ts,xs,os) (xs.getD k ((0,0,0,0,[],0):InstrD))=true:=insG_t (by assumption) (by show ¬((xs.getD k ((0,0,0,0,[],0):InstrD)).1=1∧gi≤(xs.getD k ((0,0,0,0,[],0):InstrD)).2.1);omega)
          refine AWP_skip ?_
          simp only[go_sem]
          refine hK10 _ ?_
          refine oW T_l11Instr_ok ?_
          refine aseq_take 200 (by rfl) ?_
          simp only[go_sem]
          repeat(with_reducible first|refine oA ?_|refine And.intro (by first|exact hgr|exact hxl) ?_)
          refine hL7 ⟨k+1,by omega,all_next (d:=((0,0,0,0,[],0):InstrD)) (by omega) hp (by first|assumption|(clear hK1 hK2 hK3 hK5 hK6 hL7 hK8 hK9 hK10 hK11 hK12;simp_all))⟩ _ (oK ?_) ?_
          ·
           simp (maxSteps:=2000000)only[go_sem]
           first|rfl|exact wk (by omega)
          ·
           first|(simp only[];omega)|omega|(simp;omega)
     ·
      intro c1
      try simp only[zA,zB,zC,zD,zE,zF,zG,zH,zI] at c1
      all_goals
       have hcl:xs.all (insG (gi,gr,ts,xs,os))=true:=all_done hp (by omega)
       refine AWP_exit ?_
       simp only[go_sem]
       refine hK5 _ ?_
       refine oS fun _ hK14=>?_
       refine oW T_l11Instr_ok ?_
       refine aseq_take 200 (by rfl) ?_
       simp (maxSteps:=2000000)only[go_sem]
       repeat' (with_reducible first|refine oA ?_|refine And.intro (by first|exact hgr|exact hxl) ?_|refine oT (fun g9=>?_) (fun g9=>?_)|refine oE (fun g9=>?_) (fun g9=>?_))
       all_goals
        refine hK14 _ ?_
        refine AWP_ret ?_
        simp only[hres,go_sem]
        first
         | exact oF
         | refine ⟨?_, oF⟩
           rw[progC_eq,hA]
           show _=(true && (xs.all (insG (gi,gr,ts,xs,os)) && _))
           rw[hcl]
           clear hK1 hK2 hK3 hK5 hK6 hL7 hK8 hK9 hK14
           simp_all
def T_l11Ok:Tab:=fun f=>if f=17 then some (.p K_l11Ok) else T_l11Instr f
theorem T_l11Ok_ok:TabOk Try.prog T_l11Ok:=tabP l11Ok_ok (fnOk_of Try.func17 rfl (by decide)) T_l11Instr_ok
attribute [go_sem] T_l11Ok K_l11Ok
def T_specVProg:Tab:=T_l11Ok
attribute [go_sem] T_specVProg
end Go.Proofs.Ytenjbehedcegdaa
