/-
  Texts of this claim, joined (part 48). No condition beyond those of the theorems.
-/
import Derived.Test.YtenjbehedcegdaaR43
import Derived.Test.YtenjbehedcegdaaR45
import Derived.Test.YtenjbehedcegdaaR02
import Derived.Test.YtenjbehedcegdaaR46
import Derived.Test.YtenjbehedcegdaaR47
namespace Go.Proofs.Ytenjbehedcegdaa
open Go.RowKit
set_option linter.unusedSimpArgs false
set_option linter.unusedVariables false
set_option maxRecDepth 100000
set_option maxHeartbeats 8000000
def T_mHp70:Tab:=fun f=>match T_isNode f with
 | some k=>some k
 | none=>T_waitsFor f
theorem T_mHp70_ok:TabOk Try.prog T_mHp70:=tabM T_isNode_ok T_waitsFor_ok
attribute [go_sem] T_mHp70 T0
def K_hasSt:Con:=⟨[.val ((.prod (.int .i64) (.prod (.int .i64) (.prod (.row 24 (.row 2 (.int .i64))) (.prod (.row 49 (.prod (.int .i64) (.prod (.int .i64) (.prod (.int .i64) (.prod (.int .i64) (.prod (.row 2 (.int .i64)) (.int .i64))))))) (.row 2 (.int .i64)))))))],[⟨.bool,true⟩],fun x=>smallI x.1.2.2.2.1,fun x=>hasB x.1.2.2.2.1⟩
theorem hasSt_ok:PureT Try.prog 58 K_hasSt:=by
  refine pure_lift fun ⟨⟨(gi:Int),(gr:Int),(ts:List (List Int)),(xs:List InstrD),(os:List Int)⟩,_⟩ hc R w vs hv=>?_
  obtain⟨v1,l1,e1,⟨us,rfl,a,la,ea,ha,b,lb,eb,hb,c,lc,ec,hc',d,ld,ed,hd,f,lf,ef,hf,e5⟩,h2⟩:=hv
  have h2:l1=[]:=h2
  have e5:lf=[]:=e5
  subst h2 e5 ef ed ec eb
  have eu:=arr_of ea
  subst eu
  have ev:=arr_of e1
  subst ev
  exact(has_w w a b c d f xs hc hd).mono fun _ _ ⟨he,hk⟩=>⟨_,he,vr_sc _,obsOk_nil _ _,hk⟩
def T_hasSt:Tab:=fun f=>if f=58 then some (.p K_hasSt) else T_mHp70 f
theorem T_hasSt_ok:TabOk Try.prog T_hasSt:=tabP hasSt_ok (fnOk_of Try.func58 rfl (by decide)) T_mHp70_ok
attribute [go_sem] T_hasSt K_hasSt
def K_asNode:Con:=⟨[.val ((.prod (.int .i64) (.prod (.int .i64) (.prod (.int .i64) (.prod (.int .i64) (.prod (.row 2 (.int .i64)) (.int .i64)))))))],[⟨(.prod (.int .i64) (.prod (.int .i64) (.prod (.int .i64) (.row 2 (.int .i64))))),false⟩],fun _=>True,fun x=>nodeX x.1⟩
theorem asNode_ok:PureT Try.prog 31 K_asNode:=by
  refine pure_of_body Try.func31 rfl ?_
  have hres:Try.f31.results.toList=[.cell 2 65]:=rfl
  rintro⟨⟨(kd:Int),(a:Int),(bb:Int),(nd:Int),(fr:List Int),(tt:Int)⟩,_⟩ hc hL
  simp only[K_asNode,go_sem] at hL
  simp only[K_asNode,St.init,St.initG,Try.ntmps31,go_sem] 
  refine oS fun _ hK1=>?_
  refine oW T_hasSt_ok ?_
  simp only[go_sem]
  refine hK1 _ ?_
  refine oS fun _ hK2=>?_
  refine oW T_hasSt_ok ?_
  simp (maxSteps:=2000000)only[go_sem]
  repeat(with_reducible refine oA ?_)
  refine hK2 _ ?_
  refine AWP_ret ?_
  simp only[hres,go_sem]
  first|exact oF|exact oFr
def T_asNode:Tab:=fun f=>if f=31 then some (.p K_asNode) else T_hasSt f
theorem T_asNode_ok:TabOk Try.prog T_asNode:=tabP asNode_ok (fnOk_of Try.func31 rfl (by decide)) T_hasSt_ok
attribute [go_sem] T_asNode K_asNode
def K_isInstr:Con:=⟨[.val ((.prod (.int .i64) (.prod (.int .i64) (.prod (.int .i64) (.prod (.int .i64) (.prod (.row 2 (.int .i64)) (.int .i64))))))),.val (.int .i64),.val (.int .i64)],[⟨.bool,true⟩],fun x=>inR x.2.1 (-1000) 1000=true,fun x=>insB x.2.1 x.2.2.1 x.1⟩
theorem isInstr_ok:PureT Try.prog 57 K_isInstr:=by
  refine pure_of_body Try.func57 rfl ?_
  have hres:Try.f57.results.toList=[.tmp 6]:=rfl
  rintro⟨⟨(kd:Int),(a:Int),(bb:Int),(nd:Int),(fr:List Int),(tt:Int)⟩,(rg:Int),(tb:Int),_⟩ hc hL
  simp only[K_isInstr,go_sem] at hL
  simp only[K_isInstr,St.init,St.initG,Try.ntmps57,go_sem] 
  obtain⟨hr1,hr2⟩:=inR_iff.1 (show inR rg (-1000) 1000=true from hc)
  have hw:IntKind.i64.wrap (rg - 1)=rg - 1:=wrapI (by omega)
  have hri:inR rg (-9223372036854775807) 9223372036854775807=true:=inR_t (by omega) (by omega)
  refine oS fun _ hK1=>?_
  refine oW T_asNode_ok ?_
  simp only[go_sem]
  refine hK1 _ ?_
  refine oS fun _ hK2=>?_
  refine oS fun _ hK3=>?_
  refine oW T_asNode_ok ?_
  simp (maxSteps:=2000000)only[hw,go_sem]
  repeat' (with_reducible first|refine oA ?_|refine And.intro (by first|exact hri) ?_|refine oT (fun g1=>?_) (fun g1=>?_)|refine oE (fun g1=>?_) (fun g1=>?_))
  all_goals
   refine hK3 _ ?_
   refine AWP_cond rfl ?_ ?_
   ·
    intro c0
    try simp only[zA,zB,zC,zD,zE,zF,zG,zH,zI] at c0
    all_goals
     refine oS fun _ hK4=>?_
     refine oW T_asNode_ok ?_
     simp only[go_sem]
     refine hK4 _ ?_
     refine AWP_ret ?_
     simp only[hres,go_sem]
     first
      | exact oF
      | refine ⟨?_, oF⟩
        rw[insB_v]
        clear hK1 hK2 hK3 hK4
        first|(simp_all [nodeX];done)|(simp_all [nodeX,-Int.not_le];done)
   ·
    intro c0
    try simp only[zA,zB,zC,zD,zE,zF,zG,zH,zI] at c0
    all_goals
     refine AWP_skip ?_
     simp only[go_sem]
     refine hK2 _ ?_
     refine oS fun _ hK5=>?_
     refine oS fun _ hK6=>?_
     refine oW T_asNode_ok ?_
     simp only[go_sem]
     repeat(with_reducible refine oA ?_)
     refine hK6 _ ?_
     refine AWP_block ?_
     refine oS fun _ hK7=>?_
     refine oW T_asNode_ok ?_
     simp only[go_sem]
     refine hK7 _ ?_
     refine AWP_cond rfl ?_ ?_
     ·
      intro c1
      try simp only[zA,zB,zC,zD,zE,zF,zG,zH,zI] at c1
      all_goals
       refine oS fun _ hK8=>?_
       refine oW T_asNode_ok ?_
       simp (maxSteps:=2000000)only[go_sem]
       repeat' (with_reducible first|refine oA ?_|refine oT (fun g5=>?_) (fun g5=>?_)|refine oE (fun g5=>?_) (fun g5=>?_))
       all_goals
        refine hK8 _ ?_
        refine AWP_ret ?_
        simp only[hres,go_sem]
        first
         | exact oF
         | refine ⟨?_, oF⟩
           rw[insB_v]
           clear hK1 hK2 hK3 hK5 hK6 hK7 hK8
           first|(simp_all [nodeX];done)|(simp_all [nodeX,-Int.not_le];done)
     ·
      intro c1
      try simp only[zA,zB,zC,zD,zE,zF,zG,zH,zI] at c1
      all_goals
       refine oS fun _ hK9=>?_
       refine oW T_asNode_ok ?_
       simp only[go_sem]
       refine hK9 _ ?_
       refine AWP_cond rfl ?_ ?_
       ·
        intro c2
        try simp only[zA,zB,zC,zD,zE,zF,zG,zH,zI] at c2
        all_goals
         refine oS fun _ hK10=>?_
         refine oW T_asNode_ok ?_
         simp (maxSteps:=2000000)only[go_sem]
         repeat' (with_reducible first|refine oA ?_|refine oT (fun g7=>?_) (fun g7=>?_)|refine oE (fun g7=>?_) (fun g7=>?_))
         all_goals
          refine hK10 _ ?_
          refine AWP_ret ?_
          simp only[hres,go_sem]
          first
           | exact oF
           | refine ⟨?_, oF⟩
             rw[insB_v]
             clear hK1 hK2 hK3 hK5 hK6 hK7 hK9 hK10
             first|(simp_all [nodeX];done)|(simp_all [nodeX,-Int.not_le];done)
       ·
        intro c2
        try simp only[zA,zB,zC,zD,zE,zF,zG,zH,zI] at c2
        all_goals
         refine AWP_skip ?_
         simp only[go_sem]
         refine hK5 _ ?_
         refine oS fun _ hK11=>?_
         refine oW T_asNode_ok ?_
         simp (maxSteps:=2000000)only[go_sem]
         repeat(with_reducible refine oA ?_)
         refine hK11 _ ?_
         refine AWP_ret ?_
         simp only[hres,go_sem]
         first
          | exact oF
          | refine ⟨?_, oF⟩
            rw[insB_v]
            clear hK1 hK2 hK3 hK5 hK6 hK7 hK9 hK11
            first|(simp_all [nodeX];done)|(simp_all [nodeX,-Int.not_le];done)
def T_isInstr:Tab:=fun f=>if f=57 then some (.p K_isInstr) else T_asNode f
theorem T_isInstr_ok:TabOk Try.prog T_isInstr:=tabP isInstr_ok (fnOk_of Try.func57 rfl (by decide)) T_asNode_ok
attribute [go_sem] T_isInstr K_isInstr
def K_wrtF:Con:=⟨[.val ((.prod (.int .i64) (.prod (.int .i64) (.prod (.row 24 (.row 2 (.int .i64))) (.prod (.row 49 (.prod (.int .i64) (.prod (.int .i64) (.prod (.int .i64) (.prod (.int .i64) (.prod (.row 2 (.int .i64)) (.int .i64))))))) (.row 2 (.int .i64)))))))],[⟨.bool,true⟩],fun x=>wOk x.1,fun x=>wrtB x.1.2.2.2.1 x.1.2.2.2.2⟩
theorem wrtF_ok:PureT Try.prog 59 K_wrtF:=by
  refine pure_of_body Try.func59 rfl ?_
  have hres:Try.f59.results.toList=[.tmp 2]:=rfl
  rintro⟨⟨(gi:Int),(gr:Int),(ts:List (List Int)),(xs:List InstrD),(os:List Int)⟩,_⟩ hc hL
  simp only[K_wrtF,go_sem] at hL
  simp only[K_wrtF,St.init,St.initG,Try.ntmps59,go_sem] 
  obtain⟨⟨hr0,hr24⟩,hxl,hxw,hos⟩:=(show wOk (gi,gr,ts,xs,os) from hc)
  simp only at hr0 hr24 hxl hxw hos
  have hx0:x0=((0,0,0,0,[],0):InstrD):=rfl
  have hrn:(gr.toNat:Int)=gr:=Int.toNat_of_nonneg hr0
  have hnl:=mkW_nil gr
  refine oS fun _ hK1=>?_
  refine oW T_isInstr_ok ?_
  simp only[go_sem]
  refine hK1 _ ?_
  refine oS fun _ hK2=>?_
  refine oW T_isInstr_ok ?_
  simp only[List.nodup_cons,List.nodup_nil,List.not_mem_nil,not_false_eq_true,hrn,go_sem]
  repeat(with_reducible refine oA ?_)
  refine hK2 _ ?_
  refine oS fun _ hK3=>?_
  refine oS fun _ hK4=>?_
  refine oW T_isInstr_ok ?_
  simp only[go_sem]
  repeat(with_reducible refine oA ?_)
  refine hK4 _ ?_
  refine AWP_block ?_
  refine AWP_loop_k (ι:={ p:Nat × List Int // WrtI xs p }) (fun k=>⟨[zz,.c (.po 116 0),zz,.c (.ow 9001),zz,zz,zz,zz,zz,zz,zz,zz,zz,zz,.c (.rd [] 49 ((.prod (.int .i64) (.prod (.int .i64) (.prod (.int .i64) (.prod (.int .i64) (.prod (.row 2 (.int .i64)) (.int .i64))))))) (xs)),.c (.sc (.int .i64 (xs.length))),.c (.sc (.int .i64 (k.1.1))),zz,zz,zz,zz,zz,zz,zz,zz,zz,zz,zz,zz,zz,zz,zz,zz,zz,zz,zz,zz,zz,zz,zz,zz,zz,zz,zz,zz,zz,zz,zz,zz,zz,zz,zz,zz,zz],[(116,.box [.sc (.int .i64 (gi)),.sc (.int .i64 (gr)),.rd [] 24 ((.row 2 (.int .i64))) ts,.rd [] 49 ((.prod (.int .i64) (.prod (.int .i64) (.prod (.int .i64) (.prod (.int .i64) (.prod (.row 2 (.int .i64)) (.int .i64))))))) xs,.rd [] 2 (.int .i64) (os)]),(9001,.row 4 (.bool) (mkW gr k.1.2) [])]⟩) (fun k=>xs.length - k.1.1) ⟨(0,[]),WrtI.start _⟩ ?_ ?_
  ·
   refine oK ?_
   simp (maxSteps:=2000000)only[go_sem]
   all_goals((repeat' refine And.intro ?_ ?_)<;>first|rfl|exact hnl|(congr 1;done)|(rw[hnl];done)|(simp;done))
  rintro⟨⟨k,s⟩,hp⟩ K5 hL5
  have hkl:k≤xs.length:=hp.1
  have hml:=mkW_len gr s
  have hxk:k < xs.length→_:=fun h=>hxw (xs.getD k ((0,0,0,0,[],0):InstrD)) (getD_mem h)
  refine oS fun _ hK6=>?_
  refine oW T_isInstr_ok ?_
  simp only[go_sem]
  refine hK6 _ ?_
  refine oS fun _ hK7=>?_
  refine oC rfl ?_ ?_
  ·
   intro c0
   have hwb:(xs.getD k ((0,0,0,0,[],0):InstrD)).2.2.2.2.1.length≤9223372036854775807:=hL.2.1.2 _ (getD_mem (by omega))
   obtain⟨hxi,hxt⟩:=(show idxs gr (xs.getD k ((0,0,0,0,[],0):InstrD)).2.2.2.2.1=true∧(¬(xs.getD k ((0,0,0,0,[],0):InstrD)).1=18→0≤(xs.getD k ((0,0,0,0,[],0):InstrD)).2.2.2.2.2∧(xs.getD k ((0,0,0,0,[],0):InstrD)).2.2.2.2.2 < gr) from hxk (by omega))
   refine AWP_skip ?_
   simp only[go_sem]
   refine hK7 _ ?_
   refine oS fun _ hK8=>?_
   refine AWP_block ?_
   refine oS fun _ hK9=>?_
   refine oW T_isInstr_ok ?_
   simp only[go_sem]
   repeat(with_reducible refine oA ?_)
   refine hK9 _ ?_
   refine oS fun _ hK10=>?_
   refine oS fun _ hK11=>?_
   refine oW T_isInstr_ok ?_
   simp only[go_sem]
   repeat(with_reducible refine oA ?_)
   refine hK11 _ ?_
   refine AWP_block ?_
   refine AWP_loop_k (ι:={ m:Nat // m≤(xs.getD k ((0,0,0,0,[],0):InstrD)).2.2.2.2.1.length∧((xs.getD k ((0,0,0,0,[],0):InstrD)).2.2.2.2.1.take m).all (fun f=>List.contains s f)=true }) (fun k'=>⟨[zz,.c (.po 116 0),zz,.c (.ow 9001),zz,.c (.po 180 0),zz,zz,zz,zz,zz,zz,zz,zz,.c (.rd [] 49 ((.prod (.int .i64) (.prod (.int .i64) (.prod (.int .i64) (.prod (.int .i64) (.prod (.row 2 (.int .i64)) (.int .i64))))))) (xs)),.c (.sc (.int .i64 (xs.length))),.c (.sc (.int .i64 (k))),zz,zz,zz,zz,.c (.rd [] 2 (.int .i64) ((xs.getD k ((0,0,0,0,[],0):InstrD)).2.2.2.2.1)),.c (.sc (.int .i64 ((xs.getD k ((0,0,0,0,[],0):InstrD)).2.2.2.2.1.length))),.c (.sc (.int .i64 (k'.1))),zz,zz,zz,zz,zz,zz,zz,zz,zz,zz,zz,zz,zz,zz,zz,zz,zz,zz,zz,zz,zz,zz,zz,zz,zz,zz,zz,zz,zz,zz],[(116,.box [.sc (.int .i64 (gi)),.sc (.int .i64 (gr)),.rd [] 24 ((.row 2 (.int .i64))) ts,.rd [] 49 ((.prod (.int .i64) (.prod (.int .i64) (.prod (.int .i64) (.prod (.int .i64) (.prod (.row 2 (.int .i64)) (.int .i64))))))) xs,.rd [] 2 (.int .i64) (os)]),(9001,.row 4 (.bool) (mkW gr s) []),(180,.box [.sc (.int .i64 ((xs.getD k ((0,0,0,0,[],0):InstrD)).1)),.sc (.int .i64 ((xs.getD k ((0,0,0,0,[],0):InstrD)).2.1)),.sc (.int .i64 ((xs.getD k ((0,0,0,0,[],0):InstrD)).2.2.1)),.sc (.int .i64 ((xs.getD k ((0,0,0,0,[],0):InstrD)).2.2.2.1)),.rd [] 2 (.int .i64) ((xs.getD k ((0,0,0,0,[],0):InstrD)).2.2.2.2.1),.sc (.int .i64 ((xs.getD k ((0,0,0,0,[],0):InstrD)).2.2.2.2.2))])]⟩) (fun k'=>(xs.getD k ((0,0,0,0,[],0):InstrD)).2.2.2.2.1.length - k'.1) ⟨0,by simp,by simp⟩ ?_ ?_
   ·
    refine oK ?_
    simp (maxSteps:=2000000)only[go_sem]
    all_goals((repeat' refine And.intro ?_ ?_)<;>first|rfl|(congr 1;done)|(simp;done))
   rintro⟨m,hm,hq⟩ K12 hL12
   refine oS fun _ hK13=>?_
   refine oW T_isInstr_ok ?_
   simp only[go_sem]
   refine hK13 _ ?_
   refine oS fun _ hK14=>?_
   refine oC rfl ?_ ?_
   ·
    intro c1
    have hfm:=idxs_at hxi (getD_mem (d:=0) (i:=m) (by omega))
    have hb2:0≤((xs.getD k ((0,0,0,0,[],0):InstrD)).2.2.2.2.1.getD m 0)∧((xs.getD k ((0,0,0,0,[],0):InstrD)).2.2.2.2.1.getD m 0) < (gr.toNat:Int):=⟨by omega,by omega⟩
    have hb3:((xs.getD k ((0,0,0,0,[],0):InstrD)).2.2.2.2.1.getD m 0).toNat < gr.toNat:=by omega
    have hmt:=mkW_at (s:=s) (n:=gr) hfm.1 (by omega)
    refine AWP_skip ?_
    simp only[go_sem]
    refine hK14 _ ?_
    refine oS fun _ hK15=>?_
    refine AWP_block ?_
    refine oS fun _ hK16=>?_
    refine oW T_isInstr_ok ?_
    simp only[go_sem]
    repeat(with_reducible refine oA ?_)
    refine hK16 _ ?_
    refine oS fun _ hK17=>?_
    refine oW T_isInstr_ok ?_
    simp (maxSteps:=2000000)only[hml,hmt,go_sem]
    repeat(with_reducible first|refine oA ?_|refine And.intro (by first|exact hb2|exact hb3|omega) ?_)
    refine hK17 _ ?_
    refine oC rfl ?_ ?_
    ·
     intro c2
     have hcn:List.contains s ((xs.getD k ((0,0,0,0,[],0):InstrD)).2.2.2.2.1.getD m 0)=false:=by first|assumption|(rw[←hmt];assumption)|(clear hK1 hK2 hK3 hK4 hL5 hK6 hK7 hK8 hK9 hK10 hK11 hL12 hK13 hK14 hK15 hK16 hK17;simp_all;done)
     refine oS fun _ hK18=>?_
     refine oW T_isInstr_ok ?_
     simp only[go_sem]
     refine hK18 _ ?_
     refine AWP_ret ?_
     simp only[hres,go_sem]
     first
      | exact oF
      | refine ⟨?_, oF⟩
        have hn:((xs.getD k ((0,0,0,0,[],0):InstrD)).2.2.2.2.1).all (fun f=>List.contains s f)=false:=all_stop (k:=m) (d:=0) (by omega) hcn
        exact(hp.no (by omega) hn).symm
    intro c2
    have hcn:List.contains s ((xs.getD k ((0,0,0,0,[],0):InstrD)).2.2.2.2.1.getD m 0)=true:=by first|assumption|(rw[←hmt];assumption)|(clear hK1 hK2 hK3 hK4 hL5 hK6 hK7 hK8 hK9 hK10 hK11 hL12 hK13 hK14 hK15 hK16 hK17;simp_all;done)
    refine AWP_skip ?_
    simp only[go_sem]
    refine hK15 _ ?_
    refine oW T_isInstr_ok ?_
    simp only[go_sem]
    refine hL12 ⟨m+1,by omega,all_next (d:=0) (by omega) hq hcn⟩ _ (oK ?_) ?_
    ·
     simp (maxSteps:=2000000)only[go_sem]
     all_goals((repeat' refine And.intro ?_ ?_)<;>first|rfl|exact wk (by omega)|(congr 1;done))
    ·
     first|(simp only[];omega)|omega|(simp;omega)
   intro c1
   have hall:((xs.getD k ((0,0,0,0,[],0):InstrD)).2.2.2.2.1).all (fun f=>List.contains s f)=true:=all_done hq (by omega)
   refine AWP_exit ?_
   simp only[go_sem]
   refine hK10 _ ?_
   refine oS fun _ hK19=>?_
   refine oW T_isInstr_ok ?_
   simp only[go_sem]
   repeat(with_reducible refine oA ?_)
   refine hK19 _ ?_
   refine oC rfl ?_ ?_
   ·
    intro c3
    have h18:¬(xs.getD k ((0,0,0,0,[],0):InstrD)).1=18:=by first|assumption|omega
    have hto:=hxt h18
    have hb4:0≤(xs.getD k ((0,0,0,0,[],0):InstrD)).2.2.2.2.2∧(xs.getD k ((0,0,0,0,[],0):InstrD)).2.2.2.2.2 < (gr.toNat:Int):=⟨by omega,by omega⟩
    have hb5:((xs.getD k ((0,0,0,0,[],0):InstrD)).2.2.2.2.2).toNat < gr.toNat:=by omega
    have hms:=mkW_set (s:=s) hto.1 hto.2
    refine oW T_isInstr_ok ?_
    simp (maxSteps:=2000000)only[hml,go_sem]
    repeat(with_reducible first|refine oA ?_|refine And.intro (by first|exact hb4|exact hb5|omega) ?_)
    refine hK8 _ ?_
    refine oW T_isInstr_ok ?_
    simp only[go_sem]
    first|(refine hL5 ⟨(k+1,s++[(xs.getD k ((0,0,0,0,[],0):InstrD)).2.2.2.2.2]),hp.node (by omega) hall h18⟩ _ (oK ?_) ?_)|(refine hL5 ⟨(k+1,s),hp.store (by omega) hall h18⟩ _ (oK ?_) ?_)
    ·
     simp (maxSteps:=2000000)only[go_sem]
     all_goals((repeat' refine And.intro ?_ ?_)<;>first|rfl|exact wk (by omega)|(rw[←hms];done)|(congr 1;done)|(congr 1;exact hms)|exact hms)
    ·
     first|(simp only[];omega)|omega|(simp;omega)
   intro c3
   have h18:(xs.getD k ((0,0,0,0,[],0):InstrD)).1=18:=by first|assumption|omega
   refine AWP_skip ?_
   simp only[go_sem]
   refine hK8 _ ?_
   refine oW T_isInstr_ok ?_
   simp only[go_sem]
   first|(refine hL5 ⟨(k+1,s++[(xs.getD k ((0,0,0,0,[],0):InstrD)).2.2.2.2.2]),hp.node (by omega) hall h18⟩ _ (oK ?_) ?_)|(refine hL5 ⟨(k+1,s),hp.store (by omega) hall h18⟩ _ (oK ?_) ?_)
   ·
    simp (maxSteps:=2000000)only[go_sem]
    all_goals((repeat' refine And.intro ?_ ?_)<;>first|rfl|exact wk (by omega)|(rw[←hms];done)|(congr 1;done)|(congr 1;exact hms)|exact hms)
   ·
    first|(simp only[];omega)|omega|(simp;omega)
  intro c0
  refine AWP_exit ?_
  simp only[go_sem]
  refine hK3 _ ?_
  refine oS fun _ hK20=>?_
  refine oS fun _ hK21=>?_
  refine oW T_isInstr_ok ?_
  simp only[go_sem]
  repeat(with_reducible refine oA ?_)
  refine hK21 _ ?_
  refine AWP_block ?_
  refine AWP_loop_k (ι:={ j:Nat // j≤os.length∧(os.take j).all (fun f=>List.contains s f)=true }) (fun k=>⟨[zz,zz,zz,.c (.ow 9001),zz,zz,zz,zz,zz,zz,zz,zz,zz,zz,zz,zz,zz,zz,zz,zz,zz,zz,zz,zz,zz,zz,zz,zz,zz,zz,zz,zz,zz,zz,zz,zz,zz,zz,zz,zz,zz,zz,.c (.rd [] 2 (.int .i64) (os)),.c (.sc (.int .i64 (os.length))),.c (.sc (.int .i64 (k.1))),zz,zz,zz,zz,zz,zz,zz,zz,zz],[(9001,.row 4 (.bool) (mkW gr s) [])]⟩) (fun k=>os.length - k.1) ⟨0,by simp,by simp⟩ ?_ ?_
  ·
   refine oK ?_
   simp (maxSteps:=2000000)only[go_sem]
   all_goals((repeat' refine And.intro ?_ ?_)<;>first|rfl|(congr 1;done)|(simp;done))
  rintro⟨j,hj,hq⟩ K22 hL22
  refine oS fun _ hK23=>?_
  refine oW T_isInstr_ok ?_
  simp only[go_sem]
  refine hK23 _ ?_
  refine oS fun _ hK24=>?_
  refine oC rfl ?_ ?_
  ·
   intro c4
   have hfo:=idxs_at hos (getD_mem (d:=0) (i:=j) (by omega))
   have hb6:0≤os.getD j 0∧os.getD j 0 < (gr.toNat:Int):=⟨by omega,by omega⟩
   have hb7:(os.getD j 0).toNat < gr.toNat:=by omega
   have hot:=mkW_at (s:=s) (n:=gr) hfo.1 (by omega)
   refine AWP_skip ?_
   simp only[go_sem]
   refine hK24 _ ?_
   refine oS fun _ hK25=>?_
   refine AWP_block ?_
   refine oS fun _ hK26=>?_
   refine oW T_isInstr_ok ?_
   simp only[go_sem]
   repeat(with_reducible refine oA ?_)
   refine hK26 _ ?_
   refine oS fun _ hK27=>?_
   refine oW T_isInstr_ok ?_
   simp (maxSteps:=2000000)only[hml,hot,go_sem]
   repeat(with_reducible first|refine oA ?_|refine And.intro (by first|exact hb6|exact hb7|omega) ?_)
   refine hK27 _ ?_
   refine oC rfl ?_ ?_
   ·
    intro c5
    have hcn:List.contains s (os.getD j 0)=false:=by first|assumption|(rw[←hot];assumption)|(clear hK1 hK2 hK3 hK4 hL5 hK6 hK7 hK20 hK21 hL22 hK23 hK24 hK25 hK26 hK27;simp_all;done)
    refine oS fun _ hK28=>?_
    refine oW T_isInstr_ok ?_
    simp only[go_sem]
    refine hK28 _ ?_
    refine AWP_ret ?_
    simp only[hres,go_sem]
    first|exact oF|(refine⟨?_,oF⟩;rw[hp.fin (by omega),all_stop (k:=j) (d:=0) (by omega) hcn])
   intro c5
   have hcn:List.contains s (os.getD j 0)=true:=by first|assumption|(rw[←hot];assumption)|(clear hK1 hK2 hK3 hK4 hL5 hK6 hK7 hK20 hK21 hL22 hK23 hK24 hK25 hK26 hK27;simp_all;done)
   refine AWP_skip ?_
   simp only[go_sem]
   refine hK25 _ ?_
   refine oW T_isInstr_ok ?_
   simp only[go_sem]
   refine hL22 ⟨j+1,by omega,all_next (d:=0) (by omega) hq hcn⟩ _ (oK ?_) ?_
   ·
    simp (maxSteps:=2000000)only[go_sem]
    all_goals((repeat' refine And.intro ?_ ?_)<;>first|rfl|exact wk (by omega)|(congr 1;done))
   ·
    first|(simp only[];omega)|omega|(simp;omega)
  intro c4
  refine AWP_exit ?_
  simp only[go_sem]
  refine hK20 _ ?_
  refine oS fun _ hK29=>?_
  refine oW T_isInstr_ok ?_
  simp only[go_sem]
  refine hK29 _ ?_
  refine AWP_ret ?_
  simp only[hres,go_sem]
  first|exact oF|(refine⟨?_,oF⟩;rw[hp.fin (by omega),all_done hq (by omega)])
def T_wrtF:Tab:=fun f=>if f=59 then some (.p K_wrtF) else T_isInstr f
theorem T_wrtF_ok:TabOk Try.prog T_wrtF:=tabP wrtF_ok (fnOk_of Try.func59 rfl (by decide)) T_isInstr_ok
attribute [go_sem] T_wrtF K_wrtF
def K_isProg:Con:=⟨[.val ((.prod (.int .i64) (.prod (.int .i64) (.prod (.row 24 (.row 2 (.int .i64))) (.prod (.row 49 (.prod (.int .i64) (.prod (.int .i64) (.prod (.int .i64) (.prod (.int .i64) (.prod (.row 2 (.int .i64)) (.int .i64))))))) (.row 2 (.int .i64)))))))],[⟨.bool,true⟩],fun _=>True,fun x=>progB x.1⟩
theorem isProg_ok:PureT Try.prog 25 K_isProg:=by
  refine pure_of_body Try.func25 rfl ?_
  have hres:Try.f25.results.toList=[.tmp 2]:=rfl
  rintro⟨⟨(gi:Int),(gr:Int),(ts:List (List Int)),(xs:List InstrD),(os:List Int)⟩,_⟩ hc hL
  simp only[K_isProg,go_sem] at hL
  simp only[K_isProg,St.init,St.initG,Try.ntmps25,go_sem] 
  refine oS fun _ hK1=>?_
  refine oW T_wrtF_ok ?_
  simp only[go_sem]
  repeat(with_reducible first|refine oA ?_|refine And.intro (by first|exact inR_wide (by assumption)|exact hgr|exact hsm|exact hwo) ?_)
  refine hK1 _ ?_
  refine oS fun _ hK2=>?_
  refine oS fun _ hK3=>?_
  refine oW T_wrtF_ok ?_
  simp (maxSteps:=2000000)only[go_sem]
  repeat' (with_reducible first|refine oA ?_|refine And.intro (by first|exact inR_wide (by assumption)|exact hgr|exact hsm|exact hwo) ?_|refine oT (fun g1=>?_) (fun g1=>?_)|refine oE (fun g1=>?_) (fun g1=>?_))
  all_goals
   refine hK3 _ ?_
   refine AWP_cond rfl ?_ ?_
   ·
    intro c0
    try simp only[zA,zB,zC,zD,zE,zF,zG,zH,zI] at c0
    all_goals
     refine oS fun _ hK4=>?_
     refine oW T_wrtF_ok ?_
     simp only[go_sem]
     repeat(with_reducible first|refine oA ?_|refine And.intro (by first|exact inR_wide (by assumption)|exact hgr|exact hsm|exact hwo) ?_)
     refine hK4 _ ?_
     refine AWP_ret ?_
     simp only[hres,go_sem]
     first
      | exact oF
      | refine ⟨?_, oF⟩
        have hA:progA (gi,gr,ts,xs,os)=false:=by
          cases hh:progA (gi,gr,ts,xs,os) with
          | false=>rfl
          | true =>
            exfalso
            obtain⟨p1,p2,p3,p4,p5,p6⟩:=progA_parts hh
            have p7:=inR_t p1.1 p1.2
            have p8:=inR_t p2.1 p2.2
            simp only at p1 p2 p3 p4 p5 p6 p7 p8
            clear hK1 hK2 hK3 hK4
            first|omega|(simp_all;done)
        rw[progA_eq,hA];rfl
   ·
    intro c0
    try simp only[zA,zB,zC,zD,zE,zF,zG,zH,zI] at c0
    all_goals
     have hA:progA (gi,gr,ts,xs,os)=true:=by
       have e1:xs.length≤48:=by omega
       have e2:os.length≤4:=by omega
       clear hK1 hK2 hK3
       unfold progA
       simp only[decide_eq_true e1,decide_eq_true e2]
       simp_all
     obtain⟨p1,p2,p3,p4,p5,p6⟩:=progA_parts hA
     simp only at p1 p2 p3 p4 p5 p6
     have hgr:inR gr (-1000) 1000=true:=inR_t (by omega) (by omega)
     refine AWP_skip ?_
     simp only[go_sem]
     refine hK2 _ ?_
     refine oS fun _ hK5=>?_
     refine oS fun _ hK6=>?_
     refine oW T_wrtF_ok ?_
     simp only[go_sem]
     repeat(with_reducible first|refine oA ?_|refine And.intro (by first|exact inR_wide (by assumption)|exact hgr|exact hsm|exact hwo) ?_)
     refine hK6 _ ?_
     refine AWP_block ?_
     refine AWP_loop_k (ι:={ k:Nat // k≤xs.length∧(xs.take k).all (insG (gi,gr,ts,xs,os))=true }) (fun k=>⟨[zz,.c (.po 116 0),zz,zz,zz,zz,zz,zz,zz,zz,zz,zz,zz,zz,zz,zz,zz,zz,zz,zz,zz,zz,zz,zz,zz,zz,zz,zz,zz,zz,zz,zz,zz,zz,zz,zz,zz,zz,zz,zz,zz,zz,.c (.rd [] 49 ((.prod (.int .i64) (.prod (.int .i64) (.prod (.int .i64) (.prod (.int .i64) (.prod (.row 2 (.int .i64)) (.int .i64))))))) (xs)),.c (.sc (.int .i64 (xs.length))),.c (.sc (.int .i64 (k.1))),zz,zz,zz,zz,zz,zz,zz,zz,zz,zz,zz,zz,zz,zz,zz,zz,zz,zz,zz,zz,zz,zz,zz,zz,zz,zz,zz,zz,zz,zz],[(116,.box [.sc (.int .i64 (gi)),.sc (.int .i64 (gr)),.rd [] 24 ((.row 2 (.int .i64))) ts,.rd [] 49 ((.prod (.int .i64) (.prod (.int .i64) (.prod (.int .i64) (.prod (.int .i64) (.prod (.row 2 (.int .i64)) (.int .i64))))))) xs,.rd [] 2 (.int .i64) (os)])]⟩) (fun k=>xs.length - k.1) ⟨0,by simp⟩ ?_ ?_
     ·
      refine oK ?_
      simp (maxSteps:=2000000)only[go_sem]
      all_goals(first|rfl|((repeat' refine And.intro ?_ ?_)<;>first|rfl|simp))
     rintro⟨k,hk,hp⟩ K7 hL7
     refine oS fun _ hK8=>?_
     refine oW T_wrtF_ok ?_
     simp only[go_sem]
     repeat(with_reducible first|refine oA ?_|refine And.intro (by first|exact inR_wide (by assumption)|exact hgr|exact hsm|exact hwo) ?_)
     refine hK8 _ ?_
     refine oS fun _ hK9=>?_
     refine AWP_cond rfl ?_ ?_
     ·
      intro c1
      try simp only[zA,zB,zC,zD,zE,zF,zG,zH,zI] at c1
      all_goals
       refine AWP_skip ?_
       simp only[go_sem]
       refine hK9 _ ?_
       refine oS fun _ hK10=>?_
       refine AWP_block ?_
       refine oS fun _ hK11=>?_
       refine oW T_wrtF_ok ?_
       simp only[go_sem]
       repeat(with_reducible first|refine oA ?_|refine And.intro (by first|exact inR_wide (by assumption)|exact hgr|exact hsm|exact hwo) ?_)
       refine hK11 _ ?_
       refine oS fun _ hK12=>?_
       refine oR T_wrtF_ok
         [[],[],[1],[],[3],[3,4],[0,1,2,3,4,5],[0,1,2,3,4,5,6],[0,1,2,3,4,5,6,7],[0,1,2,3,4,5,6,7,8],[0,1,2,3,4,5,6,7,8,9],[0,1,2,3,4,5,6,7,8,9,10],[0,1,2,3,4,5,6,7,8,9,10,11],[0,1,2,3,4,5,6,7,8,9,10,11,12],[0,1,2,3,4,5,6,7,8,9,10,11,12,13],[0,1,2,3,4,5,6,7,8,9,10,11,12],[0,1,2,3,4,5,6,7,8,9,10,11,12,15],[0,1,2,3,4,5,6,7,8,9,10,11,12,13,14,15,16],[0,1,2,3,4,5,6,7,8,9,10,11,12,13,14,15,16,17],[0,1,2,3,4,5,6,7,8,9,10,11,12,13,14,15,16,17,18]]
         [[],[],[],[],[],[],[],[],[],[],[],[],[],[],[],[],[],[],[],[]]
         [[],[],[],[],[],[],[],[],[],[],[],[],[],[],[],[],[],[],[],[]] (by kernel_rfl) (by kernel_rfl) (adrawR_ok (acc:=[]) ?_)
       simp (maxSteps:=2000000)only[go_sem]
       repeat' (with_reducible first|refine oD ?_|refine And.intro (by first|exact inR_wide (by assumption)|exact hgr|exact hsm|exact hwo) ?_|refine oT (fun g6=>?_) (fun g6=>?_)|refine oE (fun g6=>?_) (fun g6=>?_))
       all_goals
        refine hK12 _ ?_
        refine AWP_cond rfl ?_ ?_
        ·
         intro c2
         try simp only[zA,zB,zC,zD,zE,zF,zG,zH,zI] at c2
         all_goals
          refine oS fun _ hK13=>?_
          refine oW T_wrtF_ok ?_
          simp only[go_sem]
          repeat(with_reducible first|refine oA ?_|refine And.intro (by first|exact inR_wide (by assumption)|exact hgr|exact hsm|exact hwo) ?_)
          refine hK13 _ ?_
          refine AWP_ret ?_
          simp only[hres,go_sem]
          first
           | exact oF
           | refine ⟨?_, oF⟩
             have hq:insG (gi,gr,ts,xs,os) (xs.getD k ((0,0,0,0,[],0):InstrD))=false:=by
               cases hh:insG (gi,gr,ts,xs,os) (xs.getD k ((0,0,0,0,[],0):InstrD)) with
               | false=>rfl
               | true =>
                 exfalso
                 obtain⟨q1,q2⟩:=insG_parts hh
                 have q1:insB gr ts.length (xs.getD k ((0,0,0,0,[],0):InstrD))=true:=q1
                 have q2:¬((xs.getD k ((0,0,0,0,[],0):InstrD)).1=1∧gi≤(xs.getD k ((0,0,0,0,[],0):InstrD)).2.1):=q2
                 first|omega|exact absurd q1 (by rw[Bool.not_eq_true];assumption)
             have hn:xs.all (insG (gi,gr,ts,xs,os))=false:=all_stop (k:=k) (d:=((0,0,0,0,[],0):InstrD)) (by omega) hq
             rw[progA_eq,hA]
             show false=(true && (xs.all (insG (gi,gr,ts,xs,os)) && _))
             rw[hn];rfl
        ·
         intro c2
         try simp only[zA,zB,zC,zD,zE,zF,zG,zH,zI] at c2
         all_goals
          have hq:insG (gi,gr,ts,xs,os) (xs.getD k ((0,0,0,0,[],0):InstrD))=true:=insG_t (by assumption) (by show ¬((xs.getD k ((0,0,0,0,[],0):InstrD)).1=1∧gi≤(xs.getD k ((0,0,0,0,[],0):InstrD)).2.1);omega)
          refine AWP_skip ?_
          simp only[go_sem]
          refine hK10 _ ?_
          refine oW T_wrtF_ok ?_
          simp only[go_sem]
          repeat(with_reducible first|refine oA ?_|refine And.intro (by first|exact inR_wide (by assumption)|exact hgr|exact hsm|exact hwo) ?_)
          refine hL7 ⟨k+1,by omega,all_next (d:=((0,0,0,0,[],0):InstrD)) (by omega) hp (by first|assumption|(clear hK1 hK2 hK3 hK5 hK6 hL7 hK8 hK9 hK10 hK11 hK12;simp_all))⟩ _ (oK ?_) ?_
          ·
           simp (maxSteps:=2000000)only[go_sem]
           first|rfl|exact wk (by omega)
          ·
           first|(simp only[];omega)|omega|(simp;omega)
     ·
      intro c1
      try simp only[zA,zB,zC,zD,zE,zF,zG,zH,zI] at c1
      all_goals
       have hcl:xs.all (insG (gi,gr,ts,xs,os))=true:=all_done hp (by omega)
       have hsm:=code_small (g:=(gi,gr,ts,xs,os)) p4 hcl
       have hwo:=code_w hA hcl
       refine AWP_exit ?_
       simp only[go_sem]
       refine hK5 _ ?_
       refine oS fun _ hK14=>?_
       refine oW T_wrtF_ok ?_
       simp (maxSteps:=2000000)only[go_sem]
       repeat' (with_reducible first|refine oA ?_|refine And.intro (by first|exact inR_wide (by assumption)|exact hgr|exact hsm|exact hwo) ?_|refine oT (fun g9=>?_) (fun g9=>?_)|refine oE (fun g9=>?_) (fun g9=>?_))
       all_goals
        refine hK14 _ ?_
        refine AWP_ret ?_
        simp only[hres,go_sem]
        first
         | exact oF
         | refine ⟨?_, oF⟩
           rw[progA_eq,hA]
           show _=(true && (xs.all (insG (gi,gr,ts,xs,os)) && _))
           rw[hcl]
           clear hK1 hK2 hK3 hK5 hK6 hL7 hK8 hK9 hK14
           simp_all
def T_isProg:Tab:=fun f=>if f=25 then some (.p K_isProg) else T_wrtF f
theorem T_isProg_ok:TabOk Try.prog T_isProg:=tabP isProg_ok (fnOk_of Try.func25 rfl (by decide)) T_wrtF_ok
attribute [go_sem] T_isProg K_isProg
end Go.Proofs.Ytenjbehedcegdaa
