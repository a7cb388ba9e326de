/-
  Texts of this claim, joined (part 28). No condition beyond those of the theorems.
-/
import Derived.Test.YtenjbehedcegdaaGreatQ26
import Derived.Test.YtenjbehedcegdaaGreatQ27
import Derived.Test.YtenjbehedcegdaaGreatQ02
import Derived.Test.YtenjbehedcegdaaGreatQ06
namespace Go.Proofs.YtenjbehedcegdaaGreat
open Go.RowKit
set_option linter.unusedSimpArgs false
set_option linter.unusedVariables false
set_option maxRecDepth 100000
set_option maxHeartbeats 8000000
def A8f:G4:=fun f=>match A3q f with
 | some k=>some k
 | none=>t4 f
theorem B2K:B5 Tryz.prog A8f:=W6 A4j D6
attribute [go_sem] A8f T0
def A9R:Con:=⟨[.val ((.prod (.int .i64) (.prod (.int .i64) (.prod (.row 26 (.row 2 (.int .i64))) (.prod (.row 64 (.prod (.int .i64) (.prod (.int .i64) (.prod (.int .i64) (.prod (.int .i64) (.prod (.row 2 (.int .i64)) (.int .i64))))))) (.row 2 (.int .i64)))))))],[⟨.bool,true⟩],fun x=>B1Y x.1.2.2.2.1,fun x=>A47 x.1.2.2.2.1⟩
theorem B6g:C8 Tryz.prog 60 A9R:=by
  refine B3M fun ⟨⟨(gi:Int),(gr:Int),(ts:List (List Int)),(xs:List A1),(os:List Int)⟩,_⟩ hc R w vs hv=>?_
  obtain⟨v1,l1,e1,⟨us,rfl,a,la,ea,ha,b,lb,eb,hb,c,lc,ec,hc',d,ld,ed,hd,f,lf,ef,hf,e5⟩,h2⟩:=hv
  have h2:l1=[]:=h2
  have e5:lf=[]:=e5
  subst h2 e5 ef ed ec eb
  have eu:=B6w ea
  subst eu;have ev:=B6w e1
  subst ev;exact(C03 w a b c d f xs hc hd).mono fun _ _ ⟨he,hk⟩=>⟨_,he,B9x _,B4l _ _,hk⟩
def A8Z:G4:=fun f=>if f=60 then some (.p A9R) else A8f f
theorem A39:B5 Tryz.prog A8Z:=F8 B6g (B0 Tryz.func60 rfl (by decide)) B2K
attribute [go_sem] A8Z A9R
def A1n:Con:=⟨[.val ((.prod (.int .i64) (.prod (.int .i64) (.prod (.int .i64) (.prod (.int .i64) (.prod (.row 2 (.int .i64)) (.int .i64)))))))],[⟨(.prod (.int .i64) (.prod (.int .i64) (.prod (.int .i64) (.row 2 (.int .i64))))),false⟩],fun _=>True,fun x=>H2 x.1⟩
theorem B4A:C8 Tryz.prog 29 A1n:=by
  refine A4 Tryz.func29 rfl ?_
  have hres:Tryz.f29.results.toList=[.cell 2 67]:=rfl
  rintro⟨⟨(kd:Int),(a:Int),(bb:Int),(nd:Int),(fr:List Int),(tt:Int)⟩,_⟩ hc hL
  simp only[A1n,go_sem] at hL
  simp only[A1n,St.init,St.initG,Tryz.ntmps29,go_sem] 
  refine oS fun _ hK1=>?_;refine oW A39 ?_;simp only[go_sem];refine hK1 _ ?_;refine oS fun _ hK2=>?_;refine oW A39 ?_;simp (maxSteps:=2000000)only[go_sem];repeat(with_reducible refine oA ?_)
  refine hK2 _ ?_;refine A0 ?_;simp only[hres,go_sem];first|exact oF|exact oFr
def A5w:G4:=fun f=>if f=29 then some (.p A1n) else A8Z f
theorem M9:B5 Tryz.prog A5w:=F8 B4A (B0 Tryz.func29 rfl (by decide)) A39
attribute [go_sem] A5w A1n
def A0W:Con:=⟨[.val ((.prod (.int .i64) (.prod (.int .i64) (.prod (.int .i64) (.prod (.int .i64) (.prod (.row 2 (.int .i64)) (.int .i64))))))),.val (.int .i64),.val (.int .i64)],[⟨.bool,true⟩],fun x=>I6 x.2.1 (-1000) 1000=true,fun x=>A12 x.2.1 x.2.2.1 x.1⟩
theorem B2H:C8 Tryz.prog 59 A0W:=by
  refine A4 Tryz.func59 rfl ?_
  have hres:Tryz.f59.results.toList=[.tmp 6]:=rfl
  rintro⟨⟨(kd:Int),(a:Int),(bb:Int),(nd:Int),(fr:List Int),(tt:Int)⟩,(rg:Int),(tb:Int),_⟩ hc hL
  simp only[A0W,go_sem] at hL
  simp only[A0W,St.init,St.initG,Tryz.ntmps59,go_sem] 
  obtain⟨hr1,hr2⟩:=B4.1 (show I6 rg (-1000) 1000=true from hc)
  have hw:IntKind.i64.wrap (rg - 1)=rg - 1:=H4 (by omega)
  have hri:I6 rg (-9223372036854775807) 9223372036854775807=true:=L8 (by omega) (by omega)
  refine oS fun _ hK1=>?_;refine oW M9 ?_;simp only[go_sem];refine hK1 _ ?_;refine oS fun _ hK2=>?_;refine oS fun _ hK3=>?_;refine oW M9 ?_;simp (maxSteps:=2000000)only[hw,go_sem];repeat' (with_reducible first|refine oA ?_|refine And.intro (by first|exact hri) ?_|refine oT (fun g1=>?_) (fun g1=>?_)|refine oE (fun g1=>?_) (fun g1=>?_))
  all_goals
   refine hK3 _ ?_;refine D5 rfl ?_ ?_
   ·
    intro c0;try simp only[zA,zB,zC,zD,zE,zF,zG,zH,zI] at c0
    all_goals
     refine oS fun _ hK4=>?_;refine oW M9 ?_;simp only[go_sem];refine hK4 _ ?_;refine A0 ?_;simp only[hres,go_sem]
     first
      | exact oF
      | refine ⟨?_, oF⟩
        rw[A05];clear hK1 hK2 hK3 hK4;first|(simp_all [H2];done)|(simp_all [H2,-Int.not_le];done)
   ·
    intro c0;try simp only[zA,zB,zC,zD,zE,zF,zG,zH,zI] at c0
    all_goals
     refine A2 ?_;simp only[go_sem];refine hK2 _ ?_;refine oS fun _ hK5=>?_;refine oS fun _ hK6=>?_;refine oW M9 ?_;simp only[go_sem];repeat(with_reducible refine oA ?_)
     refine hK6 _ ?_;refine A3 ?_;refine oS fun _ hK7=>?_;refine oW M9 ?_;simp only[go_sem];refine hK7 _ ?_;refine D5 rfl ?_ ?_
     ·
      intro c1;try simp only[zA,zB,zC,zD,zE,zF,zG,zH,zI] at c1
      all_goals
       refine oS fun _ hK8=>?_;refine oW M9 ?_;simp (maxSteps:=2000000)only[go_sem];repeat' (with_reducible first|refine oA ?_|refine oT (fun g5=>?_) (fun g5=>?_)|refine oE (fun g5=>?_) (fun g5=>?_))
       all_goals
        refine hK8 _ ?_;refine A0 ?_;simp only[hres,go_sem]
        first
         | exact oF
         | refine ⟨?_, oF⟩
           rw[A05];clear hK1 hK2 hK3 hK5 hK6 hK7 hK8;first|(simp_all [H2];done)|(simp_all [H2,-Int.not_le];done)
     ·
      intro c1;try simp only[zA,zB,zC,zD,zE,zF,zG,zH,zI] at c1
      all_goals
       refine oS fun _ hK9=>?_;refine oW M9 ?_;simp only[go_sem];refine hK9 _ ?_;refine D5 rfl ?_ ?_
       ·
        intro c2;try simp only[zA,zB,zC,zD,zE,zF,zG,zH,zI] at c2
        all_goals
         refine oS fun _ hK10=>?_;refine oW M9 ?_;simp (maxSteps:=2000000)only[go_sem];repeat' (with_reducible first|refine oA ?_|refine oT (fun g7=>?_) (fun g7=>?_)|refine oE (fun g7=>?_) (fun g7=>?_))
         all_goals
          refine hK10 _ ?_;refine A0 ?_;simp only[hres,go_sem]
          first
           | exact oF
           | refine ⟨?_, oF⟩
             rw[A05];clear hK1 hK2 hK3 hK5 hK6 hK7 hK9 hK10;first|(simp_all [H2];done)|(simp_all [H2,-Int.not_le];done)
       ·
        intro c2;try simp only[zA,zB,zC,zD,zE,zF,zG,zH,zI] at c2
        all_goals
         refine A2 ?_;simp only[go_sem];refine hK5 _ ?_;refine oS fun _ hK11=>?_;refine oW M9 ?_;simp (maxSteps:=2000000)only[go_sem];repeat(with_reducible refine oA ?_)
         refine hK11 _ ?_;refine A0 ?_;simp only[hres,go_sem]
         first
          | exact oF
          | refine ⟨?_, oF⟩
            rw[A05];clear hK1 hK2 hK3 hK5 hK6 hK7 hK9 hK11;first|(simp_all [H2];done)|(simp_all [H2,-Int.not_le];done)
def A4W:G4:=fun f=>if f=59 then some (.p A0W) else A5w f
theorem E2:B5 Tryz.prog A4W:=F8 B2H (B0 Tryz.func59 rfl (by decide)) M9
attribute [go_sem] A4W A0W
def A5o:Con:=⟨[.val ((.prod (.int .i64) (.prod (.int .i64) (.prod (.row 26 (.row 2 (.int .i64))) (.prod (.row 64 (.prod (.int .i64) (.prod (.int .i64) (.prod (.int .i64) (.prod (.int .i64) (.prod (.row 2 (.int .i64)) (.int .i64))))))) (.row 2 (.int .i64)))))))],[⟨.bool,true⟩],fun x=>wOk x.1,fun x=>A2r x.1.2.2.2.1 x.1.2.2.2.2⟩
theorem B7S:C8 Tryz.prog 61 A5o:=by
  refine A4 Tryz.func61 rfl ?_
  have hres:Tryz.f61.results.toList=[.tmp 2]:=rfl
  rintro⟨⟨(gi:Int),(gr:Int),(ts:List (List Int)),(xs:List A1),(os:List Int)⟩,_⟩ hc hL
  simp only[A5o,go_sem] at hL
  simp only[A5o,St.init,St.initG,Tryz.ntmps61,go_sem] 
  obtain⟨⟨hr0,hr24⟩,hxl,hxw,hos⟩:=(show wOk (gi,gr,ts,xs,os) from hc)
  simp only at hr0 hr24 hxl hxw hos
  have hx0:x0=((0,0,0,0,[],0):A1):=rfl
  have hrn:(gr.toNat:Int)=gr:=Int.toNat_of_nonneg hr0
  have hnl:=B7e gr
  refine oS fun _ hK1=>?_;refine oW E2 ?_;simp only[go_sem];refine hK1 _ ?_;refine oS fun _ hK2=>?_;refine oW E2 ?_;simp only[List.nodup_cons,List.nodup_nil,List.not_mem_nil,not_false_eq_true,hrn,go_sem];repeat(with_reducible refine oA ?_)
  refine hK2 _ ?_;refine oS fun _ hK3=>?_;refine oS fun _ hK4=>?_;refine oW E2 ?_;simp only[go_sem];repeat(with_reducible refine oA ?_)
  refine hK4 _ ?_;refine A3 ?_;refine A8 (ι:={ p:Nat × List Int // WrtI xs p }) (fun k=>⟨[zz,.c (.po 116 0),zz,.c (.ow 9001),zz,zz,zz,zz,zz,zz,zz,zz,zz,zz,.c (.rd [] 64 ((.prod (.int .i64) (.prod (.int .i64) (.prod (.int .i64) (.prod (.int .i64) (.prod (.row 2 (.int .i64)) (.int .i64))))))) (xs)),.c (.sc (.int .i64 (xs.length))),.c (.sc (.int .i64 (k.1.1))),zz,zz,zz,zz,zz,zz,zz,zz,zz,zz,zz,zz,zz,zz,zz,zz,zz,zz,zz,zz,zz,zz,zz,zz,zz,zz,zz,zz,zz,zz,zz,zz,zz,zz,zz,zz,zz],[(116,.box [.sc (.int .i64 (gi)),.sc (.int .i64 (gr)),.rd [] 26 ((.row 2 (.int .i64))) ts,.rd [] 64 ((.prod (.int .i64) (.prod (.int .i64) (.prod (.int .i64) (.prod (.int .i64) (.prod (.row 2 (.int .i64)) (.int .i64))))))) xs,.rd [] 2 (.int .i64) (os)]),(9001,.row 4 (.bool) (mkW gr k.1.2) [])]⟩) (fun k=>xs.length - k.1.1) ⟨(0,[]),WrtI.start _⟩ ?_ ?_
  ·
   refine oK ?_;simp (maxSteps:=2000000)only[go_sem];all_goals((repeat' refine And.intro ?_ ?_)<;>first|rfl|exact hnl|(congr 1;done)|(rw[hnl];done)|(simp;done))
  rintro⟨⟨k,s⟩,hp⟩ K5 hL5
  have hkl:k≤xs.length:=hp.1
  have hml:=B84 gr s
  have hxk:k < xs.length→_:=fun h=>hxw (xs.getD k ((0,0,0,0,[],0):A1)) (C6 h)
  refine oS fun _ hK6=>?_;refine oW E2 ?_;simp only[go_sem];refine hK6 _ ?_;refine oS fun _ hK7=>?_;refine oC rfl ?_ ?_
  ·
   intro c0;have hwb:(xs.getD k ((0,0,0,0,[],0):A1)).2.2.2.2.1.length≤9223372036854775807:=hL.2.1.2 _ (C6 (by omega))
   obtain⟨hxi,hxt⟩:=(show N2 gr (xs.getD k ((0,0,0,0,[],0):A1)).2.2.2.2.1=true∧(¬(xs.getD k ((0,0,0,0,[],0):A1)).1=18→0≤(xs.getD k ((0,0,0,0,[],0):A1)).2.2.2.2.2∧(xs.getD k ((0,0,0,0,[],0):A1)).2.2.2.2.2 < gr) from hxk (by omega))
   refine A2 ?_;simp only[go_sem];refine hK7 _ ?_;refine oS fun _ hK8=>?_;refine A3 ?_;refine oS fun _ hK9=>?_;refine oW E2 ?_;simp only[go_sem];repeat(with_reducible refine oA ?_)
   refine hK9 _ ?_;refine oS fun _ hK10=>?_;refine oS fun _ hK11=>?_;refine oW E2 ?_;simp only[go_sem];repeat(with_reducible refine oA ?_)
   refine hK11 _ ?_;refine A3 ?_;refine A8 (ι:={ m:Nat // m≤(xs.getD k ((0,0,0,0,[],0):A1)).2.2.2.2.1.length∧((xs.getD k ((0,0,0,0,[],0):A1)).2.2.2.2.1.take m).all (fun f=>List.contains s f)=true }) (fun k'=>⟨[zz,.c (.po 116 0),zz,.c (.ow 9001),zz,.c (.po 180 0),zz,zz,zz,zz,zz,zz,zz,zz,.c (.rd [] 64 ((.prod (.int .i64) (.prod (.int .i64) (.prod (.int .i64) (.prod (.int .i64) (.prod (.row 2 (.int .i64)) (.int .i64))))))) (xs)),.c (.sc (.int .i64 (xs.length))),.c (.sc (.int .i64 (k))),zz,zz,zz,zz,.c (.rd [] 2 (.int .i64) ((xs.getD k ((0,0,0,0,[],0):A1)).2.2.2.2.1)),.c (.sc (.int .i64 ((xs.getD k ((0,0,0,0,[],0):A1)).2.2.2.2.1.length))),.c (.sc (.int .i64 (k'.1))),zz,zz,zz,zz,zz,zz,zz,zz,zz,zz,zz,zz,zz,zz,zz,zz,zz,zz,zz,zz,zz,zz,zz,zz,zz,zz,zz,zz,zz,zz],[(116,.box [.sc (.int .i64 (gi)),.sc (.int .i64 (gr)),.rd [] 26 ((.row 2 (.int .i64))) ts,.rd [] 64 ((.prod (.int .i64) (.prod (.int .i64) (.prod (.int .i64) (.prod (.int .i64) (.prod (.row 2 (.int .i64)) (.int .i64))))))) xs,.rd [] 2 (.int .i64) (os)]),(9001,.row 4 (.bool) (mkW gr s) []),(180,.box [.sc (.int .i64 ((xs.getD k ((0,0,0,0,[],0):A1)).1)),.sc (.int .i64 ((xs.getD k ((0,0,0,0,[],0):A1)).2.1)),.sc (.int .i64 ((xs.getD k ((0,0,0,0,[],0):A1)).2.2.1)),.sc (.int .i64 ((xs.getD k ((0,0,0,0,[],0):A1)).2.2.2.1)),.rd [] 2 (.int .i64) ((xs.getD k ((0,0,0,0,[],0):A1)).2.2.2.2.1),.sc (.int .i64 ((xs.getD k ((0,0,0,0,[],0):A1)).2.2.2.2.2))])]⟩) (fun k'=>(xs.getD k ((0,0,0,0,[],0):A1)).2.2.2.2.1.length - k'.1) ⟨0,by simp,by simp⟩ ?_ ?_
   ·
    refine oK ?_;simp (maxSteps:=2000000)only[go_sem];all_goals((repeat' refine And.intro ?_ ?_)<;>first|rfl|(congr 1;done)|(simp;done))
   rintro⟨m,hm,hq⟩ K12 hL12
   refine oS fun _ hK13=>?_;refine oW E2 ?_;simp only[go_sem];refine hK13 _ ?_;refine oS fun _ hK14=>?_;refine oC rfl ?_ ?_
   ·
    intro c1;have hfm:=O1 hxi (C6 (d:=0) (i:=m) (by omega))
    have hb2:0≤((xs.getD k ((0,0,0,0,[],0):A1)).2.2.2.2.1.getD m 0)∧((xs.getD k ((0,0,0,0,[],0):A1)).2.2.2.2.1.getD m 0) < (gr.toNat:Int):=⟨by omega,by omega⟩
    have hb3:((xs.getD k ((0,0,0,0,[],0):A1)).2.2.2.2.1.getD m 0).toNat < gr.toNat:=by omega
    have hmt:=B6d (s:=s) (n:=gr) hfm.1 (by omega)
    refine A2 ?_;simp only[go_sem];refine hK14 _ ?_;refine oS fun _ hK15=>?_;refine A3 ?_;refine oS fun _ hK16=>?_;refine oW E2 ?_;simp only[go_sem];repeat(with_reducible refine oA ?_)
    refine hK16 _ ?_;refine oS fun _ hK17=>?_;refine oW E2 ?_;simp (maxSteps:=2000000)only[hml,hmt,go_sem];repeat(with_reducible first|refine oA ?_|refine And.intro (by first|exact hb2|exact hb3|omega) ?_)
    refine hK17 _ ?_;refine oC rfl ?_ ?_
    ·
     intro c2;have hcn:List.contains s ((xs.getD k ((0,0,0,0,[],0):A1)).2.2.2.2.1.getD m 0)=false:=by first|assumption|(rw[←hmt];assumption)|(clear hK1 hK2 hK3 hK4 hL5 hK6 hK7 hK8 hK9 hK10 hK11 hL12 hK13 hK14 hK15 hK16 hK17;simp_all;done)
     refine oS fun _ hK18=>?_;refine oW E2 ?_;simp only[go_sem];refine hK18 _ ?_;refine A0 ?_;simp only[hres,go_sem]
     first
      | exact oF
      | refine ⟨?_, oF⟩
        have hn:((xs.getD k ((0,0,0,0,[],0):A1)).2.2.2.2.1).all (fun f=>List.contains s f)=false:=M2 (k:=m) (d:=0) (by omega) hcn
        exact(hp.no (by omega) hn).symm
    intro c2;have hcn:List.contains s ((xs.getD k ((0,0,0,0,[],0):A1)).2.2.2.2.1.getD m 0)=true:=by first|assumption|(rw[←hmt];assumption)|(clear hK1 hK2 hK3 hK4 hL5 hK6 hK7 hK8 hK9 hK10 hK11 hL12 hK13 hK14 hK15 hK16 hK17;simp_all;done)
    refine A2 ?_;simp only[go_sem];refine hK15 _ ?_;refine oW E2 ?_;simp only[go_sem];refine hL12 ⟨m+1,by omega,J6 (d:=0) (by omega) hq hcn⟩ _ (oK ?_) ?_
    ·
     simp (maxSteps:=2000000)only[go_sem];all_goals((repeat' refine And.intro ?_ ?_)<;>first|rfl|exact wk (by omega)|(congr 1;done))
    ·
     first|(simp only[];omega)|omega|(simp;omega)
   intro c1;have hall:((xs.getD k ((0,0,0,0,[],0):A1)).2.2.2.2.1).all (fun f=>List.contains s f)=true:=I7 hq (by omega)
   refine B6 ?_;simp only[go_sem];refine hK10 _ ?_;refine oS fun _ hK19=>?_;refine oW E2 ?_;simp only[go_sem];repeat(with_reducible refine oA ?_)
   refine hK19 _ ?_;refine oC rfl ?_ ?_
   ·
    intro c3;have h18:¬(xs.getD k ((0,0,0,0,[],0):A1)).1=18:=by first|assumption|omega
    have hto:=hxt h18
    have hb4:0≤(xs.getD k ((0,0,0,0,[],0):A1)).2.2.2.2.2∧(xs.getD k ((0,0,0,0,[],0):A1)).2.2.2.2.2 < (gr.toNat:Int):=⟨by omega,by omega⟩
    have hb5:((xs.getD k ((0,0,0,0,[],0):A1)).2.2.2.2.2).toNat < gr.toNat:=by omega
    have hms:=B7Q (s:=s) hto.1 hto.2
    refine oW E2 ?_;simp (maxSteps:=2000000)only[hml,go_sem];repeat(with_reducible first|refine oA ?_|refine And.intro (by first|exact hb4|exact hb5|omega) ?_)
    refine hK8 _ ?_;refine oW E2 ?_;simp only[go_sem];first|(refine hL5 ⟨(k+1,s++[(xs.getD k ((0,0,0,0,[],0):A1)).2.2.2.2.2]),hp.node (by omega) hall h18⟩ _ (oK ?_) ?_)|(refine hL5 ⟨(k+1,s),hp.store (by omega) hall h18⟩ _ (oK ?_) ?_)
    ·
     simp (maxSteps:=2000000)only[go_sem];all_goals((repeat' refine And.intro ?_ ?_)<;>first|rfl|exact wk (by omega)|(rw[←hms];done)|(congr 1;done)|(congr 1;exact hms)|exact hms)
    ·
     first|(simp only[];omega)|omega|(simp;omega)
   intro c3;have h18:(xs.getD k ((0,0,0,0,[],0):A1)).1=18:=by first|assumption|omega
   refine A2 ?_;simp only[go_sem];refine hK8 _ ?_;refine oW E2 ?_;simp only[go_sem];first|(refine hL5 ⟨(k+1,s++[(xs.getD k ((0,0,0,0,[],0):A1)).2.2.2.2.2]),hp.node (by omega) hall h18⟩ _ (oK ?_) ?_)|(refine hL5 ⟨(k+1,s),hp.store (by omega) hall h18⟩ _ (oK ?_) ?_)
   ·
    simp (maxSteps:=2000000)only[go_sem];all_goals((repeat' refine And.intro ?_ ?_)<;>first|rfl|exact wk (by omega)|(rw[←hms];done)|(congr 1;done)|(congr 1;exact hms)|exact hms)
   ·
    first|(simp only[];omega)|omega|(simp;omega)
  intro c0;refine B6 ?_;simp only[go_sem];refine hK3 _ ?_;refine oS fun _ hK20=>?_;refine oS fun _ hK21=>?_;refine oW E2 ?_;simp only[go_sem];repeat(with_reducible refine oA ?_)
  refine hK21 _ ?_;refine A3 ?_;refine A8 (ι:={ j:Nat // j≤os.length∧(os.take j).all (fun f=>List.contains s f)=true }) (fun k=>⟨[zz,zz,zz,.c (.ow 9001),zz,zz,zz,zz,zz,zz,zz,zz,zz,zz,zz,zz,zz,zz,zz,zz,zz,zz,zz,zz,zz,zz,zz,zz,zz,zz,zz,zz,zz,zz,zz,zz,zz,zz,zz,zz,zz,zz,.c (.rd [] 2 (.int .i64) (os)),.c (.sc (.int .i64 (os.length))),.c (.sc (.int .i64 (k.1))),zz,zz,zz,zz,zz,zz,zz,zz,zz],[(9001,.row 4 (.bool) (mkW gr s) [])]⟩) (fun k=>os.length - k.1) ⟨0,by simp,by simp⟩ ?_ ?_
  ·
   refine oK ?_;simp (maxSteps:=2000000)only[go_sem];all_goals((repeat' refine And.intro ?_ ?_)<;>first|rfl|(congr 1;done)|(simp;done))
  rintro⟨j,hj,hq⟩ K22 hL22
  refine oS fun _ hK23=>?_;refine oW E2 ?_;simp only[go_sem];refine hK23 _ ?_;refine oS fun _ hK24=>?_;refine oC rfl ?_ ?_
  ·
   intro c4;have hfo:=O1 hos (C6 (d:=0) (i:=j) (by omega))
   have hb6:0≤os.getD j 0∧os.getD j 0 < (gr.toNat:Int):=⟨by omega,by omega⟩
   have hb7:(os.getD j 0).toNat < gr.toNat:=by omega
   have hot:=B6d (s:=s) (n:=gr) hfo.1 (by omega)
   refine A2 ?_;simp only[go_sem];refine hK24 _ ?_;refine oS fun _ hK25=>?_;refine A3 ?_;refine oS fun _ hK26=>?_;refine oW E2 ?_;simp only[go_sem];repeat(with_reducible refine oA ?_)
   refine hK26 _ ?_;refine oS fun _ hK27=>?_;refine oW E2 ?_;simp (maxSteps:=2000000)only[hml,hot,go_sem];repeat(with_reducible first|refine oA ?_|refine And.intro (by first|exact hb6|exact hb7|omega) ?_)
   refine hK27 _ ?_;refine oC rfl ?_ ?_
   ·
    intro c5;have hcn:List.contains s (os.getD j 0)=false:=by first|assumption|(rw[←hot];assumption)|(clear hK1 hK2 hK3 hK4 hL5 hK6 hK7 hK20 hK21 hL22 hK23 hK24 hK25 hK26 hK27;simp_all;done)
    refine oS fun _ hK28=>?_;refine oW E2 ?_;simp only[go_sem];refine hK28 _ ?_;refine A0 ?_;simp only[hres,go_sem];first|exact oF|(refine⟨?_,oF⟩;rw[hp.fin (by omega),M2 (k:=j) (d:=0) (by omega) hcn])
   intro c5;have hcn:List.contains s (os.getD j 0)=true:=by first|assumption|(rw[←hot];assumption)|(clear hK1 hK2 hK3 hK4 hL5 hK6 hK7 hK20 hK21 hL22 hK23 hK24 hK25 hK26 hK27;simp_all;done)
   refine A2 ?_;simp only[go_sem];refine hK25 _ ?_;refine oW E2 ?_;simp only[go_sem];refine hL22 ⟨j+1,by omega,J6 (d:=0) (by omega) hq hcn⟩ _ (oK ?_) ?_
   ·
    simp (maxSteps:=2000000)only[go_sem];all_goals((repeat' refine And.intro ?_ ?_)<;>first|rfl|exact wk (by omega)|(congr 1;done))
   ·
    first|(simp only[];omega)|omega|(simp;omega)
  intro c4;refine B6 ?_;simp only[go_sem];refine hK20 _ ?_;refine oS fun _ hK29=>?_;refine oW E2 ?_;simp only[go_sem];refine hK29 _ ?_;refine A0 ?_;simp only[hres,go_sem];first|exact oF|(refine⟨?_,oF⟩;rw[hp.fin (by omega),I7 hq (by omega)])
def B1E:G4:=fun f=>if f=61 then some (.p A5o) else A4W f
theorem P6:B5 Tryz.prog B1E:=F8 B7S (B0 Tryz.func61 rfl (by decide)) E2
attribute [go_sem] B1E A5o
def A23:Con:=⟨[.val ((.prod (.int .i64) (.prod (.int .i64) (.prod (.row 26 (.row 2 (.int .i64))) (.prod (.row 64 (.prod (.int .i64) (.prod (.int .i64) (.prod (.int .i64) (.prod (.int .i64) (.prod (.row 2 (.int .i64)) (.int .i64))))))) (.row 2 (.int .i64)))))))],[⟨.bool,true⟩],fun _=>True,fun x=>O0 x.1⟩
theorem B4S:C8 Tryz.prog 23 A23:=by
  refine A4 Tryz.func23 rfl ?_
  have hres:Tryz.f23.results.toList=[.tmp 2]:=rfl
  rintro⟨⟨(gi:Int),(gr:Int),(ts:List (List Int)),(xs:List A1),(os:List Int)⟩,_⟩ hc hL
  simp only[A23,go_sem] at hL
  simp only[A23,St.init,St.initG,Tryz.ntmps23,go_sem] 
  refine oS fun _ hK1=>?_;refine oW P6 ?_;simp only[go_sem];repeat(with_reducible first|refine oA ?_|refine And.intro (by first|exact U5 (by assumption)|exact hgr|exact hsm|exact hwo) ?_)
  refine hK1 _ ?_;refine oS fun _ hK2=>?_;refine oS fun _ hK3=>?_;refine oW P6 ?_;simp (maxSteps:=2000000)only[go_sem];repeat' (with_reducible first|refine oA ?_|refine And.intro (by first|exact U5 (by assumption)|exact hgr|exact hsm|exact hwo) ?_|refine oT (fun g1=>?_) (fun g1=>?_)|refine oE (fun g1=>?_) (fun g1=>?_))
  all_goals
   refine hK3 _ ?_;refine D5 rfl ?_ ?_
   ·
    intro c0;try simp only[zA,zB,zC,zD,zE,zF,zG,zH,zI] at c0
    all_goals
     refine oS fun _ hK4=>?_;refine oW P6 ?_;simp only[go_sem];repeat(with_reducible first|refine oA ?_|refine And.intro (by first|exact U5 (by assumption)|exact hgr|exact hsm|exact hwo) ?_)
     refine hK4 _ ?_;refine A0 ?_;simp only[hres,go_sem]
     first
      | exact oF
      | refine ⟨?_, oF⟩
        have hA:A2O (gi,gr,ts,xs,os)=false:=by
          cases hh:A2O (gi,gr,ts,xs,os) with
          | false=>rfl
          | true =>
            exfalso;obtain⟨p1,p2,p3,p4,p5,p6⟩:=A1s hh
            have p7:=L8 p1.1 p1.2
            have p8:=L8 p2.1 p2.2
            simp only at p1 p2 p3 p4 p5 p6 p7 p8
            clear hK1 hK2 hK3 hK4;first|omega|(simp_all;done)
        rw[A6P,hA];rfl
   ·
    intro c0;try simp only[zA,zB,zC,zD,zE,zF,zG,zH,zI] at c0
    all_goals
     have hA:A2O (gi,gr,ts,xs,os)=true:=by
       have e1:xs.length≤48:=by omega
       have e2:os.length≤4:=by omega
       clear hK1 hK2 hK3;unfold A2O;simp only[decide_eq_true e1,decide_eq_true e2]
       simp_all
     obtain⟨p1,p2,p3,p4,p5,p6⟩:=A1s hA
     simp only at p1 p2 p3 p4 p5 p6
     have hgr:I6 gr (-1000) 1000=true:=L8 (by omega) (by omega)
     refine A2 ?_;simp only[go_sem];refine hK2 _ ?_;refine oS fun _ hK5=>?_;refine oS fun _ hK6=>?_;refine oW P6 ?_;simp only[go_sem];repeat(with_reducible first|refine oA ?_|refine And.intro (by first|exact U5 (by assumption)|exact hgr|exact hsm|exact hwo) ?_)
     refine hK6 _ ?_;refine A3 ?_;refine A8 (ι:={ k:Nat // k≤xs.length∧(xs.take k).all (b5 (gi,gr,ts,xs,os))=true }) (fun k=>⟨[zz,.c (.po 116 0),zz,zz,zz,zz,zz,zz,zz,zz,zz,zz,zz,zz,zz,zz,zz,zz,zz,zz,zz,zz,zz,zz,zz,zz,zz,zz,zz,zz,zz,zz,zz,zz,zz,zz,zz,zz,zz,zz,zz,zz,.c (.rd [] 64 ((.prod (.int .i64) (.prod (.int .i64) (.prod (.int .i64) (.prod (.int .i64) (.prod (.row 2 (.int .i64)) (.int .i64))))))) (xs)),.c (.sc (.int .i64 (xs.length))),.c (.sc (.int .i64 (k.1))),zz,zz,zz,zz,zz,zz,zz,zz,zz,zz,zz,zz,zz,zz,zz,zz,zz,zz,zz,zz,zz,zz,zz,zz,zz,zz,zz,zz,zz,zz],[(116,.box [.sc (.int .i64 (gi)),.sc (.int .i64 (gr)),.rd [] 26 ((.row 2 (.int .i64))) ts,.rd [] 64 ((.prod (.int .i64) (.prod (.int .i64) (.prod (.int .i64) (.prod (.int .i64) (.prod (.row 2 (.int .i64)) (.int .i64))))))) xs,.rd [] 2 (.int .i64) (os)])]⟩) (fun k=>xs.length - k.1) ⟨0,by simp⟩ ?_ ?_
     ·
      refine oK ?_;simp (maxSteps:=2000000)only[go_sem];all_goals(first|rfl|((repeat' refine And.intro ?_ ?_)<;>first|rfl|simp))
     rintro⟨k,hk,hp⟩ K7 hL7
     refine oS fun _ hK8=>?_;refine oW P6 ?_;simp only[go_sem];repeat(with_reducible first|refine oA ?_|refine And.intro (by first|exact U5 (by assumption)|exact hgr|exact hsm|exact hwo) ?_)
     refine hK8 _ ?_;refine oS fun _ hK9=>?_;refine D5 rfl ?_ ?_
     ·
      intro c1;try simp only[zA,zB,zC,zD,zE,zF,zG,zH,zI] at c1
      all_goals
       refine A2 ?_;simp only[go_sem];refine hK9 _ ?_;refine oS fun _ hK10=>?_;refine A3 ?_;refine oS fun _ hK11=>?_;refine oW P6 ?_;simp only[go_sem];repeat(with_reducible first|refine oA ?_|refine And.intro (by first|exact U5 (by assumption)|exact hgr|exact hsm|exact hwo) ?_)
       refine hK11 _ ?_;refine oS fun _ hK12=>?_
       refine oR P6
         [[],[],[1],[],[3],[3,4],[0,1,2,3,4,5],[0,1,2,3,4,5,6],[0,1,2,3,4,5,6,7],[0,1,2,3,4,5,6,7,8],[0,1,2,3,4,5,6,7,8,9],[0,1,2,3,4,5,6,7,8,9,10],[0,1,2,3,4,5,6,7,8,9,10,11],[0,1,2,3,4,5,6,7,8,9,10,11,12],[0,1,2,3,4,5,6,7,8,9,10,11,12,13],[0,1,2,3,4,5,6,7,8,9,10,11,12],[0,1,2,3,4,5,6,7,8,9,10,11,12,15],[0,1,2,3,4,5,6,7,8,9,10,11,12,13,14,15,16],[0,1,2,3,4,5,6,7,8,9,10,11,12,13,14,15,16,17],[0,1,2,3,4,5,6,7,8,9,10,11,12,13,14,15,16,17,18]]
         [[],[],[],[],[],[],[],[],[],[],[],[],[],[],[],[],[],[],[],[]]
         [[],[],[],[],[],[],[],[],[],[],[],[],[],[],[],[],[],[],[],[]] (by kernel_rfl) (by kernel_rfl) (A7 (acc:=[]) ?_)
       simp (maxSteps:=2000000)only[go_sem];repeat' (with_reducible first|refine oD ?_|refine And.intro (by first|exact U5 (by assumption)|exact hgr|exact hsm|exact hwo) ?_|refine oT (fun g6=>?_) (fun g6=>?_)|refine oE (fun g6=>?_) (fun g6=>?_))
       all_goals
        refine hK12 _ ?_;refine D5 rfl ?_ ?_
        ·
         intro c2;try simp only[zA,zB,zC,zD,zE,zF,zG,zH,zI] at c2
         all_goals
          refine oS fun _ hK13=>?_;refine oW P6 ?_;simp only[go_sem];repeat(with_reducible first|refine oA ?_|refine And.intro (by first|exact U5 (by assumption)|exact hgr|exact hsm|exact hwo) ?_)
          refine hK13 _ ?_;refine A0 ?_;simp only[hres,go_sem]
          first
           | exact oF
           | refine ⟨?_, oF⟩
             have hq:b5 (gi,gr,ts,xs,os) (xs.getD k ((0,0,0,0,[],0):A1))=false:=by
               cases hh:b5 (gi,gr,ts,xs,os) (xs.getD k ((0,0,0,0,[],0):A1)) with
               | false=>rfl
               | true =>
                 exfalso;obtain⟨q1,q2⟩:=Z6 hh
                 have q1:A12 gr ts.length (xs.getD k ((0,0,0,0,[],0):A1))=true:=q1
                 have q2:¬((xs.getD k ((0,0,0,0,[],0):A1)).1=1∧gi≤(xs.getD k ((0,0,0,0,[],0):A1)).2.1):=q2
                 first|omega|exact absurd q1 (by rw[Bool.not_eq_true];assumption)
             have hn:xs.all (b5 (gi,gr,ts,xs,os))=false:=M2 (k:=k) (d:=((0,0,0,0,[],0):A1)) (by omega) hq
             rw[A6P,hA];show false=(true && (xs.all (b5 (gi,gr,ts,xs,os)) && _))
             rw[hn];rfl
        ·
         intro c2;try simp only[zA,zB,zC,zD,zE,zF,zG,zH,zI] at c2
         all_goals
          have hq:b5 (gi,gr,ts,xs,os) (xs.getD k ((0,0,0,0,[],0):A1))=true:=B63 (by assumption) (by show ¬((xs.getD k ((0,0,0,0,[],0):A1)).1=1∧gi≤(xs.getD k ((0,0,0,0,[],0):A1)).2.1);omega)
          refine A2 ?_;simp only[go_sem];refine hK10 _ ?_;refine oW P6 ?_;simp only[go_sem];repeat(with_reducible first|refine oA ?_|refine And.intro (by first|exact U5 (by assumption)|exact hgr|exact hsm|exact hwo) ?_)
          refine hL7 ⟨k+1,by omega,J6 (d:=((0,0,0,0,[],0):A1)) (by omega) hp (by first|assumption|(clear hK1 hK2 hK3 hK5 hK6 hL7 hK8 hK9 hK10 hK11 hK12;simp_all))⟩ _ (oK ?_) ?_
          ·
           simp (maxSteps:=2000000)only[go_sem];first|rfl|exact wk (by omega)
          ·
           first|(simp only[];omega)|omega|(simp;omega)
     ·
      intro c1;try simp only[zA,zB,zC,zD,zE,zF,zG,zH,zI] at c1
      all_goals
       have hcl:xs.all (b5 (gi,gr,ts,xs,os))=true:=I7 hp (by omega)
       have hsm:=B2M (g:=(gi,gr,ts,xs,os)) p4 hcl
       have hwo:=B8l hA hcl
       refine B6 ?_;simp only[go_sem];refine hK5 _ ?_;refine oS fun _ hK14=>?_;refine oW P6 ?_;simp (maxSteps:=2000000)only[go_sem];repeat' (with_reducible first|refine oA ?_|refine And.intro (by first|exact U5 (by assumption)|exact hgr|exact hsm|exact hwo) ?_|refine oT (fun g9=>?_) (fun g9=>?_)|refine oE (fun g9=>?_) (fun g9=>?_))
       all_goals
        refine hK14 _ ?_;refine A0 ?_;simp only[hres,go_sem]
        first
         | exact oF
         | refine ⟨?_, oF⟩
           rw[A6P,hA];show _=(true && (xs.all (b5 (gi,gr,ts,xs,os)) && _))
           rw[hcl];clear hK1 hK2 hK3 hK5 hK6 hL7 hK8 hK9 hK14
           simp_all
def A6a:G4:=fun f=>if f=23 then some (.p A23) else B1E f
theorem B0l:B5 Tryz.prog A6a:=F8 B4S (B0 Tryz.func23 rfl (by decide)) P6
attribute [go_sem] A6a A23
end Go.Proofs.YtenjbehedcegdaaGreat
