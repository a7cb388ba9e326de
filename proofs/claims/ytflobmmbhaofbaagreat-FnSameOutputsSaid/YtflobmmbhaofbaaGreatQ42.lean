/-
  Texts of this claim, joined (part 42). No condition beyond those of the theorems.
-/
import Derived.Test.YtflobmmbhaofbaaGreatQ06
import Derived.Test.YtflobmmbhaofbaaGreatQ41
import Derived.Test.YtflobmmbhaofbaaGreatQ04
namespace Go.Proofs.YtflobmmbhaofbaaGreat
open Go.RowKit
set_option linter.unusedSimpArgs false
set_option linter.unusedVariables false
set_option maxRecDepth 100000
set_option maxHeartbeats 1000000
def t0:Con:=⟨[.val ((.row 26 (.row 2 (.int .i64))))],[⟨.bool,true⟩],fun _=>True,fun x=>y2 x.1⟩
theorem B0d:D4 Tryz.prog 84 t0:=by
  refine A7 Tryz.func84 rfl ?_
  have hres:Tryz.f84.results.toList=[.tmp 2]:=rfl
  rintro⟨(xs:List (List Int)),_⟩ hc hL
  simp only[t0,go_sem] at hL
  obtain⟨lxs,lxs2⟩:=hL;simp only[t0,St.init,St.initG,Tryz.ntmps84,go_sem] 
  refine oS fun _ hK1=>?_;refine oW D5 ?_;simp only[go_sem];refine hK1 _ ?_;refine oS fun _ hK2=>?_;refine oS fun _ hK3=>?_;refine oW D5 ?_;simp only[go_sem];refine hK3 _ ?_;refine A5 ?_;refine B4 (ι:={ k:Nat // k≤xs.length∧(xs.take k).all A6W=true }) (fun k=>⟨[.c (.rd [] 26 (.row 2 (.int .i64)) (xs)),zz,zz,zz,zz,zz,.c (.rd [] 26 (.row 2 (.int .i64)) (xs)),.c (.sc (.int .i64 (xs.length))),.c (.sc (.int .i64 (k.1))),zz,zz,zz,zz,zz,zz,zz,zz,zz,zz,zz,zz,zz,zz,zz,zz,zz,zz,zz,zz,zz,zz,zz,zz,zz,zz,zz,zz],[]⟩) (fun k=>xs.length - k.1) ⟨0,by simp⟩ ?_ ?_
  ·
   refine oK ?_;simp (maxSteps:=2000000)only[go_sem];all_goals(first|rfl|((repeat' refine And.intro ?_ ?_)<;>first|rfl|simp))
  rintro⟨k,hk,hp⟩ K4 hL4
  refine oS fun _ hK5=>?_;refine oW D5 ?_;simp only[go_sem];refine hK5 _ ?_;refine oS fun _ hK6=>?_;refine oC rfl ?_ ?_
  ·
   intro c0;refine A3 ?_;simp only[go_sem];refine hK6 _ ?_;refine oS fun _ hK7=>?_;refine A5 ?_;refine oS fun _ hK8=>?_;refine oW D5 ?_;simp only[go_sem];repeat(with_reducible refine oA ?_)
   refine hK8 _ ?_;refine oS fun _ hK9=>?_;refine oW D5 ?_;simp only[go_sem];refine hK9 _ ?_;refine oS fun _ hK10=>?_;refine oW D5 ?_;simp (maxSteps:=2000000)only[go_sem];repeat' (with_reducible first|refine oA ?_|refine oT (fun g5=>?_) (fun g5=>?_)|refine oE (fun g5=>?_) (fun g5=>?_))
   all_goals
    refine hK10 _ ?_;refine D2 rfl ?_ ?_
    ·
     intro c1;try simp only[zA,zB,zC,zD,zE,zF,zG,zH,zI] at c1
     all_goals
      refine oS fun _ hK11=>?_;refine oW D5 ?_;simp only[go_sem];refine hK11 _ ?_;refine A2 ?_;simp only[hres,go_sem]
      first
       | exact oF
       | refine ⟨?_, oF⟩
         have hq:A6W (xs.getD k [])=false:=by clear hK1 hK2 hK3 hL4 hK5 hK6 hK7 hK8 hK9 hK10 hK11;simp_all [A6W]<;>omega
         rw[y2,W7 (k:=k) (d:=[]) (by omega) hq];rfl
    ·
     intro c1;try simp only[zA,zB,zC,zD,zE,zF,zG,zH,zI] at c1
     all_goals
      have hq:A6W (xs.getD k [])=true:=by clear hK1 hK2 hK3 hL4 hK5 hK6 hK7 hK8 hK9 hK10;simp_all [A6W]<;>omega
      refine A3 ?_;simp only[go_sem];refine hK7 _ ?_;refine oW D5 ?_;simp only[go_sem];refine hL4 ⟨k+1,by omega,Q8 (d:=[]) (by omega) hp (by first|assumption|(clear hK1 hK2 hK3 hL4 hK5 hK6 hK7 hK8 hK9 hK10;simp_all))⟩ _ (oK ?_) ?_
      ·
       simp (maxSteps:=2000000)only[go_sem];first|rfl|exact wk (by omega)
      ·
       first|(simp only[];omega)|omega|(simp;omega)
  intro c0;refine C2 ?_;simp only[go_sem];refine hK2 _ ?_;refine oS fun _ hK12=>?_;refine oW D5 ?_;simp only[go_sem];refine hK12 _ ?_;refine A2 ?_;simp only[hres,go_sem];first|exact oF|(refine⟨?_,oF⟩;rw[y2,P2 hp (by omega),Bool.true_and];exact decide_eq_decide.2 (by omega))
def A2n:F8:=fun f=>if f=84 then some (.p t0) else y7 f
theorem L8:B8 Tryz.prog A2n:=F9 B0d (B6 Tryz.func84 rfl (by decide)) D5
attribute [go_sem] A2n t0
def i7:Con:=⟨[.val ((.row 2 (.int .i64))),.val (.int .i64)],[⟨.bool,true⟩],fun x=>O7 x.2.1 (-9223372036854775807) 9223372036854775807=true,fun x=>J4 x.2.1 x.1⟩
theorem A9h:D4 Tryz.prog 86 i7:=by
  refine A7 Tryz.func86 rfl ?_
  have hres:Tryz.f86.results.toList=[.tmp 4]:=rfl
  rintro⟨(xs:List Int),(m:Int),_⟩ hc hL
  simp only[i7,go_sem] at hL
  simp only[i7,St.init,St.initG,Tryz.ntmps86,go_sem] 
  obtain⟨hm1,hm2⟩:=E0.1 (show O7 m _ _=true from hc)
  have hw:IntKind.i64.wrap (m - 1)=m - 1:=G9 (by omega)
  refine oS fun _ hK1=>?_;refine oW L8 ?_;simp only[go_sem];refine hK1 _ ?_;refine oS fun _ hK2=>?_;refine oS fun _ hK3=>?_;refine oW L8 ?_;simp only[go_sem];refine hK3 _ ?_;refine A5 ?_;refine B4 (ι:={ k:Nat // k≤xs.length∧(xs.take k).all (fun i=>O7 i 0 (m - 1))=true }) (fun k=>⟨[zz,.c (.sc (.int .i64 (m))),zz,zz,zz,zz,zz,.c (.rd [] 2 (.int .i64) (xs)),.c (.sc (.int .i64 (xs.length))),.c (.sc (.int .i64 (k.1))),zz,zz,zz,zz,zz,zz,zz,zz,zz],[]⟩) (fun k=>xs.length - k.1) ⟨0,by simp⟩ ?_ ?_
  ·
   refine oK ?_;simp (maxSteps:=2000000)only[go_sem];all_goals(first|rfl|((repeat' refine And.intro ?_ ?_)<;>first|rfl|simp))
  rintro⟨k,hk,hp⟩ K4 hL4
  refine oS fun _ hK5=>?_;refine oW L8 ?_;simp only[go_sem];refine hK5 _ ?_;refine oS fun _ hK6=>?_;refine oC rfl ?_ ?_
  ·
   intro c0;refine A3 ?_;simp only[go_sem];refine hK6 _ ?_;refine oS fun _ hK7=>?_;refine A5 ?_;refine oS fun _ hK8=>?_;refine oW L8 ?_;simp only[go_sem];repeat(with_reducible refine oA ?_)
   refine hK8 _ ?_;refine oS fun _ hK9=>?_;refine oW L8 ?_;simp (maxSteps:=2000000)only[hw,go_sem];repeat(with_reducible refine oA ?_)
   refine hK9 _ ?_;refine oC rfl ?_ ?_
   ·
    intro c1;refine oS fun _ hK10=>?_;refine oW L8 ?_;simp only[go_sem];refine hK10 _ ?_;refine A2 ?_;simp only[hres,go_sem];first|exact oF|(refine⟨?_,oF⟩;exact(W7 (k:=k) (d:=0) (by omega) (by first|assumption|(clear hp;clear hK1 hK2 hK3 hL4 hK5 hK6 hK7 hK8 hK9 hK10;simp_all))).symm)
   intro c1;refine A3 ?_;simp only[go_sem];refine hK7 _ ?_;refine oW L8 ?_;simp only[go_sem];refine hL4 ⟨k+1,by omega,Q8 (d:=0) (by omega) hp (by first|assumption|(clear hK1 hK2 hK3 hL4 hK5 hK6 hK7 hK8 hK9;simp_all))⟩ _ (oK ?_) ?_
   ·
    simp (maxSteps:=2000000)only[go_sem];first|rfl|exact wk (by omega)
   ·
    first|(simp only[];omega)|omega|(simp;omega)
  intro c0;refine C2 ?_;simp only[go_sem];refine hK2 _ ?_;refine oS fun _ hK11=>?_;refine oW L8 ?_;simp only[go_sem];refine hK11 _ ?_;refine A2 ?_;simp only[hres,go_sem];first|exact oF|(refine⟨?_,oF⟩;exact(P2 hp (by omega)).symm)
def A27:F8:=fun f=>if f=86 then some (.p i7) else A2n f
theorem V1:B8 Tryz.prog A27:=F9 A9h (B6 Tryz.func86 rfl (by decide)) L8
attribute [go_sem] A27 i7
def A0P:Con:=⟨[.val ((.prod (.int .i64) (.prod (.int .i64) (.prod (.int .i64) (.row 2 (.int .i64))))))],[⟨(.row 2 (.int .i64)),false⟩],fun _=>True,fun x=>D9 x.1⟩
theorem B2a:D4 Tryz.prog 88 A0P:=by
  refine A7 Tryz.func88 rfl ?_
  have hres:Tryz.f88.results.toList=[.tmp 2]:=rfl
  rintro⟨⟨(kd:Int),(a:Int),(bb:Int),(fr:List Int)⟩,_⟩ hc hL
  simp only[A0P,go_sem] at hL
  simp only[A0P,St.init,St.initG,Tryz.ntmps88,go_sem] 
  refine oS fun _ hK1=>?_;refine oW V1 ?_;simp only[go_sem];refine hK1 _ ?_;refine oS fun _ hK2=>?_;refine oS fun _ hK3=>?_;refine oW V1 ?_;simp only[go_sem];repeat(with_reducible refine oA ?_)
  refine hK3 _ ?_;refine oC rfl ?_ ?_
  ·
   intro c0;refine oS fun _ hK4=>?_;refine oW V1 ?_;simp only[go_sem];refine hK4 _ ?_;refine A2 ?_;simp only[hres,go_sem];first|exact oF|(refine⟨?_,oF⟩;clear hK1 hK2 hK3 hK4;simp_all [D9])
  intro c0;refine A3 ?_;simp only[go_sem];refine hK2 _ ?_;refine oS fun _ hK5=>?_;refine oW V1 ?_;simp only[go_sem];repeat(with_reducible refine oA ?_)
  refine hK5 _ ?_;refine A2 ?_;simp only[hres,go_sem];first|exact oF|(refine⟨?_,oF⟩;clear hK1 hK2 hK3 hK5;simp_all [D9])
def A20:F8:=fun f=>if f=88 then some (.p A0P) else A27 f
theorem E5:B8 Tryz.prog A20:=F9 B2a (B6 Tryz.func88 rfl (by decide)) V1
attribute [go_sem] A20 A0P
set_option maxRecDepth 100000
set_option maxHeartbeats 4000000
def B1b:F8:=fun f=>match A7p f with
 | some k=>some k
 | none=>A20 f
theorem O1:B8 Tryz.prog B1b:=T3 B2g E5
attribute [go_sem] B1b T0
def W0:Con:=⟨[.val ((.prod (.int .i64) (.prod (.row 26 (.row 2 (.int .i64))) (.prod (.row 56 (.prod (.int .i64) (.prod (.int .i64) (.prod (.int .i64) (.row 2 (.int .i64)))))) (.row 2 (.int .i64))))))],[⟨.bool,true⟩],fun _=>True,fun x=>C5 x.1⟩
theorem A79:D4 Tryz.prog 55 W0:=by
  refine A7 Tryz.func55 rfl ?_
  have hres:Tryz.f55.results.toList=[.tmp 2]:=rfl
  rintro⟨⟨(pi:Int),(ts:List (List Int)),(ns:List A4),(os:List Int)⟩,_⟩ hc hL
  simp only[W0,go_sem] at hL
  obtain⟨⟨lts,lts2⟩,⟨lns,lns2⟩,los⟩:=hL
  simp only[W0,St.init,St.initG,Tryz.ntmps55,go_sem] 
  refine oS fun _ hK1=>?_;refine oW O1 ?_;simp only[go_sem];repeat(with_reducible first|refine oA ?_|refine And.intro (by first|exact L2 (by omega) (by omega)) ?_)
  refine hK1 _ ?_;refine oS fun _ hK2=>?_;refine oW O1 ?_;simp only[go_sem];repeat(with_reducible first|refine oA ?_|refine And.intro (by first|exact L2 (by omega) (by omega)) ?_)
  refine hK2 _ ?_;refine oS fun _ hK3=>?_;refine oS fun _ hK4=>?_;refine oW O1 ?_;simp (maxSteps:=2000000)only[go_sem];repeat' (with_reducible first|refine oA ?_|refine And.intro (by first|exact L2 (by omega) (by omega)) ?_|refine oT (fun g2=>?_) (fun g2=>?_)|refine oE (fun g2=>?_) (fun g2=>?_))
  all_goals
   refine hK4 _ ?_;refine D2 rfl ?_ ?_
   ·
    intro c0;try simp only[zA,zB,zC,zD,zE,zF,zG,zH,zI] at c0
    all_goals
     refine oS fun _ hK5=>?_;refine oW O1 ?_;simp only[go_sem];repeat(with_reducible first|refine oA ?_|refine And.intro (by first|exact L2 (by omega) (by omega)) ?_)
     refine hK5 _ ?_;refine A2 ?_;simp only[hres,go_sem]
     first
      | exact oF
      | refine ⟨?_, oF⟩
        cases hh:C5 (pi,ts,ns,os) with
        | false=>rfl
        | true =>
          exfalso;obtain⟨p1,p2,p3,p4,p5,p6,p7⟩:=A8 hh
          have p8:=L2 p4 p5
          simp only at p1 p2 p3 p6 p8
          clear hK1 hK2 hK3 hK4 hK5;first|omega|(simp_all;done)
   ·
    intro c0;try simp only[zA,zB,zC,zD,zE,zF,zG,zH,zI] at c0
    all_goals
     have e1:ns.length≤24:=by omega
     have e2:os.length≤4:=by omega
     have hF:C5 (pi,ts,ns,os)=ns.all (K0 (pi,ts,ns,os)):=by clear hK1 hK2 hK3 hK4;unfold C5;simp only[decide_eq_true e1,decide_eq_true e2];simp_all
     refine A3 ?_;simp only[go_sem];refine hK3 _ ?_;refine oS fun _ hK6=>?_;refine oS fun _ hK7=>?_;refine oW O1 ?_;simp only[go_sem];repeat(with_reducible first|refine oA ?_|refine And.intro (by first|exact L2 (by omega) (by omega)) ?_)
     refine hK7 _ ?_;refine A5 ?_;refine B4 (ι:={ k:Nat // k≤ns.length∧(ns.take k).all (K0 (pi,ts,ns,os))=true }) (fun k=>⟨[zz,.c (.po 116 0),zz,.c (.sc (.int .i64 (ns.length))),zz,zz,zz,zz,zz,zz,zz,zz,zz,zz,zz,zz,zz,zz,zz,zz,zz,zz,zz,zz,zz,zz,zz,zz,zz,zz,zz,zz,zz,zz,zz,zz,zz,.c (.rd [] 56 ((.prod (.int .i64) (.prod (.int .i64) (.prod (.int .i64) (.row 2 (.int .i64)))))) (ns)),.c (.sc (.int .i64 (ns.length))),.c (.sc (.int .i64 (k.1))),zz,zz,zz,zz,zz,zz,zz,zz,zz,zz,zz,zz,zz,zz,zz,zz,zz,zz,zz,zz,zz,zz,zz,zz,zz,zz,zz,zz,zz],[(116,.box [.sc (.int .i64 (pi)),.rd [] 26 ((.row 2 (.int .i64))) (ts),.rd [] 56 ((.prod (.int .i64) (.prod (.int .i64) (.prod (.int .i64) (.row 2 (.int .i64)))))) (ns),.rd [] 2 (.int .i64) (os)])]⟩) (fun k=>ns.length - k.1) ⟨0,by simp⟩ ?_ ?_
     ·
      refine oK ?_;simp (maxSteps:=2000000)only[go_sem];all_goals(first|rfl|((repeat' refine And.intro ?_ ?_)<;>first|rfl|simp))
     rintro⟨k,hk,hp⟩ K8 hL8
     refine oS fun _ hK9=>?_;refine oW O1 ?_;simp only[go_sem];repeat(with_reducible first|refine oA ?_|refine And.intro (by first|exact L2 (by omega) (by omega)) ?_)
     refine hK9 _ ?_;refine oS fun _ hK10=>?_;refine D2 rfl ?_ ?_
     ·
      intro c1;try simp only[zA,zB,zC,zD,zE,zF,zG,zH,zI] at c1
      all_goals
       refine A3 ?_;simp only[go_sem];refine hK10 _ ?_;refine oS fun _ hK11=>?_;refine A5 ?_;refine oS fun _ hK12=>?_;refine oW O1 ?_;simp only[go_sem];repeat(with_reducible first|refine oA ?_|refine And.intro (by first|exact L2 (by omega) (by omega)) ?_)
       refine hK12 _ ?_;refine oS fun _ hK13=>?_
       refine oR O1
         [[],[],[1],[1,2],[0,1,2,3],[0,1,2,3,4],[0,1,2,3,4,5],[0,1,2,3,4,5,6],[0,1,2,3,4,5,6,7],[0,1,2,3,4,5,6],[0,1,2,3,4,5,6,7,8,9],[0,1,2,3,4,5,6,7,8,9,10],[0,1,2,3,4,5,6,7,8,9,10,11],[0,1,2,3,4,5,6,7,8,9,10,11,12],[0,1,2,3,4,5,6,7,8,9,10,11,12,13],[0,1,2,3,4,5,6,7,8,9,10,11,12,13,14],[0,1,2,3,4,5,6,7,8,9,10,11,12,13,14,15],[0,1,2,3,4,5,6,7,8,9,10,11,12,13,14,15,16],[0,1,2,3,4,5,6,7,8,9,10,11,12,13,14,15,16,17],[0,1,2,3,4,5,6,7,8,9,10,11,12,13,14,15,16,17,18],[0,1,2,3,4,5,6,7,8,9,10,11,12,13,14,15,16,17],[0,1,2,3,4,5,6,7,8,9,10,11,12,13,14,15,16,17,20],[0,1,2,3,4,5,6,7,8,9,10,11,12,13,14,15,16,17,18,19,20,21],[0,1,2,3,4,5,6,7,8,9,10,11,12,13,14,15,16,17,18,19,20,21,22],[0,1,2,3,4,5,6,7,8,9,10,11,12,13,14,15,16,17,18,19,20,21,22,23]]
         [[],[],[],[],[],[],[],[],[],[],[],[],[],[],[],[],[],[],[],[],[],[],[],[],[]]
         [[],[],[],[],[],[],[],[],[],[],[],[],[],[],[],[],[],[],[],[],[],[],[],[],[]] (by kernel_rfl) (by kernel_rfl) (B7 (acc:=[]) ?_)
       simp (maxSteps:=2000000)only[go_sem];repeat' (with_reducible first|refine oD ?_|refine And.intro (by first|exact L2 (by omega) (by omega)) ?_|refine oT (fun g7=>?_) (fun g7=>?_)|refine oE (fun g7=>?_) (fun g7=>?_))
       all_goals
        refine hK13 _ ?_;refine D2 rfl ?_ ?_
        ·
         intro c2;try simp only[zA,zB,zC,zD,zE,zF,zG,zH,zI] at c2
         all_goals
          refine oS fun _ hK14=>?_;refine oW O1 ?_;simp only[go_sem];repeat(with_reducible first|refine oA ?_|refine And.intro (by first|exact L2 (by omega) (by omega)) ?_)
          refine hK14 _ ?_;refine A2 ?_;simp only[hres,go_sem]
          first
           | exact oF
           | refine ⟨?_, oF⟩
             have hq:K0 (pi,ts,ns,os) (ns.getD k ((0,0,0,[]):A4))=false:=by
               cases hh:K0 (pi,ts,ns,os) (ns.getD k ((0,0,0,[]):A4)) with
               | false=>rfl
               | true =>
                 exfalso;obtain⟨q1,q2,q3⟩:=G1 hh
                 have q3:¬((ns.getD k ((0,0,0,[]):A4)).1=1∧pi≤(ns.getD k ((0,0,0,[]):A4)).2.1):=q3
                 first|omega|exact absurd q1 (by rw[Bool.not_eq_true];assumption)|exact absurd q2 (by rw[Bool.not_eq_true];assumption)
             rw[hF,W7 (k:=k) (d:=((0,0,0,[]):A4)) (by omega) hq]
        ·
         intro c2;try simp only[zA,zB,zC,zD,zE,zF,zG,zH,zI] at c2
         all_goals
          have hq:K0 (pi,ts,ns,os) (ns.getD k ((0,0,0,[]):A4))=true:=B2l (by assumption) (by assumption) (by show ¬((ns.getD k ((0,0,0,[]):A4)).1=1∧pi≤(ns.getD k ((0,0,0,[]):A4)).2.1);omega)
          refine A3 ?_;simp only[go_sem];refine hK11 _ ?_;refine oW O1 ?_;simp only[go_sem];repeat(with_reducible first|refine oA ?_|refine And.intro (by first|exact L2 (by omega) (by omega)) ?_)
          refine hL8 ⟨k+1,by omega,Q8 (d:=((0,0,0,[]):A4)) (by omega) hp (by first|assumption|(clear hK1 hK2 hK3 hK4 hK6 hK7 hL8 hK9 hK10 hK11 hK12 hK13;simp_all))⟩ _ (oK ?_) ?_
          ·
           simp (maxSteps:=2000000)only[go_sem];first|rfl|exact wk (by omega)
          ·
           first|(simp only[];omega)|omega|(simp;omega)
     ·
      intro c1;try simp only[zA,zB,zC,zD,zE,zF,zG,zH,zI] at c1
      all_goals
       refine C2 ?_;simp only[go_sem];refine hK6 _ ?_;refine oS fun _ hK15=>?_;refine oW O1 ?_;simp only[go_sem];repeat(with_reducible first|refine oA ?_|refine And.intro (by first|exact L2 (by omega) (by omega)) ?_)
       refine hK15 _ ?_;refine A2 ?_;simp only[hres,go_sem];first|exact oF|(refine⟨?_,oF⟩;rw[hF,P2 hp (by omega)])
def A0X:F8:=fun f=>if f=55 then some (.p W0) else B1b f
theorem A5S:B8 Tryz.prog A0X:=F9 A79 (B6 Tryz.func55 rfl (by decide)) O1
attribute [go_sem] A0X W0
end Go.Proofs.YtflobmmbhaofbaaGreat
