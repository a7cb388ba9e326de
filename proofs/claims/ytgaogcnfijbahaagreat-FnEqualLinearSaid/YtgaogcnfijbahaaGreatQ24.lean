/-
  Texts of this claim, joined (part 24). No condition beyond those of the theorems.
-/
import Derived.Test.YtgaogcnfijbahaaGreatQ23
namespace Go.Proofs.YtgaogcnfijbahaaGreat
open Go.RowKit
set_option linter.unusedSimpArgs false
set_option linter.unusedVariables false
set_option maxRecDepth 100000
set_option maxHeartbeats 4000000
def B3f:E4:=fun f=>match A8S f with
 | some k=>some k
 | none=>A6a f
theorem F7:B4 Tryz.prog B3f:=N2 B0g I1
attribute [go_sem] B3f T0
def y3:Con:=⟨[.ptr (.prod (.int .i64) (.prod (.row 26 (.row 2 (.int .i64))) (.prod (.row 95 (.prod (.int .i64) (.prod (.int .i64) (.prod (.int .i64) (.row 2 (.int .i64)))))) (.row 2 (.int .i64)))))],[⟨.bool,true⟩],fun _=>True,fun x=>C0 x.1⟩
theorem B2K:C9 Tryz.prog 33 y3:=by
  refine A4 Tryz.func33 rfl ?_
  have hres:Tryz.f33.results.toList=[.tmp 2]:=rfl
  rintro⟨⟨(pi:Int),(ts:List (List Int)),(ns:List A6),(os:List Int)⟩,_⟩ hc hL
  simp only[y3,go_sem] at hL
  obtain⟨⟨lts,lts2⟩,⟨lns,lns2⟩,los⟩:=hL
  simp only[y3,St.init,St.initG,Tryz.ntmps33,go_sem] 
  refine oS fun _ hK1=>?_;refine oW F7 ?_;simp only[go_sem];refine hK1 _ ?_;refine oS fun _ hK2=>?_;refine oW F7 ?_;simp (maxSteps:=2000000)only[go_sem];repeat(with_reducible refine oA ?_)
  refine hK2 _ ?_;refine oS fun _ hK3=>?_;refine oS fun _ hK4=>?_;refine oW F7 ?_;simp (maxSteps:=2000000)only[go_sem];repeat' (with_reducible first|refine oA ?_|refine oT (fun g2=>?_) (fun g2=>?_)|refine oE (fun g2=>?_) (fun g2=>?_))
  all_goals
   refine hK4 _ ?_;refine E2 rfl ?_ ?_
   ·
    intro c0;try simp only[zA,zB,zC,zD,zE,zF,zG,zH,zI] at c0
    all_goals
     refine oS fun _ hK5=>?_;refine oW F7 ?_;simp only[go_sem];refine hK5 _ ?_;refine A0 ?_;simp only[hres,go_sem]
     first
      | exact oF
      | refine ⟨?_, oF⟩
        symm
        cases hh:C0 (pi,ts,ns,os) with
        | false=>rfl
        | true =>
          exfalso;obtain⟨p1,p2,p3,p4,p5,p6,p7⟩:=A8 hh
          have p8:=J8 p4 p5
          simp only at p1 p2 p3 p6 p8
          clear hK1 hK2 hK3 hK4 hK5;first|omega|(simp_all;done)
   ·
    intro c0;try simp only[zA,zB,zC,zD,zE,zF,zG,zH,zI] at c0
    all_goals
     have f1:J3 pi 0 4=true:=by clear hK1 hK2 hK3 hK4;simp_all
     have f2:A05 ts=true:=by clear hK1 hK2 hK3 hK4;simp_all
     have f3:ns.length≤24:=by omega
     have f4:os.length≤4:=by omega
     have hwn:IntKind.i64.wrap ((ns.length:Int) - 1)=(ns.length:Int) - 1:=F3 (by omega)
     refine A2 ?_;simp only[go_sem];refine hK3 _ ?_;refine oS fun _ hK6=>?_;refine oS fun _ hK7=>?_;refine oW F7 ?_;simp only[go_sem];refine hK7 _ ?_;refine A1 ?_;refine A7 (ι:={ k:Nat // k≤ns.length∧(ns.take k).all (X7 (pi,ts,ns,os))=true }) (fun k=>⟨[.c (.pt [] ((.prod (.int .i64) (.prod (.row 26 (.row 2 (.int .i64))) (.prod (.row 95 (.prod (.int .i64) (.prod (.int .i64) (.prod (.int .i64) (.row 2 (.int .i64)))))) (.row 2 (.int .i64)))))) (pi,ts,ns,os) 0),zz,zz,.c (.sc (.int .i64 (ns.length))),.c (.sc (.int .i64 (k.1))),zz,zz,zz,zz,zz,zz,zz,zz,zz,zz,zz,zz,zz,zz,zz,zz,zz,zz,zz,zz,zz,zz,zz,zz,zz,zz,zz,zz,zz,zz,zz,zz,zz,zz,zz,zz,zz,zz,zz,zz,zz,zz,zz,zz,zz,zz,zz,zz,zz,zz,zz,zz,zz,zz,zz,zz,zz,zz,zz,zz,zz,zz,zz,zz,zz,zz,zz,zz,zz,zz,zz,zz,zz,zz,zz,zz,zz,zz,zz,zz,zz,zz,zz,zz,zz,zz,zz,zz,zz,zz,zz,zz,zz,zz,zz,zz,zz,zz,zz,zz,zz,zz,zz,zz,zz,zz,zz,zz,zz],[]⟩) (fun k=>ns.length - k.1) ⟨0,by simp⟩ ?_ ?_
     ·
      refine oK ?_;simp (maxSteps:=2000000)only[go_sem];all_goals(first|rfl|((repeat' refine And.intro ?_ ?_)<;>first|rfl|simp))
     rintro⟨k,hk,hp⟩ K8 hL8
     refine oS fun _ hK9=>?_;refine oS fun _ hK10=>?_;refine oW F7 ?_;simp only[go_sem];refine hK10 _ ?_;refine E2 rfl ?_ ?_
     ·
      intro c1;try simp only[zA,zB,zC,zD,zE,zF,zG,zH,zI] at c1
      all_goals
       refine A2 ?_;simp only[go_sem];refine hK9 _ ?_;refine oS fun _ hK11=>?_;refine A1 ?_;refine oS fun _ hK12=>?_;refine oW F7 ?_;simp (maxSteps:=2000000)only[go_sem];repeat(with_reducible refine oA ?_)
       refine hK12 _ ?_;refine b8 (M6 (ns.getD k ((0,0,0,[]):A6)) ts.length=true∧¬((ns.getD k ((0,0,0,[]):A6)).1=1∧pi≤(ns.getD k ((0,0,0,[]):A6)).2.1)) ⟨[.c (.pt [] ((.prod (.int .i64) (.prod (.row 26 (.row 2 (.int .i64))) (.prod (.row 95 (.prod (.int .i64) (.prod (.int .i64) (.prod (.int .i64) (.row 2 (.int .i64)))))) (.row 2 (.int .i64)))))) (pi,ts,ns,os) 0),zz,zz,.c (.sc (.int .i64 (ns.length))),.c (.sc (.int .i64 (k))),.c (.pt [] ((.prod (.int .i64) (.prod (.int .i64) (.prod (.int .i64) (.row 2 (.int .i64)))))) (ns.getD k ((0,0,0,[]):A6)) 0),zz,zz,zz,zz,zz,zz,zz,zz,zz,zz,zz,zz,zz,zz,zz,zz,zz,zz,zz,zz,zz,zz,zz,zz,zz,zz,zz,zz,zz,zz,zz,zz,zz,zz,zz,zz,zz,zz,zz,zz,zz,zz,zz,zz,zz,zz,zz,zz,zz,zz,zz,zz,zz,zz,zz,zz,zz,zz,zz,zz,zz,zz,zz,zz,zz,zz,zz,zz,zz,zz,zz,zz,zz,zz,zz,zz,zz,zz,zz,zz,zz,zz,zz,zz,zz,zz,zz,zz,zz,zz,zz,zz,zz,zz,zz,zz,zz,zz,zz,zz,zz,zz,zz,zz,zz,zz,zz,zz],[]⟩ ?_ fun _ hK13=>?_
       ·
        intro⟨hB,h3⟩
        refine oS fun _ hK14=>?_;refine oW F7 ?_;simp only[go_sem];refine hK14 _ ?_;refine A1 ?_;refine A7 (ι:={ m:Nat // m≤((ns.getD k ((0,0,0,[]):A6)).2.2.2).length∧(((ns.getD k ((0,0,0,[]):A6)).2.2.2).take m).all (fun f=>decide (f < (ns.length:Int)))=true }) (fun k'=>⟨[.c (.pt [] ((.prod (.int .i64) (.prod (.row 26 (.row 2 (.int .i64))) (.prod (.row 95 (.prod (.int .i64) (.prod (.int .i64) (.prod (.int .i64) (.row 2 (.int .i64)))))) (.row 2 (.int .i64)))))) (pi,ts,ns,os) 0),zz,zz,.c (.sc (.int .i64 (ns.length))),.c (.sc (.int .i64 (k))),.c (.pt [] ((.prod (.int .i64) (.prod (.int .i64) (.prod (.int .i64) (.row 2 (.int .i64)))))) (ns.getD k ((0,0,0,[]):A6)) 0),.c (.sc (.int .i64 (k'.1))),zz,zz,zz,zz,zz,zz,zz,zz,zz,zz,zz,zz,zz,zz,zz,zz,zz,zz,zz,zz,zz,zz,zz,zz,zz,zz,zz,zz,zz,zz,zz,zz,zz,zz,zz,zz,zz,zz,zz,zz,zz,zz,zz,zz,zz,zz,zz,zz,zz,zz,zz,zz,zz,zz,zz,zz,zz,zz,zz,zz,zz,zz,zz,zz,zz,zz,zz,zz,zz,zz,zz,zz,zz,zz,zz,zz,zz,zz,zz,zz,zz,zz,zz,zz,zz,zz,zz,zz,zz,zz,zz,zz,zz,zz,zz,zz,zz,zz,zz,zz,zz,zz,zz,zz,zz,zz,zz],[]⟩) (fun k'=>((ns.getD k ((0,0,0,[]):A6)).2.2.2).length - k'.1) ⟨0,by simp,by simp⟩ ?_ ?_
        ·
         refine oK ?_;simp (maxSteps:=2000000)only[go_sem];all_goals(first|rfl|((repeat' refine And.intro ?_ ?_)<;>first|rfl|simp))
        rintro⟨m,hm,hq⟩ K15 hL15
        have hwb:((ns.getD k ((0,0,0,[]):A6)).2.2.2).length≤9223372036854775807:=lns2 _ (D6 (by omega))
        refine oS fun _ hK16=>?_;refine oS fun _ hK17=>?_;refine oW F7 ?_;simp (maxSteps:=2000000)only[go_sem];repeat(with_reducible refine oA ?_)
        refine hK17 _ ?_;refine oC rfl ?_ ?_
        ·
         intro c3;refine A2 ?_;simp only[go_sem];refine hK16 _ ?_;refine oS fun _ hK18=>?_;refine A1 ?_;refine oS fun _ hK19=>?_;refine oW F7 ?_;simp (maxSteps:=2000000)only[go_sem];repeat(with_reducible refine oA ?_)
         refine hK19 _ ?_;refine oC rfl ?_ ?_
         ·
          intro c4;refine oS fun _ hK20=>?_;refine oW F7 ?_;simp only[go_sem];refine hK20 _ ?_;refine A0 ?_;simp only[hres,go_sem]
          first
           | exact oF
           | refine ⟨?_, oF⟩
             symm
             cases hh:C0 (pi,ts,ns,os) with
             | false=>rfl
             | true =>
               exfalso;obtain⟨p1,p2,p3,p4,p5,p6,p7⟩:=A8 hh
               have p8:=J8 p4 p5
               simp only at p1 p2 p3 p6 p8
               have q:=List.all_eq_true.1 p7 _ (D6 (d:=((0,0,0,[]):A6)) (i:=k) (by show k < ns.length;omega))
               obtain⟨q1,q2,q3⟩:=G6 q
               have q3:¬((ns.getD k ((0,0,0,[]):A6)).1=1∧pi≤(ns.getD k ((0,0,0,[]):A6)).2.1):=q3
               have q2:N9 (ns.length:Int) (ns.getD k ((0,0,0,[]):A6)).2.2.2=true:=q2
               have q4:=U5 q2 (D6 (d:=0) (i:=m) (by omega))
               omega
         intro c4;refine A2 ?_;simp only[go_sem];refine hK18 _ ?_;refine oW F7 ?_;simp only[go_sem];refine hL15 ⟨m+1,by omega,L6 (d:=0) (by omega) hq (decide_eq_true (by omega))⟩ _ (oK ?_) ?_
         ·
          simp (maxSteps:=2000000)only[go_sem];all_goals(first|rfl|((repeat' refine And.intro ?_ ?_)<;>first|rfl|exact wk (by omega)|simp))
         ·
          first|(simp only[];omega)|omega|(simp;omega)
        intro c3;refine B6 ?_;simp only[go_sem];refine hK11 _ ?_;refine oW F7 ?_;simp only[go_sem];refine hL8 ⟨k+1,by omega,L6 (d:=((0,0,0,[]):A6)) (by omega) hp (C0a hB h3 (fun f hf=>by have:=List.all_eq_true.1 (L3 hq (by omega)) f hf;simpa using this))⟩ _ (oK ?_) ?_
        ·
         simp (maxSteps:=2000000)only[go_sem];first|rfl|exact wk (by omega)
        ·
         first|(simp only[];omega)|omega|(simp;omega)
       refine oS fun _ hK21=>?_
       refine oR F7
         [[],[],[1],[1,2],[1,2,3],[1,2,3,4],[0,1,2,3,4,5],[0,1,2,3,4,5,6],[0,1,2,3,4,5,6,7],[0,1,2,3,4,5,6,7,8],[0,1,2,3,4,5,6,7,8,9],[0,1,2,3,4,5,6,7,8,9,10],[0,1,2,3,4,5,6,7,8,9,10,11],[0,1,2,3,4,5,6,7,8,9,10,11,12],[0,1,2,3,4,5,6,7,8,9,10,11,12,13],[0,1,2,3,4,5,6,7,8,9,10,11,12,13,14],[0,1,2,3,4,5,6,7,8,9,10,11,12,13,14,15],[0,1,2,3,4,5,6,7,8,9,10,11,12,13,14,15,16],[0,1,2,3,4,5,6,7,8,9,10,11,12,13,14,15,16,17],[0,1,2,3,4,5,6,7,8,9,10,11,12,13,14],[0,1,2,3,4,5,6,7,8,9,10,11,12,13,14,19],[0,1,2,3,4,5,6,7,8,9,10,11,12,13,14,19,20],[0,1,2,3,4,5,6,7,8,9,10,11,12,13,14,19,20,21],[0,1,2,3,4,5,6,7,8,9,10,11,12,13,14,15,16,17,18,19,20,21,22],[0,1,2,3,4,5,6,7,8,9,10,11,12,13,14,15,16,17,18,19,20,21,22,23],[0,1,2,3,4,5,6,7,8,9,10,11,12,13,14,15,16,17,18,19,20,21,22,23,24]]
         [[],[],[],[],[],[],[],[],[],[],[],[],[],[],[],[],[],[],[],[],[],[],[],[],[],[]]
         [[],[],[],[],[],[],[],[],[],[],[],[],[],[],[],[],[],[],[],[],[],[],[],[],[],[]] (by kernel_rfl) (by kernel_rfl) (A9 (acc:=[]) ?_)
       simp (maxSteps:=2000000)only[go_sem];repeat' (with_reducible first|refine oD ?_|refine oT (fun g8=>?_) (fun g8=>?_)|refine oE (fun g8=>?_) (fun g8=>?_))
       all_goals
        refine hK21 _ ?_;refine E2 rfl ?_ ?_
        ·
         intro c2;try simp only[zA,zB,zC,zD,zE,zF,zG,zH,zI] at c2
         all_goals
          refine oS fun _ hK22=>?_;refine oW F7 ?_;simp only[go_sem];refine hK22 _ ?_;refine A0 ?_;simp only[hres,go_sem]
          first
           | exact oF
           | refine ⟨?_, oF⟩
             symm
             cases hh:C0 (pi,ts,ns,os) with
             | false=>rfl
             | true =>
               exfalso;obtain⟨p1,p2,p3,p4,p5,p6,p7⟩:=A8 hh
               have p8:=J8 p4 p5
               simp only at p1 p2 p3 p6 p8
               have q:=List.all_eq_true.1 p7 _ (D6 (d:=((0,0,0,[]):A6)) (i:=k) (by show k < ns.length;omega))
               obtain⟨q1,q2,q3⟩:=G6 q
               have q3:¬((ns.getD k ((0,0,0,[]):A6)).1=1∧pi≤(ns.getD k ((0,0,0,[]):A6)).2.1):=q3
               have q2:N9 (ns.length:Int) (ns.getD k ((0,0,0,[]):A6)).2.2.2=true:=q2
               first|omega|exact absurd q1 (by rw[Bool.not_eq_true];assumption)
        ·
         intro c2;try simp only[zA,zB,zC,zD,zE,zF,zG,zH,zI] at c2
         all_goals
          refine A2 ?_;simp only[go_sem];refine hK13 _ (oK ?_) ?_
          ·
           simp (maxSteps:=2000000)only[go_sem];all_goals(first|rfl|((repeat' refine And.intro ?_ ?_)<;>first|rfl|exact wk (by omega)|simp))
          ·
           exact⟨by assumption,by omega⟩
     ·
      intro c1;try simp only[zA,zB,zC,zD,zE,zF,zG,zH,zI] at c1
      all_goals
       have hN:ns.all (X7 (pi,ts,ns,os))=true:=L3 hp (by omega)
       refine B6 ?_;simp only[go_sem];refine hK6 _ ?_;refine oS fun _ hK23=>?_;refine oS fun _ hK24=>?_;refine oW F7 ?_;simp only[go_sem];refine hK24 _ ?_;refine A1 ?_;refine A7 (ι:={ k:Nat // k≤os.length∧(os.take k).all (fun i=>J3 i 0 ((ns.length:Int) - 1))=true }) (fun k=>⟨[.c (.pt [] ((.prod (.int .i64) (.prod (.row 26 (.row 2 (.int .i64))) (.prod (.row 95 (.prod (.int .i64) (.prod (.int .i64) (.prod (.int .i64) (.row 2 (.int .i64)))))) (.row 2 (.int .i64)))))) (pi,ts,ns,os) 0),zz,zz,.c (.sc (.int .i64 (ns.length))),zz,zz,zz,.c (.sc (.int .i64 (k.1))),zz,zz,zz,zz,zz,zz,zz,zz,zz,zz,zz,zz,zz,zz,zz,zz,zz,zz,zz,zz,zz,zz,zz,zz,zz,zz,zz,zz,zz,zz,zz,zz,zz,zz,zz,zz,zz,zz,zz,zz,zz,zz,zz,zz,zz,zz,zz,zz,zz,zz,zz,zz,zz,zz,zz,zz,zz,zz,zz,zz,zz,zz,zz,zz,zz,zz,zz,zz,zz,zz,zz,zz,zz,zz,zz,zz,zz,zz,zz,zz,zz,zz,zz,zz,zz,zz,zz,zz,zz,zz,zz,zz,zz,zz,zz,zz,zz,zz,zz,zz,zz,zz,zz,zz,zz,zz],[]⟩) (fun k=>os.length - k.1) ⟨0,by simp⟩ ?_ ?_
       ·
        refine oK ?_;simp (maxSteps:=2000000)only[go_sem];all_goals(first|rfl|((repeat' refine And.intro ?_ ?_)<;>first|rfl|simp))
       rintro⟨k,hk,hp⟩ K25 hL25
       refine oS fun _ hK26=>?_;refine oS fun _ hK27=>?_;refine oW F7 ?_;simp (maxSteps:=2000000)only[go_sem];repeat(with_reducible refine oA ?_)
       refine hK27 _ ?_;refine E2 rfl ?_ ?_
       ·
        intro c5;try simp only[zA,zB,zC,zD,zE,zF,zG,zH,zI] at c5
        all_goals
         refine A2 ?_;simp only[go_sem];refine hK26 _ ?_;refine oS fun _ hK28=>?_;refine A1 ?_;refine oS fun _ hK29=>?_;refine oW F7 ?_;simp (maxSteps:=2000000)only[hwn,go_sem];repeat(with_reducible refine oA ?_)
         refine hK29 _ ?_;refine E2 rfl ?_ ?_
         ·
          intro c6;try simp only[zA,zB,zC,zD,zE,zF,zG,zH,zI] at c6
          all_goals
           refine oS fun _ hK30=>?_;refine oW F7 ?_;simp only[go_sem];refine hK30 _ ?_;refine A0 ?_;simp only[hres,go_sem]
           first
            | exact oF
            | refine ⟨?_, oF⟩
              symm
              cases hh:C0 (pi,ts,ns,os) with
              | false=>rfl
              | true =>
                exfalso;obtain⟨p1,p2,p3,p4,p5,p6,p7⟩:=A8 hh
                have p8:=J8 p4 p5
                simp only at p1 p2 p3 p6 p8
                have q4:=List.all_eq_true.1 p6 _ (D6 (d:=0) (i:=k) (by omega))
                simp_all
         ·
          intro c6;try simp only[zA,zB,zC,zD,zE,zF,zG,zH,zI] at c6
          all_goals
           refine A2 ?_;simp only[go_sem];refine hK28 _ ?_;refine oW F7 ?_;simp only[go_sem];refine hL25 ⟨k+1,by omega,L6 (d:=0) (by omega) hp (by first|assumption|(clear hK1 hK2 hK3 hK4 hK6 hK7 hL8 hK9 hK10 hK23 hK24 hL25 hK26 hK27 hK28 hK29;simp_all))⟩ _ (oK ?_) ?_
           ·
            simp (maxSteps:=2000000)only[go_sem];first|rfl|exact wk (by omega)
           ·
            first|(simp only[];omega)|omega|(simp;omega)
       ·
        intro c5;try simp only[zA,zB,zC,zD,zE,zF,zG,zH,zI] at c5
        all_goals
         refine B6 ?_;simp only[go_sem];refine hK23 _ ?_;refine oS fun _ hK31=>?_;refine oW F7 ?_;simp only[go_sem];refine hK31 _ ?_;refine A0 ?_;simp only[hres,go_sem]
         first
          | exact oF
          | refine ⟨?_, oF⟩
            have hO:N9 (ns.length:Int) os=true:=L3 hp (by omega)
            unfold C0;simp only[f1,f2,decide_eq_true f3,decide_eq_true f4,hN,hO,Bool.true_and]
def A49:E4:=fun f=>if f=33 then some (.p y3) else B3f f
theorem A9Y:B4 Tryz.prog A49:=E3 B2K (B0 Tryz.func33 rfl (by decide)) F7
attribute [go_sem] A49 y3
set_option maxRecDepth 100000
set_option maxHeartbeats 4000000
def A0s:Con:=⟨[.ptr (.prod (.int .i64) (.prod (.row 26 (.row 2 (.int .i64))) (.prod (.row 95 (.prod (.int .i64) (.prod (.int .i64) (.prod (.int .i64) (.row 2 (.int .i64)))))) (.row 2 (.int .i64)))))],[⟨(.row 2 (.int .i64)),true⟩,⟨.bool,true⟩],fun x=>C0 x.1=true,fun x=>B3n x.1.2.2.1⟩
theorem B5q:C9 Tryz.prog 34 A0s:=by
  refine A4 Tryz.func34 rfl ?_
  have hres:Tryz.f34.results.toList=[.tmp 2,.tmp 3]:=rfl
  rintro⟨⟨(pi:Int),(ts:List (List Int)),(ns:List A6),(os:List Int)⟩,_⟩ hc hL
  simp only[A0s,go_sem] at hL
  obtain⟨⟨lts,lts2⟩,⟨lns,lns2⟩,los⟩:=hL
  simp only[A0s,St.init,St.initG,Tryz.ntmps34,go_sem] 
  have hfm:C0 (pi,ts,ns,os)=true:=hc
  have hn24:ns.length≤24:=(A8 hfm).1
  refine oS fun _ hK1=>?_;refine oW I1 ?_;simp only[go_sem];refine hK1 _ ?_;refine oS fun _ hK2=>?_;refine oW I1 ?_;simp only[go_sem];repeat(with_reducible refine oA ?_)
  refine hK2 _ ?_;refine oS fun _ hK3=>?_;refine A1 ?_;refine A7 (ι:={ out:List Int // A1Q ns (ns.length - out.length) out=C6 ns∧out.length≤ns.length }) (fun k=>⟨[.c (.pt [] ((.prod (.int .i64) (.prod (.row 26 (.row 2 (.int .i64))) (.prod (.row 95 (.prod (.int .i64) (.prod (.int .i64) (.prod (.int .i64) (.row 2 (.int .i64)))))) (.row 2 (.int .i64)))))) (pi,ts,ns,os) 0),zz,zz,zz,.c (.ow 9001),zz,zz,zz,zz,zz,zz,zz,zz,zz,zz,zz,zz,zz,zz,zz,zz,zz,zz,zz,zz,zz,zz,zz,zz,zz,zz,zz,zz,zz,zz,zz,zz,zz,zz,zz,zz,zz,zz,zz,zz,zz,zz,zz,zz,zz,zz,zz],[(9001,.row 2 (.int .i64) (k.1) [])]⟩) (fun k=>ns.length - k.1.length) ⟨[],rfl,by simp⟩ ?_ ?_
  ·
   refine oK ?_;simp (maxSteps:=2000000)only[go_sem];all_goals(first|rfl|((repeat' refine And.intro ?_ ?_)<;>first|rfl|simp))
  rintro⟨out,ho1,ho2⟩ K4 hL4
  refine oS fun _ hK5=>?_;refine oS fun _ hK6=>?_;refine oW I1 ?_;simp (maxSteps:=2000000)only[go_sem];repeat(with_reducible refine oA ?_)
  refine hK6 _ ?_;refine oC rfl ?_ ?_
  ·
   intro c0;refine A2 ?_;simp only[go_sem];refine hK5 _ ?_;refine A1 ?_;refine oS fun _ hK7=>?_;refine oW I1 ?_;simp only[go_sem];refine hK7 _ ?_;refine oS fun _ hK8=>?_;refine oS fun _ hK9=>?_;refine oW I1 ?_;simp only[go_sem];refine hK9 _ ?_;refine A1 ?_;refine A7 (ι:={ s:Nat × Int // s.1≤ns.length∧-1≤s.2∧(s.2 < 0→∀j,j < s.1→U1 ns out j=false)∧(0≤s.2→∃i,i < ns.length∧s.2=(i:Int)∧(∀j,j < i→U1 ns out j=false)∧U1 ns out i=true) }) (fun k=>⟨[.c (.pt [] ((.prod (.int .i64) (.prod (.row 26 (.row 2 (.int .i64))) (.prod (.row 95 (.prod (.int .i64) (.prod (.int .i64) (.prod (.int .i64) (.row 2 (.int .i64)))))) (.row 2 (.int .i64)))))) (pi,ts,ns,os) 0),zz,zz,zz,.c (.ow 9001),.c (.sc (.int .i64 (k.1.2))),.c (.sc (.int .i64 (k.1.1))),zz,zz,zz,zz,zz,zz,zz,zz,zz,zz,zz,zz,zz,zz,zz,zz,zz,zz,zz,zz,zz,zz,zz,zz,zz,zz,zz,zz,zz,zz,zz,zz,zz,zz,zz,zz,zz,zz,zz,zz,zz,zz,zz,zz,zz],[(9001,.row 2 (.int .i64) (out) [])]⟩) (fun k=>ns.length - k.1.1) ⟨(0,-1),by simp,by simp,by simp,by simp⟩ ?_ ?_
   ·
    refine oK ?_;simp (maxSteps:=2000000)only[go_sem];all_goals(first|rfl|((repeat' refine And.intro ?_ ?_)<;>first|rfl|simp))
   rintro⟨⟨i,nx⟩,hi,hn1,hn2,hn3⟩ K10 hL10
   simp only at hi hn1 hn2 hn3
   refine oS fun _ hK11=>?_;refine oS fun _ hK12=>?_;refine oW I1 ?_;simp (maxSteps:=2000000)only[go_sem];repeat' (with_reducible first|refine oA ?_|refine oT (fun g5=>?_) (fun g5=>?_)|refine oE (fun g5=>?_) (fun g5=>?_))
   all_goals
    refine hK12 _ ?_;refine E2 rfl ?_ ?_
    ·
     intro c1;try simp only[zA,zB,zC,zD,zE,zF,zG,zH,zI] at c1
     all_goals
      refine A2 ?_;simp only[go_sem];refine hK11 _ ?_;refine oS fun _ hK13=>?_;refine A1 ?_;refine oS fun _ hK14=>?_;refine oW I1 ?_;simp (maxSteps:=2000000)only[go_sem];repeat' (with_reducible first|refine oA ?_|refine oT (fun g7=>?_) (fun g7=>?_)|refine oE (fun g7=>?_) (fun g7=>?_))
      all_goals
       refine hK14 _ ?_;refine E2 rfl ?_ ?_
       ·
        intro c2;try simp only[zA,zB,zC,zD,zE,zF,zG,zH,zI] at c2
        all_goals
         have hRt:U1 ns out i=true:=by unfold U1;clear hK1 hK2 hK3 hL4 hK5 hK6 hK7 hK8 hK9 hL10 hK11 hK12 hK13 hK14;simp_all
         refine oW I1 ?_;simp only[go_sem];refine hK13 _ ?_;refine oW I1 ?_;simp only[go_sem];first|(refine hL10 ⟨(i+1,(i:Int)),by omega,by omega,by omega,fun _=>⟨i,by omega,rfl,hn2 (by omega),hRt⟩⟩ _ (oK ?_) ?_)|(refine hL10 ⟨(i+1,nx),by omega,by omega,fun h j hj=>by rcases Nat.lt_succ_iff_lt_or_eq.1 hj with h'|h';exact hn2 h j h';subst h';exact hR,hn3⟩ _ (oK ?_) ?_)
         ·
          simp (maxSteps:=2000000)only[go_sem];all_goals((repeat' refine And.intro ?_ ?_)<;>first|rfl|exact wk (by omega)|simp)
         ·
          simp only[];omega
       ·
        intro c2;try simp only[zA,zB,zC,zD,zE,zF,zG,zH,zI] at c2
        all_goals
         have hR:U1 ns out i=false:=by unfold U1;clear hK1 hK2 hK3 hL4 hK5 hK6 hK7 hK8 hK9 hL10 hK11 hK12 hK13 hK14;simp_all
         refine A2 ?_;simp only[go_sem];refine hK13 _ ?_;refine oW I1 ?_;simp only[go_sem];first|(refine hL10 ⟨(i+1,(i:Int)),by omega,by omega,by omega,fun _=>⟨i,by omega,rfl,hn2 (by omega),hRt⟩⟩ _ (oK ?_) ?_)|(refine hL10 ⟨(i+1,nx),by omega,by omega,fun h j hj=>by rcases Nat.lt_succ_iff_lt_or_eq.1 hj with h'|h';exact hn2 h j h';subst h';exact hR,hn3⟩ _ (oK ?_) ?_)
         ·
          simp (maxSteps:=2000000)only[go_sem];all_goals((repeat' refine And.intro ?_ ?_)<;>first|rfl|exact wk (by omega)|simp)
         ·
          simp only[];omega
    ·
     intro c1;try simp only[zA,zB,zC,zD,zE,zF,zG,zH,zI] at c1
     all_goals
      have hs0:nx < 0→A2z ns out=none:=fun h=>A5S fun j hj=>hn2 h j (by omega)
      have hs1:=hn3
      refine B6 ?_;simp only[go_sem];refine hK8 _ ?_;refine oS fun _ hK15=>?_;refine oS fun _ hK16=>?_;refine oW I1 ?_;simp only[go_sem];refine hK16 _ ?_;refine E2 rfl ?_ ?_
      ·
       intro c3;try simp only[zA,zB,zC,zD,zE,zF,zG,zH,zI] at c3
       all_goals
        have hnx:A2z ns out=none:=hs0 (by omega)
        refine oS fun _ hK17=>?_;refine oW I1 ?_;simp only[go_sem];refine hK17 _ ?_;refine A0 ?_;simp only[hres,go_sem]
        first
         | exact oF
         | refine ⟨?_, oF⟩
           unfold B3n;rw[decide_eq_false (by rw[←ho1,A9j _ hnx];omega)]
      ·
       intro c3;try simp only[zA,zB,zC,zD,zE,zF,zG,zH,zI] at c3
       all_goals
        obtain⟨i,hi,hst,hno,hR⟩:=hs1 (by omega)
        have hnx:A2z ns out=some i:=B0d hi hno hR
        refine A2 ?_;simp only[go_sem];refine hK15 _ ?_;refine oW I1 ?_;simp (maxSteps:=2000000)only[go_sem];repeat(with_reducible refine oA ?_)
        refine hL4 ⟨out++[(i:Int)],by rw[←ho1,show ns.length - out.length=(ns.length - out.length - 1)+1 by omega,B0Q hnx,List.length_append];rfl,by simp;omega⟩ _ (oK ?_) ?_
        ·
         simp (maxSteps:=2000000)only[go_sem];all_goals((repeat' refine And.intro ?_ ?_)<;>first|rfl|(rw[hst];rfl)|simp[hst])
        ·
         simp only[List.length_append,List.length_cons,List.length_nil];omega
  intro c0;refine B6 ?_;simp only[go_sem];refine hK3 _ ?_;refine oS fun _ hK18=>?_;refine oW I1 ?_;simp only[go_sem];refine hK18 _ ?_;refine A0 ?_;simp only[hres,go_sem]
  first
   | exact oF
   | refine ⟨?_, oF⟩
     have he:C6 ns=out:=by rw[←ho1,show ns.length - out.length=0 by omega];rfl
     unfold B3n;rw[decide_eq_true (by rw[he];omega),he]
def A52:E4:=fun f=>if f=34 then some (.p A0s) else A6a f
theorem B13:B4 Tryz.prog A52:=E3 B5q (B0 Tryz.func34 rfl (by decide)) I1
attribute [go_sem] A52 A0s
set_option maxRecDepth 100000
set_option maxHeartbeats 1000000
def B2o:E4:=fun f=>match A49 f with
 | some k=>some k
 | none=>A52 f
theorem r7:B4 Tryz.prog B2o:=N2 A9Y B13
attribute [go_sem] B2o T0
def A5q:Con:=⟨[.ptr (.prod (.int .i64) (.prod (.row 26 (.row 2 (.int .i64))) (.prod (.row 95 (.prod (.int .i64) (.prod (.int .i64) (.prod (.int .i64) (.row 2 (.int .i64)))))) (.row 2 (.int .i64)))))],[⟨.bool,true⟩],fun _=>True,fun x=>B9 x.1⟩
theorem C3d:C9 Tryz.prog 15 A5q:=by
  refine A4 Tryz.func15 rfl ?_
  have hres:Tryz.f15.results.toList=[.tmp 2]:=rfl
  rintro⟨⟨(pi:Int),(ts:List (List Int)),(ns:List A6),(os:List Int)⟩,_⟩ hc hL
  simp only[A5q,go_sem] at hL
  obtain⟨⟨lts,lts2⟩,⟨lns,lns2⟩,los⟩:=hL
  simp only[A5q,St.init,St.initG,Tryz.ntmps15,go_sem] 
  refine oS fun _ hK1=>?_;refine oW r7 ?_;simp only[go_sem];repeat(with_reducible first|refine oA ?_|refine And.intro (by first|assumption) ?_)
  refine hK1 _ ?_;refine oS fun _ hK2=>?_;refine oS fun _ hK3=>?_;refine oW r7 ?_;simp only[go_sem];repeat(with_reducible first|refine oA ?_|refine And.intro (by first|assumption) ?_)
  refine hK3 _ ?_;refine oC rfl ?_ ?_
  ·
   intro c0;refine oS fun _ hK4=>?_;refine oW r7 ?_;simp only[go_sem];repeat(with_reducible first|refine oA ?_|refine And.intro (by first|assumption) ?_)
   refine hK4 _ ?_;refine A0 ?_;simp only[hres,go_sem];first|exact oF|(refine⟨?_,oF⟩;clear hK1 hK2 hK3 hK4;unfold B9;simp_all [B3n]<;>(split<;>simp_all))
  intro c0;refine A2 ?_;simp only[go_sem];refine hK2 _ ?_;refine oS fun _ hK5=>?_;refine oW r7 ?_;simp (maxSteps:=2000000)only[go_sem];repeat(with_reducible first|refine oA ?_|refine And.intro (by first|assumption) ?_)
  refine hK5 _ ?_;refine oS fun _ hK6=>?_;refine oW r7 ?_;simp only[go_sem];repeat(with_reducible first|refine oA ?_|refine And.intro (by first|assumption) ?_)
  refine hK6 _ ?_;refine A0 ?_;simp only[hres,go_sem];first|exact oF|(refine⟨?_,oF⟩;clear hK1 hK2 hK3 hK5 hK6;unfold B9;simp_all [B3n]<;>(split<;>simp_all))
def A4L:E4:=fun f=>if f=15 then some (.p A5q) else B2o f
theorem A2m:B4 Tryz.prog A4L:=E3 C3d (B0 Tryz.func15 rfl (by decide)) r7
attribute [go_sem] A4L A5q
def A5s:E4:=A4L
theorem A85:B4 Tryz.prog A5s:=A2m
attribute [go_sem] A5s
end Go.Proofs.YtgaogcnfijbahaaGreat
