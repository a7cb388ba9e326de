/-
  Texts of this claim, joined (part 45). No condition beyond those of the theorems.
-/
import Derived.Test.YtenjbehedcegdaaGreatQ43
import Derived.Test.YtenjbehedcegdaaGreatQ44
namespace Go.Proofs.YtenjbehedcegdaaGreat
open Go.RowKit
set_option linter.unusedSimpArgs false
set_option linter.unusedVariables false
set_option maxRecDepth 100000
set_option maxHeartbeats 4000000
def A9Q:G4:=fun f=>match A5H f with
 | some k=>some k
 | none=>A1a f
theorem F6:B5 Tryz.prog A9Q:=W6 A66 H0
attribute [go_sem] A9Q T0
def i8:Con:=⟨[.ptr (.prod (.int .i64) (.prod (.row 26 (.row 2 (.int .i64))) (.prod (.row 67 (.prod (.int .i64) (.prod (.int .i64) (.prod (.int .i64) (.row 2 (.int .i64)))))) (.row 2 (.int .i64)))))],[⟨.bool,true⟩],fun _=>True,fun x=>E4 x.1⟩
theorem A87:C8 Tryz.prog 52 i8:=by
  refine A4 Tryz.func52 rfl ?_
  have hres:Tryz.f52.results.toList=[.tmp 2]:=rfl
  rintro⟨⟨(pi:Int),(ts:List (List Int)),(ns:List B1),(os:List Int)⟩,_⟩ hc hL
  simp only[i8,go_sem] at hL
  obtain⟨⟨lts,lts2⟩,⟨lns,lns2⟩,los⟩:=hL
  simp only[i8,St.init,St.initG,Tryz.ntmps52,go_sem] 
  refine oS fun _ hK1=>?_;refine oW F6 ?_;simp only[go_sem];refine hK1 _ ?_;refine oS fun _ hK2=>?_;refine oW F6 ?_;simp (maxSteps:=2000000)only[go_sem];repeat(with_reducible refine oA ?_)
  refine hK2 _ ?_;refine oS fun _ hK3=>?_;refine oS fun _ hK4=>?_;refine oW F6 ?_;simp (maxSteps:=2000000)only[go_sem];repeat' (with_reducible first|refine oA ?_|refine oT (fun g2=>?_) (fun g2=>?_)|refine oE (fun g2=>?_) (fun g2=>?_))
  all_goals
   refine hK4 _ ?_;refine D5 rfl ?_ ?_
   ·
    intro c0;try simp only[zA,zB,zC,zD,zE,zF,zG,zH,zI] at c0
    all_goals
     refine oS fun _ hK5=>?_;refine oW F6 ?_;simp only[go_sem];refine hK5 _ ?_;refine A0 ?_;simp only[hres,go_sem]
     first
      | exact oF
      | refine ⟨?_, oF⟩
        symm
        cases hh:E4 (pi,ts,ns,os) with
        | false=>rfl
        | true =>
          exfalso;obtain⟨p1,p2,p3,p4,p5,p6,p7⟩:=C0 hh
          have p8:=L8 p4 p5
          simp only at p1 p2 p3 p6 p8
          clear hK1 hK2 hK3 hK4 hK5;first|omega|(simp_all;done)
   ·
    intro c0;try simp only[zA,zB,zC,zD,zE,zF,zG,zH,zI] at c0
    all_goals
     have f1:I6 pi 0 4=true:=by clear hK1 hK2 hK3 hK4;simp_all
     have f2:Y6 ts=true:=by clear hK1 hK2 hK3 hK4;simp_all
     have f3:ns.length≤24:=by omega
     have f4:os.length≤4:=by omega
     have hwn:IntKind.i64.wrap ((ns.length:Int) - 1)=(ns.length:Int) - 1:=H4 (by omega)
     refine A2 ?_;simp only[go_sem];refine hK3 _ ?_;refine oS fun _ hK6=>?_;refine oS fun _ hK7=>?_;refine oW F6 ?_;simp only[go_sem];refine hK7 _ ?_;refine A3 ?_;refine A8 (ι:={ k:Nat // k≤ns.length∧(ns.take k).all (S7 (pi,ts,ns,os))=true }) (fun k=>⟨[.c (.pt [] ((.prod (.int .i64) (.prod (.row 26 (.row 2 (.int .i64))) (.prod (.row 67 (.prod (.int .i64) (.prod (.int .i64) (.prod (.int .i64) (.row 2 (.int .i64)))))) (.row 2 (.int .i64)))))) (pi,ts,ns,os) 0),zz,zz,.c (.sc (.int .i64 (ns.length))),.c (.sc (.int .i64 (k.1))),zz,zz,zz,zz,zz,zz,zz,zz,zz,zz,zz,zz,zz,zz,zz,zz,zz,zz,zz,zz,zz,zz,zz,zz,zz,zz,zz,zz,zz,zz,zz,zz,zz,zz,zz,zz,zz,zz,zz,zz,zz,zz,zz,zz,zz,zz,zz,zz,zz,zz,zz,zz,zz,zz,zz,zz,zz,zz,zz,zz,zz,zz,zz,zz,zz,zz,zz,zz,zz,zz,zz,zz,zz,zz,zz,zz,zz,zz,zz,zz,zz,zz,zz,zz,zz,zz,zz,zz,zz,zz,zz,zz,zz,zz,zz,zz,zz,zz,zz,zz,zz,zz,zz,zz,zz,zz,zz,zz,zz],[]⟩) (fun k=>ns.length - k.1) ⟨0,by simp⟩ ?_ ?_
     ·
      refine oK ?_;simp (maxSteps:=2000000)only[go_sem];all_goals(first|rfl|((repeat' refine And.intro ?_ ?_)<;>first|rfl|simp))
     rintro⟨k,hk,hp⟩ K8 hL8
     refine oS fun _ hK9=>?_;refine oS fun _ hK10=>?_;refine oW F6 ?_;simp only[go_sem];refine hK10 _ ?_;refine D5 rfl ?_ ?_
     ·
      intro c1;try simp only[zA,zB,zC,zD,zE,zF,zG,zH,zI] at c1
      all_goals
       refine A2 ?_;simp only[go_sem];refine hK9 _ ?_;refine oS fun _ hK11=>?_;refine A3 ?_;refine oS fun _ hK12=>?_;refine oW F6 ?_;simp (maxSteps:=2000000)only[go_sem];repeat(with_reducible refine oA ?_)
       refine hK12 _ ?_;refine W3 (O7 (ns.getD k ((0,0,0,[]):B1)) ts.length=true∧¬((ns.getD k ((0,0,0,[]):B1)).1=1∧pi≤(ns.getD k ((0,0,0,[]):B1)).2.1)) ⟨[.c (.pt [] ((.prod (.int .i64) (.prod (.row 26 (.row 2 (.int .i64))) (.prod (.row 67 (.prod (.int .i64) (.prod (.int .i64) (.prod (.int .i64) (.row 2 (.int .i64)))))) (.row 2 (.int .i64)))))) (pi,ts,ns,os) 0),zz,zz,.c (.sc (.int .i64 (ns.length))),.c (.sc (.int .i64 (k))),.c (.pt [] ((.prod (.int .i64) (.prod (.int .i64) (.prod (.int .i64) (.row 2 (.int .i64)))))) (ns.getD k ((0,0,0,[]):B1)) 0),zz,zz,zz,zz,zz,zz,zz,zz,zz,zz,zz,zz,zz,zz,zz,zz,zz,zz,zz,zz,zz,zz,zz,zz,zz,zz,zz,zz,zz,zz,zz,zz,zz,zz,zz,zz,zz,zz,zz,zz,zz,zz,zz,zz,zz,zz,zz,zz,zz,zz,zz,zz,zz,zz,zz,zz,zz,zz,zz,zz,zz,zz,zz,zz,zz,zz,zz,zz,zz,zz,zz,zz,zz,zz,zz,zz,zz,zz,zz,zz,zz,zz,zz,zz,zz,zz,zz,zz,zz,zz,zz,zz,zz,zz,zz,zz,zz,zz,zz,zz,zz,zz,zz,zz,zz,zz,zz,zz],[]⟩ ?_ fun _ hK13=>?_
       ·
        intro⟨hB,h3⟩
        refine oS fun _ hK14=>?_;refine oW F6 ?_;simp only[go_sem];refine hK14 _ ?_;refine A3 ?_;refine A8 (ι:={ m:Nat // m≤((ns.getD k ((0,0,0,[]):B1)).2.2.2).length∧(((ns.getD k ((0,0,0,[]):B1)).2.2.2).take m).all (fun f=>decide (f < (ns.length:Int)))=true }) (fun k'=>⟨[.c (.pt [] ((.prod (.int .i64) (.prod (.row 26 (.row 2 (.int .i64))) (.prod (.row 67 (.prod (.int .i64) (.prod (.int .i64) (.prod (.int .i64) (.row 2 (.int .i64)))))) (.row 2 (.int .i64)))))) (pi,ts,ns,os) 0),zz,zz,.c (.sc (.int .i64 (ns.length))),.c (.sc (.int .i64 (k))),.c (.pt [] ((.prod (.int .i64) (.prod (.int .i64) (.prod (.int .i64) (.row 2 (.int .i64)))))) (ns.getD k ((0,0,0,[]):B1)) 0),.c (.sc (.int .i64 (k'.1))),zz,zz,zz,zz,zz,zz,zz,zz,zz,zz,zz,zz,zz,zz,zz,zz,zz,zz,zz,zz,zz,zz,zz,zz,zz,zz,zz,zz,zz,zz,zz,zz,zz,zz,zz,zz,zz,zz,zz,zz,zz,zz,zz,zz,zz,zz,zz,zz,zz,zz,zz,zz,zz,zz,zz,zz,zz,zz,zz,zz,zz,zz,zz,zz,zz,zz,zz,zz,zz,zz,zz,zz,zz,zz,zz,zz,zz,zz,zz,zz,zz,zz,zz,zz,zz,zz,zz,zz,zz,zz,zz,zz,zz,zz,zz,zz,zz,zz,zz,zz,zz,zz,zz,zz,zz,zz,zz],[]⟩) (fun k'=>((ns.getD k ((0,0,0,[]):B1)).2.2.2).length - k'.1) ⟨0,by simp,by simp⟩ ?_ ?_
        ·
         refine oK ?_;simp (maxSteps:=2000000)only[go_sem];all_goals(first|rfl|((repeat' refine And.intro ?_ ?_)<;>first|rfl|simp))
        rintro⟨m,hm,hq⟩ K15 hL15
        have hwb:((ns.getD k ((0,0,0,[]):B1)).2.2.2).length≤9223372036854775807:=lns2 _ (C6 (by omega))
        refine oS fun _ hK16=>?_;refine oS fun _ hK17=>?_;refine oW F6 ?_;simp (maxSteps:=2000000)only[go_sem];repeat(with_reducible refine oA ?_)
        refine hK17 _ ?_;refine oC rfl ?_ ?_
        ·
         intro c3;refine A2 ?_;simp only[go_sem];refine hK16 _ ?_;refine oS fun _ hK18=>?_;refine A3 ?_;refine oS fun _ hK19=>?_;refine oW F6 ?_;simp (maxSteps:=2000000)only[go_sem];repeat(with_reducible refine oA ?_)
         refine hK19 _ ?_;refine oC rfl ?_ ?_
         ·
          intro c4;refine oS fun _ hK20=>?_;refine oW F6 ?_;simp only[go_sem];refine hK20 _ ?_;refine A0 ?_;simp only[hres,go_sem]
          first
           | exact oF
           | refine ⟨?_, oF⟩
             symm
             cases hh:E4 (pi,ts,ns,os) with
             | false=>rfl
             | true =>
               exfalso;obtain⟨p1,p2,p3,p4,p5,p6,p7⟩:=C0 hh
               have p8:=L8 p4 p5
               simp only at p1 p2 p3 p6 p8
               have q:=List.all_eq_true.1 p7 _ (C6 (d:=((0,0,0,[]):B1)) (i:=k) (by show k < ns.length;omega))
               obtain⟨q1,q2,q3⟩:=M6 q
               have q3:¬((ns.getD k ((0,0,0,[]):B1)).1=1∧pi≤(ns.getD k ((0,0,0,[]):B1)).2.1):=q3
               have q2:N2 (ns.length:Int) (ns.getD k ((0,0,0,[]):B1)).2.2.2=true:=q2
               have q4:=O1 q2 (C6 (d:=0) (i:=m) (by omega))
               omega
         intro c4;refine A2 ?_;simp only[go_sem];refine hK18 _ ?_;refine oW F6 ?_;simp only[go_sem];refine hL15 ⟨m+1,by omega,J6 (d:=0) (by omega) hq (decide_eq_true (by omega))⟩ _ (oK ?_) ?_
         ·
          simp (maxSteps:=2000000)only[go_sem];all_goals(first|rfl|((repeat' refine And.intro ?_ ?_)<;>first|rfl|exact wk (by omega)|simp))
         ·
          first|(simp only[];omega)|omega|(simp;omega)
        intro c3;refine B6 ?_;simp only[go_sem];refine hK11 _ ?_;refine oW F6 ?_;simp only[go_sem];refine hL8 ⟨k+1,by omega,J6 (d:=((0,0,0,[]):B1)) (by omega) hp (B4V hB h3 (fun f hf=>by have:=List.all_eq_true.1 (I7 hq (by omega)) f hf;simpa using this))⟩ _ (oK ?_) ?_
        ·
         simp (maxSteps:=2000000)only[go_sem];first|rfl|exact wk (by omega)
        ·
         first|(simp only[];omega)|omega|(simp;omega)
       refine oS fun _ hK21=>?_
       refine oR F6
         [[],[],[1],[1,2],[1,2,3],[1,2,3,4],[0,1,2,3,4,5],[0,1,2,3,4,5,6],[0,1,2,3,4,5,6,7],[0,1,2,3,4,5,6,7,8],[0,1,2,3,4,5,6,7,8,9],[0,1,2,3,4,5,6,7,8,9,10],[0,1,2,3,4,5,6,7,8,9,10,11],[0,1,2,3,4,5,6,7,8,9,10,11,12],[0,1,2,3,4,5,6,7,8,9,10,11,12,13],[0,1,2,3,4,5,6,7,8,9,10,11,12,13,14],[0,1,2,3,4,5,6,7,8,9,10,11,12,13,14,15],[0,1,2,3,4,5,6,7,8,9,10,11,12,13,14,15,16],[0,1,2,3,4,5,6,7,8,9,10,11,12,13,14,15,16,17],[0,1,2,3,4,5,6,7,8,9,10,11,12,13,14],[0,1,2,3,4,5,6,7,8,9,10,11,12,13,14,19],[0,1,2,3,4,5,6,7,8,9,10,11,12,13,14,19,20],[0,1,2,3,4,5,6,7,8,9,10,11,12,13,14,19,20,21],[0,1,2,3,4,5,6,7,8,9,10,11,12,13,14,15,16,17,18,19,20,21,22],[0,1,2,3,4,5,6,7,8,9,10,11,12,13,14,15,16,17,18,19,20,21,22,23],[0,1,2,3,4,5,6,7,8,9,10,11,12,13,14,15,16,17,18,19,20,21,22,23,24]]
         [[],[],[],[],[],[],[],[],[],[],[],[],[],[],[],[],[],[],[],[],[],[],[],[],[],[]]
         [[],[],[],[],[],[],[],[],[],[],[],[],[],[],[],[],[],[],[],[],[],[],[],[],[],[]] (by kernel_rfl) (by kernel_rfl) (A7 (acc:=[]) ?_)
       simp (maxSteps:=2000000)only[go_sem];repeat' (with_reducible first|refine oD ?_|refine oT (fun g8=>?_) (fun g8=>?_)|refine oE (fun g8=>?_) (fun g8=>?_))
       all_goals
        refine hK21 _ ?_;refine D5 rfl ?_ ?_
        ·
         intro c2;try simp only[zA,zB,zC,zD,zE,zF,zG,zH,zI] at c2
         all_goals
          refine oS fun _ hK22=>?_;refine oW F6 ?_;simp only[go_sem];refine hK22 _ ?_;refine A0 ?_;simp only[hres,go_sem]
          first
           | exact oF
           | refine ⟨?_, oF⟩
             symm
             cases hh:E4 (pi,ts,ns,os) with
             | false=>rfl
             | true =>
               exfalso;obtain⟨p1,p2,p3,p4,p5,p6,p7⟩:=C0 hh
               have p8:=L8 p4 p5
               simp only at p1 p2 p3 p6 p8
               have q:=List.all_eq_true.1 p7 _ (C6 (d:=((0,0,0,[]):B1)) (i:=k) (by show k < ns.length;omega))
               obtain⟨q1,q2,q3⟩:=M6 q
               have q3:¬((ns.getD k ((0,0,0,[]):B1)).1=1∧pi≤(ns.getD k ((0,0,0,[]):B1)).2.1):=q3
               have q2:N2 (ns.length:Int) (ns.getD k ((0,0,0,[]):B1)).2.2.2=true:=q2
               first|omega|exact absurd q1 (by rw[Bool.not_eq_true];assumption)
        ·
         intro c2;try simp only[zA,zB,zC,zD,zE,zF,zG,zH,zI] at c2
         all_goals
          refine A2 ?_;simp only[go_sem];refine hK13 _ (oK ?_) ?_
          ·
           simp (maxSteps:=2000000)only[go_sem];all_goals(first|rfl|((repeat' refine And.intro ?_ ?_)<;>first|rfl|exact wk (by omega)|simp))
          ·
           exact⟨by assumption,by omega⟩
     ·
      intro c1;try simp only[zA,zB,zC,zD,zE,zF,zG,zH,zI] at c1
      all_goals
       have hN:ns.all (S7 (pi,ts,ns,os))=true:=I7 hp (by omega)
       refine B6 ?_;simp only[go_sem];refine hK6 _ ?_;refine oS fun _ hK23=>?_;refine oS fun _ hK24=>?_;refine oW F6 ?_;simp only[go_sem];refine hK24 _ ?_;refine A3 ?_;refine A8 (ι:={ k:Nat // k≤os.length∧(os.take k).all (fun i=>I6 i 0 ((ns.length:Int) - 1))=true }) (fun k=>⟨[.c (.pt [] ((.prod (.int .i64) (.prod (.row 26 (.row 2 (.int .i64))) (.prod (.row 67 (.prod (.int .i64) (.prod (.int .i64) (.prod (.int .i64) (.row 2 (.int .i64)))))) (.row 2 (.int .i64)))))) (pi,ts,ns,os) 0),zz,zz,.c (.sc (.int .i64 (ns.length))),zz,zz,zz,.c (.sc (.int .i64 (k.1))),zz,zz,zz,zz,zz,zz,zz,zz,zz,zz,zz,zz,zz,zz,zz,zz,zz,zz,zz,zz,zz,zz,zz,zz,zz,zz,zz,zz,zz,zz,zz,zz,zz,zz,zz,zz,zz,zz,zz,zz,zz,zz,zz,zz,zz,zz,zz,zz,zz,zz,zz,zz,zz,zz,zz,zz,zz,zz,zz,zz,zz,zz,zz,zz,zz,zz,zz,zz,zz,zz,zz,zz,zz,zz,zz,zz,zz,zz,zz,zz,zz,zz,zz,zz,zz,zz,zz,zz,zz,zz,zz,zz,zz,zz,zz,zz,zz,zz,zz,zz,zz,zz,zz,zz,zz,zz],[]⟩) (fun k=>os.length - k.1) ⟨0,by simp⟩ ?_ ?_
       ·
        refine oK ?_;simp (maxSteps:=2000000)only[go_sem];all_goals(first|rfl|((repeat' refine And.intro ?_ ?_)<;>first|rfl|simp))
       rintro⟨k,hk,hp⟩ K25 hL25
       refine oS fun _ hK26=>?_;refine oS fun _ hK27=>?_;refine oW F6 ?_;simp (maxSteps:=2000000)only[go_sem];repeat(with_reducible refine oA ?_)
       refine hK27 _ ?_;refine D5 rfl ?_ ?_
       ·
        intro c5;try simp only[zA,zB,zC,zD,zE,zF,zG,zH,zI] at c5
        all_goals
         refine A2 ?_;simp only[go_sem];refine hK26 _ ?_;refine oS fun _ hK28=>?_;refine A3 ?_;refine oS fun _ hK29=>?_;refine oW F6 ?_;simp (maxSteps:=2000000)only[hwn,go_sem];repeat(with_reducible refine oA ?_)
         refine hK29 _ ?_;refine D5 rfl ?_ ?_
         ·
          intro c6;try simp only[zA,zB,zC,zD,zE,zF,zG,zH,zI] at c6
          all_goals
           refine oS fun _ hK30=>?_;refine oW F6 ?_;simp only[go_sem];refine hK30 _ ?_;refine A0 ?_;simp only[hres,go_sem]
           first
            | exact oF
            | refine ⟨?_, oF⟩
              symm
              cases hh:E4 (pi,ts,ns,os) with
              | false=>rfl
              | true =>
                exfalso;obtain⟨p1,p2,p3,p4,p5,p6,p7⟩:=C0 hh
                have p8:=L8 p4 p5
                simp only at p1 p2 p3 p6 p8
                have q4:=List.all_eq_true.1 p6 _ (C6 (d:=0) (i:=k) (by omega))
                simp_all
         ·
          intro c6;try simp only[zA,zB,zC,zD,zE,zF,zG,zH,zI] at c6
          all_goals
           refine A2 ?_;simp only[go_sem];refine hK28 _ ?_;refine oW F6 ?_;simp only[go_sem];refine hL25 ⟨k+1,by omega,J6 (d:=0) (by omega) hp (by first|assumption|(clear hK1 hK2 hK3 hK4 hK6 hK7 hL8 hK9 hK10 hK23 hK24 hL25 hK26 hK27 hK28 hK29;simp_all))⟩ _ (oK ?_) ?_
           ·
            simp (maxSteps:=2000000)only[go_sem];first|rfl|exact wk (by omega)
           ·
            first|(simp only[];omega)|omega|(simp;omega)
       ·
        intro c5;try simp only[zA,zB,zC,zD,zE,zF,zG,zH,zI] at c5
        all_goals
         refine B6 ?_;simp only[go_sem];refine hK23 _ ?_;refine oS fun _ hK31=>?_;refine oW F6 ?_;simp only[go_sem];refine hK31 _ ?_;refine A0 ?_;simp only[hres,go_sem]
         first
          | exact oF
          | refine ⟨?_, oF⟩
            have hO:N2 (ns.length:Int) os=true:=I7 hp (by omega)
            unfold E4;simp only[f1,f2,decide_eq_true f3,decide_eq_true f4,hN,hO,Bool.true_and]
def A1b:G4:=fun f=>if f=52 then some (.p i8) else A9Q f
theorem A6C:B5 Tryz.prog A1b:=F8 A87 (B0 Tryz.func52 rfl (by decide)) F6
attribute [go_sem] A1b i8
end Go.Proofs.YtenjbehedcegdaaGreat
