/-
  Texts of this claim, joined (part 7). No condition beyond those of the theorems.
-/
import Derived.Test.YtenjbehedcegdaaGreatQ06
import Derived.Test.YtenjbehedcegdaaGreatQ04
namespace Go.Proofs.YtenjbehedcegdaaGreat
open Go.RowKit
set_option linter.unusedSimpArgs false
set_option linter.unusedVariables false
set_option maxRecDepth 100000
set_option maxHeartbeats 4000000
def A9X:G4:=fun f=>match A3q f with
 | some k=>some k
 | none=>t4 f
theorem M1:B5 Tryz.prog A9X:=W6 A4j D6
attribute [go_sem] A9X T0
def S5:Con:=⟨[.val ((.prod (.int .i64) (.prod (.row 26 (.row 2 (.int .i64))) (.prod (.row 67 (.prod (.int .i64) (.prod (.int .i64) (.prod (.int .i64) (.row 2 (.int .i64)))))) (.row 2 (.int .i64))))))],[⟨.bool,true⟩],fun _=>True,fun x=>E4 x.1⟩
theorem A55:C8 Tryz.prog 45 S5:=by
  refine A4 Tryz.func45 rfl ?_
  have hres:Tryz.f45.results.toList=[.tmp 2]:=rfl
  rintro⟨⟨(pi:Int),(ts:List (List Int)),(ns:List B1),(os:List Int)⟩,_⟩ hc hL
  simp only[S5,go_sem] at hL
  obtain⟨⟨lts,lts2⟩,⟨lns,lns2⟩,los⟩:=hL
  simp only[S5,St.init,St.initG,Tryz.ntmps45,go_sem] 
  refine oS fun _ hK1=>?_;refine oW M1 ?_;simp only[go_sem];repeat(with_reducible first|refine oA ?_|refine And.intro (by first|exact L8 (by omega) (by omega)) ?_)
  refine hK1 _ ?_;refine oS fun _ hK2=>?_;refine oW M1 ?_;simp only[go_sem];repeat(with_reducible first|refine oA ?_|refine And.intro (by first|exact L8 (by omega) (by omega)) ?_)
  refine hK2 _ ?_;refine oS fun _ hK3=>?_;refine oS fun _ hK4=>?_;refine oW M1 ?_;simp (maxSteps:=2000000)only[go_sem];repeat' (with_reducible first|refine oA ?_|refine And.intro (by first|exact L8 (by omega) (by omega)) ?_|refine oT (fun g2=>?_) (fun g2=>?_)|refine oE (fun g2=>?_) (fun g2=>?_))
  all_goals
   refine hK4 _ ?_;refine D5 rfl ?_ ?_
   ·
    intro c0;try simp only[zA,zB,zC,zD,zE,zF,zG,zH,zI] at c0
    all_goals
     refine oS fun _ hK5=>?_;refine oW M1 ?_;simp only[go_sem];repeat(with_reducible first|refine oA ?_|refine And.intro (by first|exact L8 (by omega) (by omega)) ?_)
     refine hK5 _ ?_;refine A0 ?_;simp only[hres,go_sem]
     first
      | exact oF
      | refine ⟨?_, oF⟩
        cases hh:E4 (pi,ts,ns,os) with
        | false=>rfl
        | true =>
          exfalso;obtain⟨p1,p2,p3,p4,p5,p6,p7⟩:=C0 hh
          have p8:=L8 p4 p5
          simp only at p1 p2 p3 p6 p8
          clear hK1 hK2 hK3 hK4 hK5;first|omega|(simp_all;done)
   ·
    intro c0;try simp only[zA,zB,zC,zD,zE,zF,zG,zH,zI] at c0
    all_goals
     have e1:ns.length≤24:=by omega
     have e2:os.length≤4:=by omega
     have hF:E4 (pi,ts,ns,os)=ns.all (S7 (pi,ts,ns,os)):=by clear hK1 hK2 hK3 hK4;unfold E4;simp only[decide_eq_true e1,decide_eq_true e2];simp_all
     refine A2 ?_;simp only[go_sem];refine hK3 _ ?_;refine oS fun _ hK6=>?_;refine oS fun _ hK7=>?_;refine oW M1 ?_;simp only[go_sem];repeat(with_reducible first|refine oA ?_|refine And.intro (by first|exact L8 (by omega) (by omega)) ?_)
     refine hK7 _ ?_;refine A3 ?_;refine A8 (ι:={ k:Nat // k≤ns.length∧(ns.take k).all (S7 (pi,ts,ns,os))=true }) (fun k=>⟨[zz,.c (.po 116 0),zz,.c (.sc (.int .i64 (ns.length))),zz,zz,zz,zz,zz,zz,zz,zz,zz,zz,zz,zz,zz,zz,zz,zz,zz,zz,zz,zz,zz,zz,zz,zz,zz,zz,zz,zz,zz,zz,zz,zz,zz,.c (.rd [] 67 ((.prod (.int .i64) (.prod (.int .i64) (.prod (.int .i64) (.row 2 (.int .i64)))))) (ns)),.c (.sc (.int .i64 (ns.length))),.c (.sc (.int .i64 (k.1))),zz,zz,zz,zz,zz,zz,zz,zz,zz,zz,zz,zz,zz,zz,zz,zz,zz,zz,zz,zz,zz,zz,zz,zz,zz,zz,zz,zz,zz],[(116,.box [.sc (.int .i64 (pi)),.rd [] 26 ((.row 2 (.int .i64))) (ts),.rd [] 67 ((.prod (.int .i64) (.prod (.int .i64) (.prod (.int .i64) (.row 2 (.int .i64)))))) (ns),.rd [] 2 (.int .i64) (os)])]⟩) (fun k=>ns.length - k.1) ⟨0,by simp⟩ ?_ ?_
     ·
      refine oK ?_;simp (maxSteps:=2000000)only[go_sem];all_goals(first|rfl|((repeat' refine And.intro ?_ ?_)<;>first|rfl|simp))
     rintro⟨k,hk,hp⟩ K8 hL8
     refine oS fun _ hK9=>?_;refine oW M1 ?_;simp only[go_sem];repeat(with_reducible first|refine oA ?_|refine And.intro (by first|exact L8 (by omega) (by omega)) ?_)
     refine hK9 _ ?_;refine oS fun _ hK10=>?_;refine D5 rfl ?_ ?_
     ·
      intro c1;try simp only[zA,zB,zC,zD,zE,zF,zG,zH,zI] at c1
      all_goals
       refine A2 ?_;simp only[go_sem];refine hK10 _ ?_;refine oS fun _ hK11=>?_;refine A3 ?_;refine oS fun _ hK12=>?_;refine oW M1 ?_;simp only[go_sem];repeat(with_reducible first|refine oA ?_|refine And.intro (by first|exact L8 (by omega) (by omega)) ?_)
       refine hK12 _ ?_;refine oS fun _ hK13=>?_
       refine oR M1
         [[],[],[1],[1,2],[0,1,2,3],[0,1,2,3,4],[0,1,2,3,4,5],[0,1,2,3,4,5,6],[0,1,2,3,4,5,6,7],[0,1,2,3,4,5,6],[0,1,2,3,4,5,6,7,8,9],[0,1,2,3,4,5,6,7,8,9,10],[0,1,2,3,4,5,6,7,8,9,10,11],[0,1,2,3,4,5,6,7,8,9,10,11,12],[0,1,2,3,4,5,6,7,8,9,10,11,12,13],[0,1,2,3,4,5,6,7,8,9,10,11,12,13,14],[0,1,2,3,4,5,6,7,8,9,10,11,12,13,14,15],[0,1,2,3,4,5,6,7,8,9,10,11,12,13,14,15,16],[0,1,2,3,4,5,6,7,8,9,10,11,12,13,14,15,16,17],[0,1,2,3,4,5,6,7,8,9,10,11,12,13,14,15,16,17,18],[0,1,2,3,4,5,6,7,8,9,10,11,12,13,14,15,16,17],[0,1,2,3,4,5,6,7,8,9,10,11,12,13,14,15,16,17,20],[0,1,2,3,4,5,6,7,8,9,10,11,12,13,14,15,16,17,18,19,20,21],[0,1,2,3,4,5,6,7,8,9,10,11,12,13,14,15,16,17,18,19,20,21,22],[0,1,2,3,4,5,6,7,8,9,10,11,12,13,14,15,16,17,18,19,20,21,22,23]]
         [[],[],[],[],[],[],[],[],[],[],[],[],[],[],[],[],[],[],[],[],[],[],[],[],[]]
         [[],[],[],[],[],[],[],[],[],[],[],[],[],[],[],[],[],[],[],[],[],[],[],[],[]] (by kernel_rfl) (by kernel_rfl) (A7 (acc:=[]) ?_)
       simp (maxSteps:=2000000)only[go_sem];repeat' (with_reducible first|refine oD ?_|refine And.intro (by first|exact L8 (by omega) (by omega)) ?_|refine oT (fun g7=>?_) (fun g7=>?_)|refine oE (fun g7=>?_) (fun g7=>?_))
       all_goals
        refine hK13 _ ?_;refine D5 rfl ?_ ?_
        ·
         intro c2;try simp only[zA,zB,zC,zD,zE,zF,zG,zH,zI] at c2
         all_goals
          refine oS fun _ hK14=>?_;refine oW M1 ?_;simp only[go_sem];repeat(with_reducible first|refine oA ?_|refine And.intro (by first|exact L8 (by omega) (by omega)) ?_)
          refine hK14 _ ?_;refine A0 ?_;simp only[hres,go_sem]
          first
           | exact oF
           | refine ⟨?_, oF⟩
             have hq:S7 (pi,ts,ns,os) (ns.getD k ((0,0,0,[]):B1))=false:=by
               cases hh:S7 (pi,ts,ns,os) (ns.getD k ((0,0,0,[]):B1)) with
               | false=>rfl
               | true =>
                 exfalso;obtain⟨q1,q2,q3⟩:=M6 hh
                 have q3:¬((ns.getD k ((0,0,0,[]):B1)).1=1∧pi≤(ns.getD k ((0,0,0,[]):B1)).2.1):=q3
                 first|omega|exact absurd q1 (by rw[Bool.not_eq_true];assumption)|exact absurd q2 (by rw[Bool.not_eq_true];assumption)
             rw[hF,M2 (k:=k) (d:=((0,0,0,[]):B1)) (by omega) hq]
        ·
         intro c2;try simp only[zA,zB,zC,zD,zE,zF,zG,zH,zI] at c2
         all_goals
          have hq:S7 (pi,ts,ns,os) (ns.getD k ((0,0,0,[]):B1))=true:=B5G (by assumption) (by assumption) (by show ¬((ns.getD k ((0,0,0,[]):B1)).1=1∧pi≤(ns.getD k ((0,0,0,[]):B1)).2.1);omega)
          refine A2 ?_;simp only[go_sem];refine hK11 _ ?_;refine oW M1 ?_;simp only[go_sem];repeat(with_reducible first|refine oA ?_|refine And.intro (by first|exact L8 (by omega) (by omega)) ?_)
          refine hL8 ⟨k+1,by omega,J6 (d:=((0,0,0,[]):B1)) (by omega) hp (by first|assumption|(clear hK1 hK2 hK3 hK4 hK6 hK7 hL8 hK9 hK10 hK11 hK12 hK13;simp_all))⟩ _ (oK ?_) ?_
          ·
           simp (maxSteps:=2000000)only[go_sem];first|rfl|exact wk (by omega)
          ·
           first|(simp only[];omega)|omega|(simp;omega)
     ·
      intro c1;try simp only[zA,zB,zC,zD,zE,zF,zG,zH,zI] at c1
      all_goals
       refine B6 ?_;simp only[go_sem];refine hK6 _ ?_;refine oS fun _ hK15=>?_;refine oW M1 ?_;simp only[go_sem];repeat(with_reducible first|refine oA ?_|refine And.intro (by first|exact L8 (by omega) (by omega)) ?_)
       refine hK15 _ ?_;refine A0 ?_;simp only[hres,go_sem];first|exact oF|(refine⟨?_,oF⟩;rw[hF,I7 hp (by omega)])
def x5:G4:=fun f=>if f=45 then some (.p S5) else A9X f
theorem A3g:B5 Tryz.prog x5:=F8 A55 (B0 Tryz.func45 rfl (by decide)) M1
attribute [go_sem] x5 S5
end Go.Proofs.YtenjbehedcegdaaGreat
