/-
  Texts of this claim, joined (part 43). No condition beyond those of the theorems.
-/
import Derived.Test.YtgaogcnfijbahaaGreatQ42
import Derived.Test.YtgaogcnfijbahaaGreatQ04
namespace Go.Proofs.YtgaogcnfijbahaaGreat
open Go.RowKit
set_option linter.unusedSimpArgs false
set_option linter.unusedVariables false
set_option maxRecDepth 100000
set_option maxHeartbeats 4000000
def B47:E4:=fun f=>match B0Z f with
 | some k=>some k
 | none=>A2d f
theorem O5:B4 Tryz.prog B47:=N2 B6H E0
attribute [go_sem] B47 T0
def W8:Con:=⟨[.val ((.prod (.int .i64) (.prod (.row 26 (.row 2 (.int .i64))) (.prod (.row 95 (.prod (.int .i64) (.prod (.int .i64) (.prod (.int .i64) (.row 2 (.int .i64)))))) (.row 2 (.int .i64))))))],[⟨.bool,true⟩],fun _=>True,fun x=>C0 x.1⟩
theorem A8G:C9 Tryz.prog 73 W8:=by
  refine A4 Tryz.func73 rfl ?_
  have hres:Tryz.f73.results.toList=[.tmp 2]:=rfl
  rintro⟨⟨(pi:Int),(ts:List (List Int)),(ns:List A6),(os:List Int)⟩,_⟩ hc hL
  simp only[W8,go_sem] at hL
  obtain⟨⟨lts,lts2⟩,⟨lns,lns2⟩,los⟩:=hL
  simp only[W8,St.init,St.initG,Tryz.ntmps73,go_sem] 
  refine oS fun _ hK1=>?_;refine oW O5 ?_;simp only[go_sem];repeat(with_reducible first|refine oA ?_|refine And.intro (by first|exact J8 (by omega) (by omega)) ?_)
  refine hK1 _ ?_;refine oS fun _ hK2=>?_;refine oW O5 ?_;simp only[go_sem];repeat(with_reducible first|refine oA ?_|refine And.intro (by first|exact J8 (by omega) (by omega)) ?_)
  refine hK2 _ ?_;refine oS fun _ hK3=>?_;refine oS fun _ hK4=>?_;refine oW O5 ?_;simp (maxSteps:=2000000)only[go_sem];repeat' (with_reducible first|refine oA ?_|refine And.intro (by first|exact J8 (by omega) (by omega)) ?_|refine oT (fun g2=>?_) (fun g2=>?_)|refine oE (fun g2=>?_) (fun g2=>?_))
  all_goals
   refine hK4 _ ?_;refine E2 rfl ?_ ?_
   ·
    intro c0;try simp only[zA,zB,zC,zD,zE,zF,zG,zH,zI] at c0
    all_goals
     refine oS fun _ hK5=>?_;refine oW O5 ?_;simp only[go_sem];repeat(with_reducible first|refine oA ?_|refine And.intro (by first|exact J8 (by omega) (by omega)) ?_)
     refine hK5 _ ?_;refine A0 ?_;simp only[hres,go_sem]
     first
      | exact oF
      | refine ⟨?_, oF⟩
        cases hh:C0 (pi,ts,ns,os) with
        | false=>rfl
        | true =>
          exfalso;obtain⟨p1,p2,p3,p4,p5,p6,p7⟩:=A8 hh
          have p8:=J8 p4 p5
          simp only at p1 p2 p3 p6 p8
          clear hK1 hK2 hK3 hK4 hK5;first|omega|(simp_all;done)
   ·
    intro c0;try simp only[zA,zB,zC,zD,zE,zF,zG,zH,zI] at c0
    all_goals
     have e1:ns.length≤24:=by omega
     have e2:os.length≤4:=by omega
     have hF:C0 (pi,ts,ns,os)=ns.all (X7 (pi,ts,ns,os)):=by clear hK1 hK2 hK3 hK4;unfold C0;simp only[decide_eq_true e1,decide_eq_true e2];simp_all
     refine A2 ?_;simp only[go_sem];refine hK3 _ ?_;refine oS fun _ hK6=>?_;refine oS fun _ hK7=>?_;refine oW O5 ?_;simp only[go_sem];repeat(with_reducible first|refine oA ?_|refine And.intro (by first|exact J8 (by omega) (by omega)) ?_)
     refine hK7 _ ?_;refine A1 ?_;refine A7 (ι:={ k:Nat // k≤ns.length∧(ns.take k).all (X7 (pi,ts,ns,os))=true }) (fun k=>⟨[zz,.c (.po 116 0),zz,.c (.sc (.int .i64 (ns.length))),zz,zz,zz,zz,zz,zz,zz,zz,zz,zz,zz,zz,zz,zz,zz,zz,zz,zz,zz,zz,zz,zz,zz,zz,zz,zz,zz,zz,zz,zz,zz,zz,zz,.c (.rd [] 95 ((.prod (.int .i64) (.prod (.int .i64) (.prod (.int .i64) (.row 2 (.int .i64)))))) (ns)),.c (.sc (.int .i64 (ns.length))),.c (.sc (.int .i64 (k.1))),zz,zz,zz,zz,zz,zz,zz,zz,zz,zz,zz,zz,zz,zz,zz,zz,zz,zz,zz,zz,zz,zz,zz,zz,zz,zz,zz,zz,zz],[(116,.box [.sc (.int .i64 (pi)),.rd [] 26 ((.row 2 (.int .i64))) (ts),.rd [] 95 ((.prod (.int .i64) (.prod (.int .i64) (.prod (.int .i64) (.row 2 (.int .i64)))))) (ns),.rd [] 2 (.int .i64) (os)])]⟩) (fun k=>ns.length - k.1) ⟨0,by simp⟩ ?_ ?_
     ·
      refine oK ?_;simp (maxSteps:=2000000)only[go_sem];all_goals(first|rfl|((repeat' refine And.intro ?_ ?_)<;>first|rfl|simp))
     rintro⟨k,hk,hp⟩ K8 hL8
     refine oS fun _ hK9=>?_;refine oW O5 ?_;simp only[go_sem];repeat(with_reducible first|refine oA ?_|refine And.intro (by first|exact J8 (by omega) (by omega)) ?_)
     refine hK9 _ ?_;refine oS fun _ hK10=>?_;refine E2 rfl ?_ ?_
     ·
      intro c1;try simp only[zA,zB,zC,zD,zE,zF,zG,zH,zI] at c1
      all_goals
       refine A2 ?_;simp only[go_sem];refine hK10 _ ?_;refine oS fun _ hK11=>?_;refine A1 ?_;refine oS fun _ hK12=>?_;refine oW O5 ?_;simp only[go_sem];repeat(with_reducible first|refine oA ?_|refine And.intro (by first|exact J8 (by omega) (by omega)) ?_)
       refine hK12 _ ?_;refine oS fun _ hK13=>?_
       refine oR O5
         [[],[],[1],[1,2],[0,1,2,3],[0,1,2,3,4],[0,1,2,3,4,5],[0,1,2,3,4,5,6],[0,1,2,3,4,5,6,7],[0,1,2,3,4,5,6],[0,1,2,3,4,5,6,7,8,9],[0,1,2,3,4,5,6,7,8,9,10],[0,1,2,3,4,5,6,7,8,9,10,11],[0,1,2,3,4,5,6,7,8,9,10,11,12],[0,1,2,3,4,5,6,7,8,9,10,11,12,13],[0,1,2,3,4,5,6,7,8,9,10,11,12,13,14],[0,1,2,3,4,5,6,7,8,9,10,11,12,13,14,15],[0,1,2,3,4,5,6,7,8,9,10,11,12,13,14,15,16],[0,1,2,3,4,5,6,7,8,9,10,11,12,13,14,15,16,17],[0,1,2,3,4,5,6,7,8,9,10,11,12,13,14,15,16,17,18],[0,1,2,3,4,5,6,7,8,9,10,11,12,13,14,15,16,17],[0,1,2,3,4,5,6,7,8,9,10,11,12,13,14,15,16,17,20],[0,1,2,3,4,5,6,7,8,9,10,11,12,13,14,15,16,17,18,19,20,21],[0,1,2,3,4,5,6,7,8,9,10,11,12,13,14,15,16,17,18,19,20,21,22],[0,1,2,3,4,5,6,7,8,9,10,11,12,13,14,15,16,17,18,19,20,21,22,23]]
         [[],[],[],[],[],[],[],[],[],[],[],[],[],[],[],[],[],[],[],[],[],[],[],[],[]]
         [[],[],[],[],[],[],[],[],[],[],[],[],[],[],[],[],[],[],[],[],[],[],[],[],[]] (by kernel_rfl) (by kernel_rfl) (A9 (acc:=[]) ?_)
       simp (maxSteps:=2000000)only[go_sem];repeat' (with_reducible first|refine oD ?_|refine And.intro (by first|exact J8 (by omega) (by omega)) ?_|refine oT (fun g7=>?_) (fun g7=>?_)|refine oE (fun g7=>?_) (fun g7=>?_))
       all_goals
        refine hK13 _ ?_;refine E2 rfl ?_ ?_
        ·
         intro c2;try simp only[zA,zB,zC,zD,zE,zF,zG,zH,zI] at c2
         all_goals
          refine oS fun _ hK14=>?_;refine oW O5 ?_;simp only[go_sem];repeat(with_reducible first|refine oA ?_|refine And.intro (by first|exact J8 (by omega) (by omega)) ?_)
          refine hK14 _ ?_;refine A0 ?_;simp only[hres,go_sem]
          first
           | exact oF
           | refine ⟨?_, oF⟩
             have hq:X7 (pi,ts,ns,os) (ns.getD k ((0,0,0,[]):A6))=false:=by
               cases hh:X7 (pi,ts,ns,os) (ns.getD k ((0,0,0,[]):A6)) with
               | false=>rfl
               | true =>
                 exfalso;obtain⟨q1,q2,q3⟩:=G6 hh
                 have q3:¬((ns.getD k ((0,0,0,[]):A6)).1=1∧pi≤(ns.getD k ((0,0,0,[]):A6)).2.1):=q3
                 first|omega|exact absurd q1 (by rw[Bool.not_eq_true];assumption)|exact absurd q2 (by rw[Bool.not_eq_true];assumption)
             rw[hF,N5 (k:=k) (d:=((0,0,0,[]):A6)) (by omega) hq]
        ·
         intro c2;try simp only[zA,zB,zC,zD,zE,zF,zG,zH,zI] at c2
         all_goals
          have hq:X7 (pi,ts,ns,os) (ns.getD k ((0,0,0,[]):A6))=true:=B4A (by assumption) (by assumption) (by show ¬((ns.getD k ((0,0,0,[]):A6)).1=1∧pi≤(ns.getD k ((0,0,0,[]):A6)).2.1);omega)
          refine A2 ?_;simp only[go_sem];refine hK11 _ ?_;refine oW O5 ?_;simp only[go_sem];repeat(with_reducible first|refine oA ?_|refine And.intro (by first|exact J8 (by omega) (by omega)) ?_)
          refine hL8 ⟨k+1,by omega,L6 (d:=((0,0,0,[]):A6)) (by omega) hp (by first|assumption|(clear hK1 hK2 hK3 hK4 hK6 hK7 hL8 hK9 hK10 hK11 hK12 hK13;simp_all))⟩ _ (oK ?_) ?_
          ·
           simp (maxSteps:=2000000)only[go_sem];first|rfl|exact wk (by omega)
          ·
           first|(simp only[];omega)|omega|(simp;omega)
     ·
      intro c1;try simp only[zA,zB,zC,zD,zE,zF,zG,zH,zI] at c1
      all_goals
       refine B6 ?_;simp only[go_sem];refine hK6 _ ?_;refine oS fun _ hK15=>?_;refine oW O5 ?_;simp only[go_sem];repeat(with_reducible first|refine oA ?_|refine And.intro (by first|exact J8 (by omega) (by omega)) ?_)
       refine hK15 _ ?_;refine A0 ?_;simp only[hres,go_sem];first|exact oF|(refine⟨?_,oF⟩;rw[hF,L3 hp (by omega)])
def A0u:E4:=fun f=>if f=73 then some (.p W8) else B47 f
theorem A6Z:B4 Tryz.prog A0u:=E3 A8G (B0 Tryz.func73 rfl (by decide)) O5
attribute [go_sem] A0u W8
set_option maxRecDepth 100000
set_option maxHeartbeats 4000000
def A6S:Con:=⟨[.val ((.prod (.int .i64) (.prod (.row 26 (.row 2 (.int .i64))) (.prod (.row 95 (.prod (.int .i64) (.prod (.int .i64) (.prod (.int .i64) (.row 2 (.int .i64)))))) (.row 2 (.int .i64))))))],[⟨(.row 2 (.int .i64)),true⟩],fun x=>C0 x.1=true,fun x=>C6 x.1.2.2.1⟩
theorem C1y:C9 Tryz.prog 74 A6S:=by
  refine A4 Tryz.func74 rfl ?_
  have hres:Tryz.f74.results.toList=[.tmp 2]:=rfl
  rintro⟨⟨(pi:Int),(ts:List (List Int)),(ns:List A6),(os:List Int)⟩,_⟩ hc hL
  simp only[A6S,go_sem] at hL
  obtain⟨⟨lts,lts2⟩,⟨lns,lns2⟩,los⟩:=hL
  simp only[A6S,St.init,St.initG,Tryz.ntmps74,go_sem] 
  have hfm:C0 (pi,ts,ns,os)=true:=hc
  have hn24:ns.length≤24:=(A8 hfm).1
  refine oS fun _ hK1=>?_;refine oW E0 ?_;simp only[go_sem];refine hK1 _ ?_;refine oS fun _ hK2=>?_;refine oW E0 ?_;simp (maxSteps:=2000000)only[go_sem];repeat(with_reducible refine oA ?_)
  refine hK2 _ ?_;refine oS fun _ hK3=>?_;refine oW E0 ?_;simp only[go_sem];repeat(with_reducible refine oA ?_)
  refine hK3 _ ?_;refine oS fun _ hK4=>?_;refine oS fun _ hK5=>?_;refine oW E0 ?_;simp only[go_sem];refine hK5 _ ?_;refine A1 ?_;refine A7 (ι:={ s:List Bool × List Int × Bool // OrdI ns s.1 s.2.1∧(s.2.2=false→A2z ns s.2.1=none) }) (fun k=>⟨[zz,.c (.po 116 0),zz,.c (.ow 9001),.c (.ow 9002),.c (.sc (.bool (k.1.2.2))),zz,zz,zz,zz,zz,zz,zz,zz,zz,zz,zz,zz,zz,zz,zz,zz,zz,zz,zz,zz,zz,zz,zz,zz,zz,zz,zz,zz,zz,zz,zz,zz,zz,zz,zz,zz,zz,zz,zz,zz,zz,zz,zz,zz,zz,zz,zz,zz,zz],[(116,.box [.sc (.int .i64 (pi)),.rd [] 26 ((.row 2 (.int .i64))) (ts),.rd [] 95 ((.prod (.int .i64) (.prod (.int .i64) (.prod (.int .i64) (.row 2 (.int .i64)))))) (ns),.rd [] 2 (.int .i64) (os)]),(9001,.row 4 (.bool) (k.1.1) []),(9002,.row 2 (.int .i64) (k.1.2.1) [])]⟩) (fun k=>2 * k.1.1.count false+(if k.1.2.2=true then 1 else 0)) ⟨(List.replicate ns.length false,[],true),B7y ns,by simp⟩ ?_ ?_
  ·
   refine oK ?_;simp (maxSteps:=2000000)only[go_sem];all_goals(first|rfl|((repeat' refine And.intro ?_ ?_)<;>first|rfl|simp))
  rintro⟨⟨tk,out,fd⟩,hI,hfin⟩ K6 hL6
  simp only at hI hfin
  have hl1:=hI.1
  have hl2:=C1v hI
  refine oS fun _ hK7=>?_;refine oS fun _ hK8=>?_;refine oW E0 ?_;simp only[go_sem];refine hK8 _ ?_;refine oC rfl ?_ ?_
  ·
   intro c0;refine A2 ?_;simp only[go_sem];refine hK7 _ ?_;refine A1 ?_;refine oS fun _ hK9=>?_;refine oW E0 ?_;simp only[go_sem];refine hK9 _ ?_;refine oS fun _ hK10=>?_;refine oW E0 ?_;simp only[go_sem];repeat(with_reducible refine oA ?_)
   refine hK10 _ ?_;refine A1 ?_;refine A7 (ι:={ i:Nat // i≤ns.length∧∀j,j < i→U1 ns out j=false }) (fun k=>⟨[zz,.c (.po 116 0),zz,.c (.ow 9001),.c (.ow 9002),.c (.sc (.bool (false))),zz,zz,zz,zz,zz,zz,zz,zz,zz,zz,zz,zz,.c (.rd [] 95 ((.prod (.int .i64) (.prod (.int .i64) (.prod (.int .i64) (.row 2 (.int .i64)))))) (ns)),.c (.sc (.int .i64 (ns.length))),.c (.sc (.int .i64 (k.1))),zz,zz,zz,zz,zz,zz,zz,zz,zz,zz,zz,zz,zz,zz,zz,zz,zz,zz,zz,zz,zz,zz,zz,zz,zz,zz,zz,zz,zz,zz,zz,zz,zz,zz],[(116,.box [.sc (.int .i64 (pi)),.rd [] 26 ((.row 2 (.int .i64))) (ts),.rd [] 95 ((.prod (.int .i64) (.prod (.int .i64) (.prod (.int .i64) (.row 2 (.int .i64)))))) (ns),.rd [] 2 (.int .i64) (os)]),(9001,.row 4 (.bool) (tk) []),(9002,.row 2 (.int .i64) (out) [])]⟩) (fun k=>ns.length - k.1) ⟨0,by simp,by simp⟩ ?_ ?_
   ·
    refine oK ?_;simp (maxSteps:=2000000)only[go_sem];all_goals(first|rfl|((repeat' refine And.intro ?_ ?_)<;>first|rfl|simp))
   rintro⟨i,hi,hno⟩ K11 hL11
   refine oS fun _ hK12=>?_;refine oW E0 ?_;simp only[go_sem];refine hK12 _ ?_;refine oS fun _ hK13=>?_;refine oC rfl ?_ ?_
   ·
    intro c1;refine A2 ?_;simp only[go_sem];refine hK13 _ ?_;refine oS fun _ hK14=>?_;refine A1 ?_;refine oS fun _ hK15=>?_;refine oW E0 ?_;simp (maxSteps:=2000000)only[go_sem];repeat(with_reducible refine oA ?_)
    refine hK15 _ ?_;refine oS fun _ hK16=>?_;refine oW E0 ?_;simp (maxSteps:=2000000)only[go_sem];repeat(with_reducible refine oA ?_)
    refine hK16 _ ?_;refine oS fun _ hK17=>?_;refine oS fun _ hK18=>?_;refine oW E0 ?_;simp only[go_sem];repeat(with_reducible refine oA ?_)
    refine hK18 _ ?_;refine A1 ?_;refine A7 (ι:={ m:Nat // m≤(J5 (ns.getD i n0)).length }) (fun k=>⟨[zz,.c (.po 116 0),zz,.c (.ow 9001),.c (.ow 9002),.c (.sc (.bool (false))),.c (.sc (.int .i64 (i))),zz,.c (.sc (.bool (!tk.getD i false && ((J5 (ns.getD i n0)).take k.1).all (fun f=>out.contains f)))),zz,zz,zz,zz,zz,zz,zz,zz,zz,.c (.rd [] 95 ((.prod (.int .i64) (.prod (.int .i64) (.prod (.int .i64) (.row 2 (.int .i64)))))) (ns)),.c (.sc (.int .i64 (ns.length))),.c (.sc (.int .i64 (i))),zz,zz,zz,zz,zz,zz,zz,zz,zz,zz,.c (.rd [] 2 (.int .i64) (J5 (ns.getD i n0))),.c (.sc (.int .i64 ((J5 (ns.getD i n0)).length))),.c (.sc (.int .i64 (k.1))),zz,zz,zz,zz,zz,zz,zz,zz,zz,zz,zz,zz,zz,zz,zz,zz,zz,zz,zz,zz,zz],[(116,.box [.sc (.int .i64 (pi)),.rd [] 26 ((.row 2 (.int .i64))) (ts),.rd [] 95 ((.prod (.int .i64) (.prod (.int .i64) (.prod (.int .i64) (.row 2 (.int .i64)))))) (ns),.rd [] 2 (.int .i64) (os)]),(9001,.row 4 (.bool) (tk) []),(9002,.row 2 (.int .i64) (out) [])]⟩) (fun k=>(J5 (ns.getD i n0)).length - k.1) ⟨0,by simp⟩ ?_ ?_
    ·
     refine oK ?_;simp (maxSteps:=2000000)only[go_sem];all_goals(first|rfl|((repeat' refine And.intro ?_ ?_)<;>first|rfl|simp))
    rintro⟨m,hm⟩ K19 hL19
    have hwb:(J5 (ns.getD i n0)).length≤9223372036854775807:=Nat.le_trans (B7T _) (lns2 _ (D6 (by omega)))
    refine oS fun _ hK20=>?_;refine oW E0 ?_;simp only[go_sem];refine hK20 _ ?_;refine oS fun _ hK21=>?_;refine oC rfl ?_ ?_
    ·
     intro c2;refine A2 ?_;simp only[go_sem];refine hK21 _ ?_;refine oS fun _ hK22=>?_;refine A1 ?_;refine oS fun _ hK23=>?_;refine oW E0 ?_;simp only[go_sem];repeat(with_reducible refine oA ?_)
     refine hK23 _ ?_;have hwl:m < (J5 (ns.getD i n0)).length:=by omega
     obtain⟨hf1,hf2⟩:=B2z hfm (i:=i) (by show i < ns.length;omega) (D6 (d:=0) hwl)
     have hf1':(0:Int)≤(J5 (ns.getD i n0)).getD m 0:=hf1
     have hf2':((J5 (ns.getD i n0)).getD m 0:Int) < ns.length:=hf2
     have hq:tk.getD ((J5 (ns.getD i n0)).getD m 0).toNat false=out.contains ((J5 (ns.getD i n0)).getD m 0):=by rw[hI.2.1 _ (by omega),Int.toNat_of_nonneg hf1]
     refine oW E0 ?_;simp (maxSteps:=2000000)only[go_sem];repeat' (with_reducible first|refine oA ?_|refine oT (fun g13=>?_) (fun g13=>?_)|refine oE (fun g13=>?_) (fun g13=>?_))
     all_goals
      refine hK22 _ ?_;refine oW E0 ?_;simp only[go_sem];refine hL19 ⟨m+1,by omega⟩ _ (oK ?_) ?_
      ·
       simp (maxSteps:=2000000)only[go_sem];all_goals((repeat' refine And.intro ?_ ?_)<;>first|rfl|exact wk (by omega)|(rw[B0r (d:=0) (by omega),←Bool.and_assoc,g13];first|rfl|(rw[Bool.true_and];exact hq)))
      ·
       first|(simp only[];omega)|omega|(simp;omega)
    intro c2;refine B6 ?_;simp only[go_sem];refine hK17 _ ?_;refine oS fun _ hK24=>?_;refine oW E0 ?_;simp only[go_sem];refine hK24 _ ?_;refine oC rfl ?_ ?_
    ·
     intro c3;have hR:U1 ns out i=true:=by rw[B1Z hI (by omega)];rw[List.take_of_length_le (by omega)] at c3;exact c3
     obtain⟨hI2,hC2⟩:=hI.next (by omega) hno hR
     refine oS fun _ hK25=>?_;refine oW E0 ?_;simp (maxSteps:=2000000)only[go_sem];repeat(with_reducible refine oA ?_)
     refine hK25 _ ?_;refine oS fun _ hK26=>?_;refine oW E0 ?_;simp (maxSteps:=2000000)only[go_sem];repeat(with_reducible refine oA ?_)
     refine hK26 _ ?_;refine B6 ?_;simp only[go_sem];first|(refine hL6 ⟨(tk.set i true,out++[(i:Int)],true),hI2,by simp⟩ _ (oK ?_) ?_)|(refine hL6 ⟨(tk,out,false),hI,fun _=>A5S fun j hj=>hno j (by omega)⟩ _ (oK ?_) ?_)
     ·
      simp (maxSteps:=2000000)only[go_sem];all_goals(first|rfl|((repeat' refine And.intro ?_ ?_)<;>first|rfl|exact wk (by omega)|simp))
     ·
      simp only[c0,if_true,Bool.false_eq_true,if_false];omega
    intro c3;have hR0:U1 ns out i=false:=by rw[B1Z hI (by omega)];rw[List.take_of_length_le (by omega)] at c3;exact c3
    refine A2 ?_;simp only[go_sem];refine hK14 _ ?_;refine oW E0 ?_;simp only[go_sem];refine hL11 ⟨i+1,by omega,fun j hj=>by rcases Nat.lt_succ_iff_lt_or_eq.1 hj with h|h;exact hno j h;subst h;exact hR0⟩ _ (oK ?_) ?_
    ·
     simp (maxSteps:=2000000)only[go_sem];all_goals first|rfl|exact wk (by omega)
    ·
     first|(simp only[];omega)|omega|(simp;omega)
   intro c1;refine B6 ?_;simp only[go_sem];first|(refine hL6 ⟨(tk.set i true,out++[(i:Int)],true),hI2,by simp⟩ _ (oK ?_) ?_)|(refine hL6 ⟨(tk,out,false),hI,fun _=>A5S fun j hj=>hno j (by omega)⟩ _ (oK ?_) ?_)
   ·
    simp (maxSteps:=2000000)only[go_sem];all_goals(first|rfl|((repeat' refine And.intro ?_ ?_)<;>first|rfl|exact wk (by omega)|simp))
   ·
    simp only[c0,if_true,Bool.false_eq_true,if_false];omega
  intro c0;refine B6 ?_;simp only[go_sem];refine hK4 _ ?_;refine oS fun _ hK27=>?_;refine oW E0 ?_;simp only[go_sem];refine hK27 _ ?_;refine A0 ?_;simp only[hres,go_sem];first|exact oF|(refine⟨?_,oF⟩;exact(A9j _ (hfin (by simpa using c0))).symm.trans hI.2.2.1)
def B3j:E4:=fun f=>if f=74 then some (.p A6S) else A2d f
theorem B6J:B4 Tryz.prog B3j:=E3 C1y (B0 Tryz.func74 rfl (by decide)) E0
attribute [go_sem] B3j A6S
end Go.Proofs.YtgaogcnfijbahaaGreat
