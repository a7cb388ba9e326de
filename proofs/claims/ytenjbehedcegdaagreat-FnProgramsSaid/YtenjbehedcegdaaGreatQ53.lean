/-
  Texts of this claim, joined (part 53). No condition beyond those of the theorems.
-/
import Derived.Test.YtenjbehedcegdaaGreatQ52
import Derived.Test.YtenjbehedcegdaaGreatQ35
import Derived.Test.YtenjbehedcegdaaGreatQ50
import Derived.Test.YtenjbehedcegdaaGreatQ11
import Derived.Test.YtenjbehedcegdaaGreatQ34
import Derived.Test.YtenjbehedcegdaaGreatQ43
import Derived.Test.YtenjbehedcegdaaGreatQ46
import Derived.Test.YtenjbehedcegdaaGreatQ48
import Derived.Test.YtenjbehedcegdaaGreatQ25
namespace Go.Proofs.YtenjbehedcegdaaGreat
open Go.RowKit
set_option linter.unusedSimpArgs false
set_option linter.unusedVariables false
set_option maxRecDepth 100000
set_option maxHeartbeats 4000000
def A6D:G4:=fun f=>match A2k f with
 | some k=>some k
 | none=>A0l f
theorem B0d:B5 Tryz.prog A6D:=W6 A75 M7
attribute [go_sem] A6D T0
def A5U:G4:=fun f=>match A6D f with
 | some k=>some k
 | none=>A3r f
theorem Q4:B5 Tryz.prog A5U:=W6 B0d A4g
attribute [go_sem] A5U T0
def Z4:GCon where
  ps:=[.ptr ((.prod (.int .i64) (.prod (.row 26 (.row 2 (.int .i64))) (.prod (.row 67 (.prod (.int .i64) (.prod (.int .i64) (.prod (.int .i64) (.row 2 (.int .i64)))))) (.row 2 (.int .i64))))))]
  os:=[]
  c:=fun x=>G3 x.1.1=true
  r:=fun _=>.agg [.ow 10]
  o:=fun x=>[(10,.tree 26 (.row 2 (.int .i64)) (V1 x.1.1) none)]
  ok:=by
    rintro⟨⟨⟨(pi:Int),(ts:List (List Int)),(ns:List B1),(os:List Int)⟩,_⟩,_⟩
    exact⟨rfl,rfl,by decide⟩
theorem B0R:l6 Tryz.prog 55 Z4:=by
  refine F1 Tryz.func55 rfl ?_
  have hres:Tryz.f55.results.toList=[.cell 2 96]:=rfl
  rintro⟨⟨⟨(pi:Int),(ts:List (List Int)),(ns:List B1),(os:List Int)⟩,_⟩,_⟩ hc hL hO
  simp only[Z4,go_sem] at hL
  simp only[Z4,go_sem] at hO
  simp only[Z4,St.init,St.initG,Tryz.ntmps55,go_sem] 
  have hP:G3 (pi,ts,ns,os)=true:=hc
  have hF:=(E1 hP).1
  have hn24:ns.length≤24:=(C0 hF).1
  refine oS fun _ hK1=>?_;refine oW Q4 ?_;simp only[go_sem];refine hK1 _ ?_;refine oS fun _ hK2=>?_;refine oW Q4 ?_;simp only[List.nodup_cons,List.nodup_nil,List.not_mem_nil,not_false_eq_true,go_sem];repeat(with_reducible refine oA ?_)
  refine hK2 _ ?_;refine oS fun _ hK3=>?_;refine oS fun _ hK4=>?_;refine oW Q4 ?_;simp only[go_sem];refine hK4 _ ?_;refine A3 ?_;refine A8 (ι:={ k:Nat // k≤ns.length }) (fun k=>⟨[.c (.pt [] ((.prod (.int .i64) (.prod (.row 26 (.row 2 (.int .i64))) (.prod (.row 67 (.prod (.int .i64) (.prod (.int .i64) (.prod (.int .i64) (.row 2 (.int .i64)))))) (.row 2 (.int .i64)))))) (pi,ts,ns,os) 0),zz,.c (.po 132 0),.c (.po 148 0),.c (.sc (.int .i64 (k.1))),zz,zz,zz,zz,zz,zz,zz,zz,zz,zz,zz,zz,zz,zz,zz,zz,zz,zz,zz,zz,zz,zz,zz,zz],[(132,.box [.sc (.slice none 0 0)]),(148,.box [.ow 9001]),(9001,.tree 26 (.row 2 (.int .i64)) (((ns.take k.1).map I0)) none)]⟩) (fun k=>ns.length - k.1) ⟨0,by simp⟩ ?_ ?_
  ·
   refine oK ?_;simp (maxSteps:=2000000)only[go_sem];all_goals((repeat' refine And.intro ?_ ?_)<;>first|rfl|(congr 1;done)|(simp;done))
  rintro⟨k,hk⟩ K5 hL5
  have hml:((ns.take k).map I0).length≤24:=by rw[List.length_map,List.length_take];omega
  have hnc:k < ns.length→B2y (ns.getD k (0,0,0,[])):=fun h=>⟨_,(M6 (A25 (p:=(pi,ts,ns,os)) (E1 hP).1 h)).1⟩
  have hnx:k < ns.length→(ns.take k).map I0++[I0 (ns.getD k (0,0,0,[]))]=(ns.take (k+1)).map I0:=fun h=>A4O _ h
  refine oS fun _ hK6=>?_;refine oS fun _ hK7=>?_;refine oW Q4 ?_;simp (maxSteps:=2000000)only[go_sem];repeat(with_reducible refine oA ?_)
  refine hK7 _ ?_;refine oC rfl ?_ ?_
  ·
   intro c0;refine A2 ?_;simp only[go_sem];refine hK6 _ ?_;refine oS fun _ hK8=>?_;refine A3 ?_
   refine oR Q4
     [[],[0],[],[2],[2,3],[2,3,4],[],[2,3,4,5,6],[2,3,4,5,6,7],[2,3,4,5,6,7,8],[0,1,2,3,4,5,6,7,8,9],[0,1,2,3,4,5,6,7,8,9,10],[0,1,2,3,4,5,6,7,8,9,10,11]]
     [[484,485,486,487,488,489,490,491,492,493,494,495,496,497,498,499,500],[484,485,486,487,488,489,490,491,492,493,494,495,496,497,498,499,500],[],[],[],[],[],[],[],[],[],[],[]]
     [[],[],[],[],[],[],[],[],[484,485,486,487,488,489,490,491,492,493,494,495,496,497,498,499],[484,485,486,487,488,489,490,491,492,493,494,495,496,497,498,499,500],[],[],[]] (by kernel_rfl) (by kernel_rfl) (A7 (acc:=[]) ?_)
   simp (maxSteps:=2000000)only[List.nodup_cons,List.nodup_nil,List.not_mem_nil,not_false_eq_true,go_sem];repeat(with_reducible first|refine oD ?_|refine And.intro (by first|exact hnc (by omega)) ?_)
   refine hK8 _ ?_;refine oW Q4 ?_;simp only[go_sem];refine hL5 ⟨k+1,by omega⟩ _ (oK ?_) ?_
   ·
    simp (maxSteps:=2000000)only[go_sem];all_goals((repeat' refine And.intro ?_ ?_)<;>first|rfl|exact wk (by omega)|(congr 1;exact hnx (by omega))|exact hnx (by omega))
   ·
    first|(simp only[];omega)|omega|(simp;omega)
  intro c0;refine B6 ?_;simp only[go_sem];refine hK3 _ ?_;refine oS fun _ hK9=>?_;refine oW Q4 ?_;simp only[go_sem];repeat(with_reducible refine oA ?_)
  refine hK9 _ ?_;refine A0 ?_;simp only[hres,go_sem];first|exact oG|(refine⟨oG,?_⟩;(repeat' refine And.intro ?_ ?_)<;>first|rfl|(congr 1;exact congrArg (List.map I0) (List.take_of_length_le (by omega)))|(congr 1;done))
def A35:G4:=fun f=>if f=55 then some (.g Z4) else A5U f
theorem a7:B5 Tryz.prog A35:=A0M B0R (B0 Tryz.func55 rfl (by decide)) Q4
attribute [go_sem] A35 Z4
def b6:Con:=⟨[.ptr (.prod (.int .i64) (.prod (.row 26 (.row 2 (.int .i64))) (.prod (.row 67 (.prod (.int .i64) (.prod (.int .i64) (.prod (.int .i64) (.row 2 (.int .i64)))))) (.row 2 (.int .i64))))),.val ((.row 26 (.row 2 (.int .i64)))),.val (.int .i64)],[⟨(.row 26 (.row 2 (.int .i64))),true⟩],fun x=>G3 x.1=true∧A2W x.1 x.2.1∧I6 x.2.2.1 0 1000000=true,fun x=>A8T x.1 x.2.1 (Int.toNat x.2.2.1)⟩
theorem A9U:C8 Tryz.prog 22 b6:=by
  refine A4 Tryz.func22 rfl ?_
  have hres:Tryz.f22.results.toList=[.tmp 6]:=rfl
  rintro⟨⟨(pi:Int),(ts:List (List Int)),(ns:List B1),(os:List Int)⟩,(ins:List (List Int)),(nn:Int),_⟩ hc hL
  simp only[b6,go_sem] at hL
  simp only[b6,St.init,St.initG,Tryz.ntmps22,go_sem] 
  obtain⟨hP,hin,hnr⟩:=(show G3 (pi,ts,ns,os)=true∧A2W (pi,ts,ns,os) ins∧I6 nn 0 1000000=true from hc)
  obtain⟨hn1,hn2⟩:=B4.1 hnr
  have hF:=(E1 hP).1
  have hs0:=B4b hF
  have h00:(0:Int)≤0:=Int.le_refl _
  have h0n:0+nn≤1000000:=by omega
  refine oS fun _ hK1=>?_;refine oW a7 ?_;simp only[go_sem];refine hK1 _ ?_;refine oS fun _ hK2=>?_;refine oW a7 ?_;simp only[go_sem];repeat(with_reducible first|refine oA ?_|refine And.intro (by first|exact hP|exact⟨hP,hs0⟩|exact⟨hP,hs0,hin,h00,hn1,h0n⟩|exact⟨hP,R4 _,hs0,hin,h00,hn1,h0n⟩|exact⟨hP,rfl,R4 _,hs0,hin,h00,hn1,h0n⟩|exact⟨hP,hs0,hin,hn2⟩|exact⟨hP,hs0,hin,hn1,hn2⟩|exact⟨hP,hs0,hin,h00,hn1,hn2⟩|exact⟨hP,R4 _,hs0,hin,hn2⟩|exact⟨hP,R4 _,hs0,hin,hn1,hn2⟩|exact⟨hP,R4 _,hs0,hin,h00,hn1,hn2⟩) ?_)
  refine hK2 _ ?_;refine oS fun _ hK3=>?_;refine oW a7 ?_;simp (maxSteps:=2000000)only[go_sem];repeat(with_reducible first|refine oA ?_|refine And.intro (by first|exact hP|exact⟨hP,hs0⟩|exact⟨hP,hs0,hin,h00,hn1,h0n⟩|exact⟨hP,R4 _,hs0,hin,h00,hn1,h0n⟩|exact⟨hP,rfl,R4 _,hs0,hin,h00,hn1,h0n⟩|exact⟨hP,hs0,hin,hn2⟩|exact⟨hP,hs0,hin,hn1,hn2⟩|exact⟨hP,hs0,hin,h00,hn1,hn2⟩|exact⟨hP,R4 _,hs0,hin,hn2⟩|exact⟨hP,R4 _,hs0,hin,hn1,hn2⟩|exact⟨hP,R4 _,hs0,hin,h00,hn1,hn2⟩) ?_)
  refine hK3 _ ?_;refine A0 ?_;simp only[hres,go_sem];first|exact oF|exact oFr
def A1R:G4:=fun f=>if f=22 then some (.p b6) else A35 f
theorem N5:B5 Tryz.prog A1R:=F8 A9U (B0 Tryz.func22 rfl (by decide)) a7
attribute [go_sem] A1R b6
def Y0:Con:=⟨[.val ((.prod (.int .i64) (.prod (.row 26 (.row 2 (.int .i64))) (.prod (.row 67 (.prod (.int .i64) (.prod (.int .i64) (.prod (.int .i64) (.row 2 (.int .i64)))))) (.row 2 (.int .i64)))))),.val ((.row 26 (.row 2 (.int .i64)))),.val (.int .i64)],[⟨(.row 26 (.row 2 (.int .i64))),true⟩,⟨.int .i64,true⟩],fun _=>True,fun x=>a6 x.1 x.2.1 x.2.2.1⟩
theorem A7D:C8 Tryz.prog 8 Y0:=by
  refine A4 Tryz.func8 rfl ?_
  have hres:Tryz.f8.results.toList=[.tmp 6,.tmp 7]:=rfl
  rintro⟨⟨(pi:Int),(ts:List (List Int)),(ns:List B1),(os:List Int)⟩,(ins:List (List Int)),(nn:Int),_⟩ hc hL
  simp only[Y0,go_sem] at hL
  simp only[Y0,St.init,St.initG,Tryz.ntmps8,go_sem] 
  refine oS fun _ hK1=>?_;refine oW N5 ?_;simp only[go_sem];refine hK1 _ ?_;refine oS fun _ hK2=>?_;refine oS fun _ hK3=>?_;refine oW N5 ?_;simp only[go_sem];repeat(with_reducible refine oA ?_)
  refine hK3 _ ?_;refine oC rfl ?_ ?_
  ·
   intro c0;refine oS fun _ hK4=>?_;refine oW N5 ?_;simp only[go_sem];refine hK4 _ ?_;refine A0 ?_;simp only[hres,go_sem];first|exact oF|(refine⟨?_,oF⟩;first|(rw[A7h c0];exact⟨rfl,rfl⟩)|(rw[A7h c0]))
  intro c0;refine A2 ?_;simp only[go_sem];refine hK2 _ ?_;refine oS fun _ hK5=>?_;refine oS fun _ hK6=>?_;refine oW N5 ?_;simp (maxSteps:=2000000)only[go_sem];repeat' (with_reducible first|refine oA ?_|refine oT (fun g3=>?_) (fun g3=>?_)|refine oE (fun g3=>?_) (fun g3=>?_))
  all_goals
   refine hK6 _ ?_;refine D5 rfl ?_ ?_
   ·
    intro c1;try simp only[zA,zB,zC,zD,zE,zF,zG,zH,zI] at c1
    all_goals
     refine oS fun _ hK7=>?_;refine oW N5 ?_;simp only[go_sem];refine hK7 _ ?_;refine A0 ?_;simp only[hres,go_sem]
     first
      | exact oF
      | refine ⟨?_, oF⟩
        have hq:(A1G (pi,ts,ns,os) ins && I6 nn 0 4000)=false:=by first|(rw[show A1G (pi,ts,ns,os) ins=false by assumption];rfl)|(rw[show I6 nn 0 4000=false by assumption,Bool.and_false])
        first|(rw[A7o c0 hq];exact⟨rfl,rfl⟩)|(rw[A7o c0 hq])
   ·
    intro c1;try simp only[zA,zB,zC,zD,zE,zF,zG,zH,zI] at c1
    all_goals
     have hsg:A1G (pi,ts,ns,os) ins=true:=by assumption
     have hnz:I6 nn 0 4000=true:=by assumption
     obtain⟨hz1,hz2⟩:=B4.1 hnz
     have hrc:G3 (pi,ts,ns,os)=true∧A2W (pi,ts,ns,os) ins∧I6 nn 0 1000000=true:=⟨c0,A9c.1 hsg,L8 (by omega) (by omega)⟩
     refine A2 ?_;simp only[go_sem];refine hK5 _ ?_;refine oS fun _ hK8=>?_;refine oW N5 ?_;simp (maxSteps:=2000000)only[go_sem];repeat(with_reducible first|refine oA ?_|refine And.intro (by first|exact hrc) ?_)
     refine hK8 _ ?_;refine A0 ?_;simp only[hres,go_sem]
     first
      | exact oF
      | refine ⟨?_, oF⟩
        have hq:(A1G (pi,ts,ns,os) ins && I6 nn 0 4000)=true:=by rw[show A1G (pi,ts,ns,os) ins=true by assumption,show I6 nn 0 4000=true by assumption];rfl
        first|(rw[A7e c0 hq];exact⟨rfl,rfl⟩)|(rw[A7e c0 hq])
def A13:G4:=fun f=>if f=8 then some (.p Y0) else A1R f
theorem A50:B5 Tryz.prog A13:=F8 A7D (B0 Tryz.func8 rfl (by decide)) N5
attribute [go_sem] A13 Y0
set_option maxRecDepth 100000
set_option maxHeartbeats 16000000
def A5x:G4:=fun f=>match A2a f with
 | some k=>some k
 | none=>A4d f
theorem B0v:B5 Tryz.prog A5x:=W6 A7B A8u
attribute [go_sem] A5x T0
def A5d:G4:=fun f=>match A5x f with
 | some k=>some k
 | none=>A6S f
theorem B0A:B5 Tryz.prog A5d:=W6 B0v B0x
attribute [go_sem] A5d T0
def A5p:G4:=fun f=>match A5d f with
 | some k=>some k
 | none=>A1u f
theorem A9o:B5 Tryz.prog A5p:=W6 B0A A6V
attribute [go_sem] A5p T0
def A5m:G4:=fun f=>match A5p f with
 | some k=>some k
 | none=>A13 f
theorem H6:B5 Tryz.prog A5m:=W6 A9o A50
attribute [go_sem] A5m T0
def U7:Con:=⟨[.val ((.row 5 (.int .u8)))],[⟨.bool,true⟩],fun x=>∀b∈(x.1:List Int),0≤b∧b≤255,fun _=>true⟩
theorem A9h:C8 Tryz.prog 3 U7:=by
  refine A4 Tryz.func3 rfl ?_
  have hres:Tryz.f3.results.toList=[.tmp 2]:=rfl
  rintro⟨(cd:List Int),_⟩ hc hL
  simp only[U7,go_sem] at hL
  simp only[U7,St.init,St.initG,Tryz.ntmps3,go_sem] 
  have hcd:∀b∈cd,0≤b∧b≤255:=hc
  rcases hd:(B8C cd).1 with⟨⟨pi,ts,ns,os⟩,ins,nn⟩
  rcases hpr:A4l (pi,ts,ns,os) with⟨⟨(gi:Int),(gr:Int),(ts2:List (List Int)),(xs:List A1),(gos:List Int)⟩,(z:Int)⟩
  rcases hrr:a6 (pi,ts,ns,os) ins nn with⟨Y,cy⟩
  refine oS fun _ hK1=>?_;refine oW H6 ?_;refine C9 200 (by rfl) ?_
  simp only[go_sem];repeat(with_reducible first|refine oA ?_|refine And.intro (by first|exact hcd|assumption) ?_)
  refine hK1 _ ?_;refine oS fun _ hK2=>?_;refine oS fun _ hK3=>?_;refine oW H6 ?_;refine C9 200 (by rfl) ?_
  simp only[go_sem];repeat(with_reducible first|refine oA ?_|refine And.intro (by first|exact hcd|assumption) ?_)
  refine hK3 _ ?_;refine oC rfl ?_ ?_
  ·
   intro c0;refine oS fun _ hK4=>?_;refine oW H6 ?_;refine C9 200 (by rfl) ?_
   simp only[go_sem];repeat(with_reducible first|refine oA ?_|refine And.intro (by first|exact hcd|assumption) ?_)
   refine hK4 _ ?_;refine A0 ?_;simp only[hres,go_sem];first|exact oF|exact oFr
  intro c0;refine A2 ?_;simp only[go_sem];refine hK2 _ ?_;refine oS fun _ hK5=>?_;refine oW H6 ?_;refine C9 200 (by rfl) ?_
  simp (maxSteps:=2000000)only[hd,go_sem];repeat(with_reducible first|refine oA ?_|refine And.intro (by first|exact hcd|assumption) ?_)
  refine hK5 _ ?_;refine oS fun _ hK6=>?_;refine oW H6 ?_;refine C9 200 (by rfl) ?_
  simp (maxSteps:=2000000)only[List.nodup_cons,List.nodup_nil,List.not_mem_nil,not_false_eq_true,hpr,go_sem];repeat(with_reducible first|refine oA ?_|refine And.intro (by first|exact hcd|assumption) ?_)
  refine hK6 _ ?_;refine oS fun _ hK7=>?_;refine oS fun _ hK8=>?_;refine oW H6 ?_;refine C9 200 (by rfl) ?_
  simp only[go_sem];repeat(with_reducible first|refine oA ?_|refine And.intro (by first|exact hcd|assumption) ?_)
  refine hK8 _ ?_;refine oC rfl ?_ ?_
  ·
   intro c1;have hP:G3 (pi,ts,ns,os)=false:=B6k hpr c1
   refine oS fun _ hK9=>?_;refine oW H6 ?_;refine C9 200 (by rfl) ?_
   simp only[go_sem];repeat(with_reducible first|refine oA ?_|refine And.intro (by first|exact hcd|assumption) ?_)
   refine hK9 _ ?_;refine A0 ?_;simp only[hres,go_sem];first|exact oF|(refine⟨?_,oF⟩;rw[hP];rfl)
  intro c1;have hz:z=0:=by first|exact c1|exact Classical.byContradiction c1
  obtain⟨hP,hge⟩:=B6h hpr hz
  have hG:O0 (gi,gr,ts2,xs,gos)=true:=by rw[hge];exact B6y (A96 hP)
  have hrun:A70 (gi,gr,ts2,xs,gos) ins nn=(Y,cy):=by rw[hge,B2Q hP,hrr]
  refine A2 ?_;simp only[go_sem];refine hK7 _ ?_;refine oS fun _ hK10=>?_;refine oW H6 ?_;refine C9 200 (by rfl) ?_
  simp (maxSteps:=2000000)only[List.nodup_cons,List.nodup_nil,List.not_mem_nil,not_false_eq_true,hrr,go_sem];repeat(with_reducible first|refine oA ?_|refine And.intro (by first|exact hcd|assumption) ?_)
  refine hK10 _ ?_;refine oS fun _ hK11=>?_;refine oW H6 ?_;refine C9 200 (by rfl) ?_
  simp (maxSteps:=2000000)only[List.nodup_cons,List.nodup_nil,List.not_mem_nil,not_false_eq_true,hrun,go_sem];repeat(with_reducible first|refine oA ?_|refine And.intro (by first|exact hcd|assumption) ?_)
  refine hK11 _ ?_;refine oS fun _ hK12=>?_;refine oS fun _ hK13=>?_;refine oW H6 ?_;refine C9 200 (by rfl) ?_
  simp (maxSteps:=2000000)only[hG,B73,go_sem];repeat' (with_reducible first|refine oA ?_|refine And.intro (by first|exact hcd|assumption) ?_|refine oT (fun g9=>?_) (fun g9=>?_)|refine oE (fun g9=>?_) (fun g9=>?_))
  all_goals
   refine hK13 _ ?_;refine D5 rfl ?_ ?_
   ·
    intro c2;try simp only[zA,zB,zC,zD,zE,zF,zG,zH,zI] at c2
    all_goals
     all_goals first|(cases c2;done)|(simp at c2;done)|omega
   ·
    intro c2;try simp only[zA,zB,zC,zD,zE,zF,zG,zH,zI] at c2
    all_goals
     have hxl:xs.length≤48:=(A0R hG).cl
     refine A2 ?_;simp only[go_sem];refine hK12 _ ?_;refine oS fun _ hK14=>?_;refine oS fun _ hK15=>?_;refine oW H6 ?_;refine C9 200 (by rfl) ?_
     simp only[go_sem];repeat(with_reducible first|refine oA ?_|refine And.intro (by first|exact hcd|assumption) ?_)
     refine hK15 _ ?_;refine A3 ?_;refine A8 (ι:={ k:Nat // k≤xs.length }) (fun k=>⟨[zz,zz,zz,zz,zz,zz,.c (.po 196 0),zz,zz,zz,zz,zz,.c (.sc (.int .i64 (k.1))),zz,zz,zz,zz,zz,zz,zz,zz,zz,zz,zz,zz,zz,zz,zz,zz,zz,zz,zz,zz,zz,zz,zz,zz,zz,zz,zz,zz,zz,zz,zz,zz,zz,zz,zz,zz,zz,zz,zz,zz,zz,zz,zz,zz,zz,zz,zz,zz,zz,zz,zz,zz,zz,zz,zz,zz,zz,zz,zz,zz,zz,zz,zz,zz,zz,zz,zz,zz,zz,zz],[(196,.box [.sc (.int .i64 (gi)),.sc (.int .i64 (gr)),.ow 9001,.ow 9002,.ow 9003]),(9001,.tree 26 (.row 2 (.int .i64)) (ts2) none),(9002,.tree 64 (.prod (.int .i64) (.prod (.int .i64) (.prod (.int .i64) (.prod (.int .i64) (.prod (.row 2 (.int .i64)) (.int .i64)))))) (xs) none),(9003,.row 2 (.int .i64) (gos) [])]⟩) (fun k=>xs.length - k.1) ⟨0,by simp⟩ ?_ ?_
     ·
      refine oK ?_;simp (maxSteps:=2000000)only[go_sem];all_goals((repeat' refine And.intro ?_ ?_)<;>first|rfl|(congr 1;done)|(simp;done))
     rintro⟨k,hk⟩ K16 hL16
     refine oS fun _ hK17=>?_;refine oS fun _ hK18=>?_;refine oW H6 ?_;refine C9 200 (by rfl) ?_
     simp (maxSteps:=2000000)only[go_sem];repeat(with_reducible first|refine oA ?_|refine And.intro (by first|exact hcd|assumption) ?_)
     refine hK18 _ ?_;refine D5 rfl ?_ ?_
     ·
      intro c3;try simp only[zA,zB,zC,zD,zE,zF,zG,zH,zI] at c3
      all_goals
       have hk':k < (gi,gr,ts2,xs,gos).2.2.2.1.length:=by show k < xs.length;omega
       have hlk:=B6H hG hk'
       rcases hlv:A2P (gi,gr,ts2,xs,gos) (k:Int) with⟨L,y⟩
       rw[hlv] at hlk;obtain⟨hy,hll⟩:=hlk;have hy:y=0:=hy
       have hll:(L.length:Int)≤gr:=hll
       subst hy;have hwk:IntKind.i64.wrap ((k:Int)+1)=k+1:=H4 (by omega)
       refine A2 ?_;simp only[go_sem];refine hK17 _ ?_;refine oS fun _ hK19=>?_;refine A3 ?_;refine oS fun _ hK20=>?_;refine oW H6 ?_;refine C9 200 (by rfl) ?_
       simp (maxSteps:=2000000)only[List.nodup_cons,List.nodup_nil,List.not_mem_nil,not_false_eq_true,hlv,go_sem];repeat(with_reducible first|refine oA ?_|refine And.intro (by first|exact hcd|assumption) ?_)
       refine hK20 _ ?_;refine oS fun _ hK21=>?_;refine oW H6 ?_;refine C9 200 (by rfl) ?_
       simp (maxSteps:=2000000)only[go_sem];repeat' (with_reducible first|refine oA ?_|refine And.intro (by first|exact hcd|assumption) ?_|refine oT (fun g15=>?_) (fun g15=>?_)|refine oE (fun g15=>?_) (fun g15=>?_))
       all_goals
        refine hK21 _ ?_;refine D5 rfl ?_ ?_
        ·
         intro c4;try simp only[zA,zB,zC,zD,zE,zF,zG,zH,zI] at c4
         all_goals
          all_goals first|(cases c4;done)|(simp at c4;done)|omega
        ·
         intro c4;try simp only[zA,zB,zC,zD,zE,zF,zG,zH,zI] at c4
         all_goals
          refine A2 ?_;simp only[go_sem];refine hK19 _ ?_;refine oW H6 ?_;refine C9 200 (by rfl) ?_
          simp only[hwk,go_sem];repeat(with_reducible first|refine oA ?_|refine And.intro (by first|exact hcd|assumption) ?_)
          refine hL16 ⟨k+1,by omega⟩ _ (oK ?_) ?_
          ·
           simp (maxSteps:=2000000)only[go_sem];all_goals((repeat' refine And.intro ?_ ?_)<;>first|rfl|exact wk (by omega)|(congr 1;done))
          ·
           first|(simp only[];omega)|omega|(simp;omega)
     ·
      intro c3;try simp only[zA,zB,zC,zD,zE,zF,zG,zH,zI] at c3
      all_goals
       refine B6 ?_;simp only[go_sem];refine hK14 _ ?_;refine oS fun _ hK22=>?_;refine oW H6 ?_;refine C9 200 (by rfl) ?_
       simp only[go_sem];repeat(with_reducible first|refine oA ?_|refine And.intro (by first|exact hcd|assumption) ?_)
       refine hK22 _ ?_;refine A0 ?_;simp only[hres,go_sem];first|exact oF|exact oFr
def B2J:G4:=fun f=>if f=3 then some (.p U7) else A5m f
attribute [go_sem] B2J U7
end Go.Proofs.YtenjbehedcegdaaGreat
