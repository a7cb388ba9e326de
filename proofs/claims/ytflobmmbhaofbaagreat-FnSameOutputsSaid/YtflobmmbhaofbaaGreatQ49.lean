/-
  Texts of this claim, joined (part 49). No condition beyond those of the theorems.
-/
import Derived.Test.YtflobmmbhaofbaaGreatQ48
import Derived.Test.YtflobmmbhaofbaaGreatQ07
import Derived.Test.YtflobmmbhaofbaaGreatQ18
import Derived.Test.YtflobmmbhaofbaaGreatQ05
import Derived.Test.YtflobmmbhaofbaaGreatQ17
namespace Go.Proofs.YtflobmmbhaofbaaGreat
open Go.RowKit
set_option linter.unusedSimpArgs false
set_option linter.unusedVariables false
set_option maxRecDepth 100000
set_option maxHeartbeats 4000000
def A8T:F8:=fun f=>match A4I f with
 | some k=>some k
 | none=>l4 f
theorem B4A:B8 Tryz.prog A8T:=T3 A9i L6
attribute [go_sem] A8T T0
def A8K:F8:=fun f=>match A8T f with
 | some k=>some k
 | none=>A0S f
theorem T7:B8 Tryz.prog A8K:=T3 B4A t2
attribute [go_sem] A8K T0
def m6:GCon where
  ps:=[.ptr ((.prod (.int .i64) (.prod (.row 26 (.row 2 (.int .i64))) (.prod (.row 56 (.prod (.int .i64) (.prod (.int .i64) (.prod (.int .i64) (.row 2 (.int .i64)))))) (.row 2 (.int .i64))))))]
  os:=[]
  c:=fun x=>C7 x.1.1=true
  r:=fun _=>.agg [.ow 10]
  o:=fun x=>[(10,.tree 26 (.row 2 (.int .i64)) (m8 x.1.1) none)]
  ok:=by
    rintro⟨⟨⟨(pi:Int),(ts:List (List Int)),(ns:List A4),(os:List Int)⟩,_⟩,_⟩
    exact⟨rfl,rfl,by decide⟩
theorem B3k:W3 Tryz.prog 47 m6:=by
  refine D8 Tryz.func47 rfl ?_
  have hres:Tryz.f47.results.toList=[.cell 2 83]:=rfl
  rintro⟨⟨⟨(pi:Int),(ts:List (List Int)),(ns:List A4),(os:List Int)⟩,_⟩,_⟩ hc hL hO
  simp only[m6,go_sem] at hL
  simp only[m6,go_sem] at hO
  simp only[m6,St.init,St.initG,Tryz.ntmps47,go_sem] 
  have hP:C7 (pi,ts,ns,os)=true:=hc
  have hF:=(A9 hP).1
  have hn24:ns.length≤24:=(A8 hF).1
  refine oS fun _ hK1=>?_;refine oW T7 ?_;simp only[go_sem];refine hK1 _ ?_;refine oS fun _ hK2=>?_;refine oW T7 ?_;simp only[List.nodup_cons,List.nodup_nil,List.not_mem_nil,not_false_eq_true,go_sem];repeat(with_reducible refine oA ?_)
  refine hK2 _ ?_;refine oS fun _ hK3=>?_;refine oS fun _ hK4=>?_;refine oW T7 ?_;simp only[go_sem];refine hK4 _ ?_;refine A5 ?_;refine B4 (ι:={ k:Nat // k≤ns.length }) (fun k=>⟨[.c (.pt [] ((.prod (.int .i64) (.prod (.row 26 (.row 2 (.int .i64))) (.prod (.row 56 (.prod (.int .i64) (.prod (.int .i64) (.prod (.int .i64) (.row 2 (.int .i64)))))) (.row 2 (.int .i64)))))) (pi,ts,ns,os) 0),zz,.c (.po 132 0),.c (.po 148 0),.c (.sc (.int .i64 (k.1))),zz,zz,zz,zz,zz,zz,zz,zz,zz,zz,zz,zz,zz,zz,zz,zz,zz,zz,zz,zz,zz,zz,zz,zz],[(132,.box [.sc (.slice none 0 0)]),(148,.box [.ow 9001]),(9001,.tree 26 (.row 2 (.int .i64)) (((ns.take k.1).map O2)) none)]⟩) (fun k=>ns.length - k.1) ⟨0,by simp⟩ ?_ ?_
  ·
   refine oK ?_;simp (maxSteps:=2000000)only[go_sem];all_goals((repeat' refine And.intro ?_ ?_)<;>first|rfl|(congr 1;done)|(simp;done))
  rintro⟨k,hk⟩ K5 hL5
  have hml:((ns.take k).map O2).length≤24:=by rw[List.length_map,List.length_take];omega
  have hnc:k < ns.length→B6s (ns.getD k (0,0,0,[])):=fun h=>⟨_,(G1 (A4e (p:=(pi,ts,ns,os)) (A9 hP).1 h)).1⟩
  have hnx:k < ns.length→(ns.take k).map O2++[O2 (ns.getD k (0,0,0,[]))]=(ns.take (k+1)).map O2:=fun h=>A6B _ h
  refine oS fun _ hK6=>?_;refine oS fun _ hK7=>?_;refine oW T7 ?_;simp (maxSteps:=2000000)only[go_sem];repeat(with_reducible refine oA ?_)
  refine hK7 _ ?_;refine oC rfl ?_ ?_
  ·
   intro c0;refine A3 ?_;simp only[go_sem];refine hK6 _ ?_;refine oS fun _ hK8=>?_;refine A5 ?_
   refine oR T7
     [[],[0],[],[2],[2,3],[2,3,4],[],[2,3,4,5,6],[2,3,4,5,6,7],[2,3,4,5,6,7,8],[0,1,2,3,4,5,6,7,8,9],[0,1,2,3,4,5,6,7,8,9,10],[0,1,2,3,4,5,6,7,8,9,10,11]]
     [[484,485,486,487,488,489,490,491,492,493,494,495,496,497,498,499,500],[484,485,486,487,488,489,490,491,492,493,494,495,496,497,498,499,500],[],[],[],[],[],[],[],[],[],[],[]]
     [[],[],[],[],[],[],[],[],[484,485,486,487,488,489,490,491,492,493,494,495,496,497,498,499],[484,485,486,487,488,489,490,491,492,493,494,495,496,497,498,499,500],[],[],[]] (by kernel_rfl) (by kernel_rfl) (B7 (acc:=[]) ?_)
   simp (maxSteps:=2000000)only[List.nodup_cons,List.nodup_nil,List.not_mem_nil,not_false_eq_true,go_sem];repeat(with_reducible first|refine oD ?_|refine And.intro (by first|exact hnc (by omega)) ?_)
   refine hK8 _ ?_;refine oW T7 ?_;simp only[go_sem];refine hL5 ⟨k+1,by omega⟩ _ (oK ?_) ?_
   ·
    simp (maxSteps:=2000000)only[go_sem];all_goals((repeat' refine And.intro ?_ ?_)<;>first|rfl|exact wk (by omega)|(congr 1;exact hnx (by omega))|exact hnx (by omega))
   ·
    first|(simp only[];omega)|omega|(simp;omega)
  intro c0;refine C2 ?_;simp only[go_sem];refine hK3 _ ?_;refine oS fun _ hK9=>?_;refine oW T7 ?_;simp only[go_sem];repeat(with_reducible refine oA ?_)
  refine hK9 _ ?_;refine A2 ?_;simp only[hres,go_sem];first|exact oG|(refine⟨oG,?_⟩;(repeat' refine And.intro ?_ ?_)<;>first|rfl|(congr 1;exact congrArg (List.map O2) (List.take_of_length_le (by omega)))|(congr 1;done))
def A1s:F8:=fun f=>if f=47 then some (.g m6) else A8K f
theorem Z0:B8 Tryz.prog A1s:=a8 B3k (B6 Tryz.func47 rfl (by decide)) T7
attribute [go_sem] A1s m6
def t8:Con:=⟨[.ptr (.prod (.int .i64) (.prod (.row 26 (.row 2 (.int .i64))) (.prod (.row 56 (.prod (.int .i64) (.prod (.int .i64) (.prod (.int .i64) (.row 2 (.int .i64)))))) (.row 2 (.int .i64))))),.val ((.row 26 (.row 2 (.int .i64)))),.val (.int .i64)],[⟨(.row 26 (.row 2 (.int .i64))),true⟩],fun x=>C7 x.1=true∧d9 x.1 x.2.1∧O7 x.2.2.1 0 1000000=true,fun x=>P7 x.1 x.2.1 (Int.toNat x.2.2.1)⟩
theorem B2A:D4 Tryz.prog 25 t8:=by
  refine A7 Tryz.func25 rfl ?_
  have hres:Tryz.f25.results.toList=[.tmp 6]:=rfl
  rintro⟨⟨(pi:Int),(ts:List (List Int)),(ns:List A4),(os:List Int)⟩,(ins:List (List Int)),(nn:Int),_⟩ hc hL
  simp only[t8,go_sem] at hL
  simp only[t8,St.init,St.initG,Tryz.ntmps25,go_sem] 
  obtain⟨hP,hin,hnr⟩:=(show C7 (pi,ts,ns,os)=true∧d9 (pi,ts,ns,os) ins∧O7 nn 0 1000000=true from hc)
  obtain⟨hn1,hn2⟩:=E0.1 hnr
  have hF:=(A9 hP).1
  have hs0:=A1T hF
  have h00:(0:Int)≤0:=Int.le_refl _
  have h0n:0+nn≤1000000:=by omega
  refine oS fun _ hK1=>?_;refine oW Z0 ?_;simp only[go_sem];refine hK1 _ ?_;refine oS fun _ hK2=>?_;refine oW Z0 ?_;simp only[go_sem];repeat(with_reducible first|refine oA ?_|refine And.intro (by first|exact hP|exact⟨hP,hs0⟩|exact⟨hP,hs0,hin,h00,hn1,h0n⟩|exact⟨hP,U9 _,hs0,hin,h00,hn1,h0n⟩|exact⟨hP,rfl,U9 _,hs0,hin,h00,hn1,h0n⟩|exact⟨hP,hs0,hin,hn2⟩|exact⟨hP,hs0,hin,hn1,hn2⟩|exact⟨hP,hs0,hin,h00,hn1,hn2⟩|exact⟨hP,U9 _,hs0,hin,hn2⟩|exact⟨hP,U9 _,hs0,hin,hn1,hn2⟩|exact⟨hP,U9 _,hs0,hin,h00,hn1,hn2⟩) ?_)
  refine hK2 _ ?_;refine oS fun _ hK3=>?_;refine oW Z0 ?_;simp (maxSteps:=2000000)only[go_sem];repeat(with_reducible first|refine oA ?_|refine And.intro (by first|exact hP|exact⟨hP,hs0⟩|exact⟨hP,hs0,hin,h00,hn1,h0n⟩|exact⟨hP,U9 _,hs0,hin,h00,hn1,h0n⟩|exact⟨hP,rfl,U9 _,hs0,hin,h00,hn1,h0n⟩|exact⟨hP,hs0,hin,hn2⟩|exact⟨hP,hs0,hin,hn1,hn2⟩|exact⟨hP,hs0,hin,h00,hn1,hn2⟩|exact⟨hP,U9 _,hs0,hin,hn2⟩|exact⟨hP,U9 _,hs0,hin,hn1,hn2⟩|exact⟨hP,U9 _,hs0,hin,h00,hn1,hn2⟩) ?_)
  refine hK3 _ ?_;refine A2 ?_;simp only[hres,go_sem];first|exact oF|exact oFr
def A31:F8:=fun f=>if f=25 then some (.p t8) else A1s f
theorem P6:B8 Tryz.prog A31:=F9 B2A (B6 Tryz.func25 rfl (by decide)) Z0
attribute [go_sem] A31 t8
def i8:Con:=⟨[.val ((.prod (.int .i64) (.prod (.row 26 (.row 2 (.int .i64))) (.prod (.row 56 (.prod (.int .i64) (.prod (.int .i64) (.prod (.int .i64) (.row 2 (.int .i64)))))) (.row 2 (.int .i64)))))),.val ((.row 26 (.row 2 (.int .i64)))),.val (.int .i64)],[⟨(.row 26 (.row 2 (.int .i64))),true⟩,⟨.int .i64,true⟩],fun _=>True,fun x=>y8 x.1 x.2.1 x.2.2.1⟩
theorem A9e:D4 Tryz.prog 9 i8:=by
  refine A7 Tryz.func9 rfl ?_
  have hres:Tryz.f9.results.toList=[.tmp 6,.tmp 7]:=rfl
  rintro⟨⟨(pi:Int),(ts:List (List Int)),(ns:List A4),(os:List Int)⟩,(ins:List (List Int)),(nn:Int),_⟩ hc hL
  simp only[i8,go_sem] at hL
  simp only[i8,St.init,St.initG,Tryz.ntmps9,go_sem] 
  refine oS fun _ hK1=>?_;refine oW P6 ?_;simp only[go_sem];refine hK1 _ ?_;refine oS fun _ hK2=>?_;refine oS fun _ hK3=>?_;refine oW P6 ?_;simp only[go_sem];repeat(with_reducible refine oA ?_)
  refine hK3 _ ?_;refine oC rfl ?_ ?_
  ·
   intro c0;refine oS fun _ hK4=>?_;refine oW P6 ?_;simp only[go_sem];refine hK4 _ ?_;refine A2 ?_;simp only[hres,go_sem];first|exact oF|(refine⟨?_,oF⟩;first|(rw[A9v c0];exact⟨rfl,rfl⟩)|(rw[A9v c0]))
  intro c0;refine A3 ?_;simp only[go_sem];refine hK2 _ ?_;refine oS fun _ hK5=>?_;refine oS fun _ hK6=>?_;refine oW P6 ?_;simp (maxSteps:=2000000)only[go_sem];repeat' (with_reducible first|refine oA ?_|refine oT (fun g3=>?_) (fun g3=>?_)|refine oE (fun g3=>?_) (fun g3=>?_))
  all_goals
   refine hK6 _ ?_;refine D2 rfl ?_ ?_
   ·
    intro c1;try simp only[zA,zB,zC,zD,zE,zF,zG,zH,zI] at c1
    all_goals
     refine oS fun _ hK7=>?_;refine oW P6 ?_;simp only[go_sem];refine hK7 _ ?_;refine A2 ?_;simp only[hres,go_sem]
     first
      | exact oF
      | refine ⟨?_, oF⟩
        have hq:(A6g (pi,ts,ns,os) ins && O7 nn 0 4000)=false:=by first|(rw[show A6g (pi,ts,ns,os) ins=false by assumption];rfl)|(rw[show O7 nn 0 4000=false by assumption,Bool.and_false])
        first|(rw[A9s c0 hq];exact⟨rfl,rfl⟩)|(rw[A9s c0 hq])
   ·
    intro c1;try simp only[zA,zB,zC,zD,zE,zF,zG,zH,zI] at c1
    all_goals
     have hsg:A6g (pi,ts,ns,os) ins=true:=by assumption
     have hnz:O7 nn 0 4000=true:=by assumption
     obtain⟨hz1,hz2⟩:=E0.1 hnz
     have hrc:C7 (pi,ts,ns,os)=true∧d9 (pi,ts,ns,os) ins∧O7 nn 0 1000000=true:=⟨c0,A94.1 hsg,L2 (by omega) (by omega)⟩
     refine A3 ?_;simp only[go_sem];refine hK5 _ ?_;refine oS fun _ hK8=>?_;refine oW P6 ?_;simp (maxSteps:=2000000)only[go_sem];repeat(with_reducible first|refine oA ?_|refine And.intro (by first|exact hrc) ?_)
     refine hK8 _ ?_;refine A2 ?_;simp only[hres,go_sem]
     first
      | exact oF
      | refine ⟨?_, oF⟩
        have hq:(A6g (pi,ts,ns,os) ins && O7 nn 0 4000)=true:=by rw[show A6g (pi,ts,ns,os) ins=true by assumption,show O7 nn 0 4000=true by assumption];rfl
        first|(rw[A3N c0 hq];exact⟨rfl,rfl⟩)|(rw[A3N c0 hq])
def A21:F8:=fun f=>if f=9 then some (.p i8) else A31 f
theorem A7C:B8 Tryz.prog A21:=F9 A9e (B6 Tryz.func9 rfl (by decide)) P6
attribute [go_sem] A21 i8
set_option maxRecDepth 100000
set_option maxHeartbeats 4000000
def B17:F8:=fun f=>match l4 f with
 | some k=>some k
 | none=>A3D f
theorem B4Z:B8 Tryz.prog B17:=T3 L6 A2R
attribute [go_sem] B17 T0
def A3s:F8:=B17
theorem A9Z:B8 Tryz.prog A3s:=B4Z
attribute [go_sem] A3s
end Go.Proofs.YtflobmmbhaofbaaGreat
