/-
  Texts of this claim, joined (part 52). No condition beyond those of the theorems.
-/
import Derived.Test.YtgaogcnfijbahaaGreatQ51
import Derived.Test.YtgaogcnfijbahaaGreatQ07
import Derived.Test.YtgaogcnfijbahaaGreatQ25
import Derived.Test.YtgaogcnfijbahaaGreatQ05
import Derived.Test.YtgaogcnfijbahaaGreatQ49
import Derived.Test.YtgaogcnfijbahaaGreatQ02
namespace Go.Proofs.YtgaogcnfijbahaaGreat
open Go.RowKit
set_option linter.unusedSimpArgs false
set_option linter.unusedVariables false
set_option maxRecDepth 100000
set_option maxHeartbeats 4000000
def A9G:E4:=fun f=>match A51 f with
 | some k=>some k
 | none=>n6 f
theorem B5M:B4 Tryz.prog A9G:=N2 B15 L8
attribute [go_sem] A9G T0
def A9B:E4:=fun f=>match A9G f with
 | some k=>some k
 | none=>A3f f
theorem V1:B4 Tryz.prog A9B:=N2 B5M A3b
attribute [go_sem] A9B T0
def o9:GCon where
  ps:=[.ptr ((.prod (.int .i64) (.prod (.row 26 (.row 2 (.int .i64))) (.prod (.row 95 (.prod (.int .i64) (.prod (.int .i64) (.prod (.int .i64) (.row 2 (.int .i64)))))) (.row 2 (.int .i64))))))]
  os:=[]
  c:=fun x=>B9 x.1.1=true
  r:=fun _=>.agg [.ow 10]
  o:=fun x=>[(10,.tree 26 (.row 2 (.int .i64)) (W9 x.1.1) none)]
  ok:=by
    rintro⟨⟨⟨(pi:Int),(ts:List (List Int)),(ns:List A6),(os:List Int)⟩,_⟩,_⟩
    exact⟨rfl,rfl,by decide⟩
theorem B4H:Z2 Tryz.prog 58 o9:=by
  refine E1 Tryz.func58 rfl ?_
  have hres:Tryz.f58.results.toList=[.cell 2 89]:=rfl
  rintro⟨⟨⟨(pi:Int),(ts:List (List Int)),(ns:List A6),(os:List Int)⟩,_⟩,_⟩ hc hL hO
  simp only[o9,go_sem] at hL
  simp only[o9,go_sem] at hO
  simp only[o9,St.init,St.initG,Tryz.ntmps58,go_sem] 
  have hP:B9 (pi,ts,ns,os)=true:=hc
  have hF:=(B8 hP).1
  have hn24:ns.length≤24:=(A8 hF).1
  refine oS fun _ hK1=>?_;refine oW V1 ?_;simp only[go_sem];refine hK1 _ ?_;refine oS fun _ hK2=>?_;refine oW V1 ?_;simp only[List.nodup_cons,List.nodup_nil,List.not_mem_nil,not_false_eq_true,go_sem];repeat(with_reducible refine oA ?_)
  refine hK2 _ ?_;refine oS fun _ hK3=>?_;refine oS fun _ hK4=>?_;refine oW V1 ?_;simp only[go_sem];refine hK4 _ ?_;refine A1 ?_;refine A7 (ι:={ k:Nat // k≤ns.length }) (fun k=>⟨[.c (.pt [] ((.prod (.int .i64) (.prod (.row 26 (.row 2 (.int .i64))) (.prod (.row 95 (.prod (.int .i64) (.prod (.int .i64) (.prod (.int .i64) (.row 2 (.int .i64)))))) (.row 2 (.int .i64)))))) (pi,ts,ns,os) 0),zz,.c (.po 132 0),.c (.po 148 0),.c (.sc (.int .i64 (k.1))),zz,zz,zz,zz,zz,zz,zz,zz,zz,zz,zz,zz,zz,zz,zz,zz,zz,zz,zz,zz,zz,zz,zz,zz],[(132,.box [.sc (.slice none 0 0)]),(148,.box [.ow 9001]),(9001,.tree 26 (.row 2 (.int .i64)) (((ns.take k.1).map D4)) none)]⟩) (fun k=>ns.length - k.1) ⟨0,by simp⟩ ?_ ?_
  ·
   refine oK ?_;simp (maxSteps:=2000000)only[go_sem];all_goals((repeat' refine And.intro ?_ ?_)<;>first|rfl|(congr 1;done)|(simp;done))
  rintro⟨k,hk⟩ K5 hL5
  have hml:((ns.take k).map D4).length≤24:=by rw[List.length_map,List.length_take];omega
  have hnc:k < ns.length→A23 (ns.getD k (0,0,0,[])):=fun h=>⟨_,(G6 (d9 (p:=(pi,ts,ns,os)) (B8 hP).1 h)).1⟩
  have hnx:k < ns.length→(ns.take k).map D4++[D4 (ns.getD k (0,0,0,[]))]=(ns.take (k+1)).map D4:=fun h=>A4N _ h
  refine oS fun _ hK6=>?_;refine oS fun _ hK7=>?_;refine oW V1 ?_;simp (maxSteps:=2000000)only[go_sem];repeat(with_reducible refine oA ?_)
  refine hK7 _ ?_;refine oC rfl ?_ ?_
  ·
   intro c0;refine A2 ?_;simp only[go_sem];refine hK6 _ ?_;refine oS fun _ hK8=>?_;refine A1 ?_
   refine oR V1
     [[],[0],[],[2],[2,3],[2,3,4],[],[2,3,4,5,6],[2,3,4,5,6,7],[2,3,4,5,6,7,8],[0,1,2,3,4,5,6,7,8,9],[0,1,2,3,4,5,6,7,8,9,10],[0,1,2,3,4,5,6,7,8,9,10,11]]
     [[484,485,486,487,488,489,490,491,492,493,494,495,496,497,498,499,500],[484,485,486,487,488,489,490,491,492,493,494,495,496,497,498,499,500],[],[],[],[],[],[],[],[],[],[],[]]
     [[],[],[],[],[],[],[],[],[484,485,486,487,488,489,490,491,492,493,494,495,496,497,498,499],[484,485,486,487,488,489,490,491,492,493,494,495,496,497,498,499,500],[],[],[]] (by kernel_rfl) (by kernel_rfl) (A9 (acc:=[]) ?_)
   simp (maxSteps:=2000000)only[List.nodup_cons,List.nodup_nil,List.not_mem_nil,not_false_eq_true,go_sem];repeat(with_reducible first|refine oD ?_|refine And.intro (by first|exact hnc (by omega)) ?_)
   refine hK8 _ ?_;refine oW V1 ?_;simp only[go_sem];refine hL5 ⟨k+1,by omega⟩ _ (oK ?_) ?_
   ·
    simp (maxSteps:=2000000)only[go_sem];all_goals((repeat' refine And.intro ?_ ?_)<;>first|rfl|exact wk (by omega)|(congr 1;exact hnx (by omega))|exact hnx (by omega))
   ·
    first|(simp only[];omega)|omega|(simp;omega)
  intro c0;refine B6 ?_;simp only[go_sem];refine hK3 _ ?_;refine oS fun _ hK9=>?_;refine oW V1 ?_;simp only[go_sem];repeat(with_reducible refine oA ?_)
  refine hK9 _ ?_;refine A0 ?_;simp only[hres,go_sem];first|exact oG|(refine⟨oG,?_⟩;(repeat' refine And.intro ?_ ?_)<;>first|rfl|(congr 1;exact congrArg (List.map D4) (List.take_of_length_le (by omega)))|(congr 1;done))
def A5C:E4:=fun f=>if f=58 then some (.g o9) else A9B f
theorem s5:B4 Tryz.prog A5C:=m8 B4H (B0 Tryz.func58 rfl (by decide)) V1
attribute [go_sem] A5C o9
def t9:Con:=⟨[.ptr (.prod (.int .i64) (.prod (.row 26 (.row 2 (.int .i64))) (.prod (.row 95 (.prod (.int .i64) (.prod (.int .i64) (.prod (.int .i64) (.row 2 (.int .i64)))))) (.row 2 (.int .i64))))),.val ((.row 26 (.row 2 (.int .i64)))),.val (.int .i64)],[⟨(.row 26 (.row 2 (.int .i64))),true⟩],fun x=>B9 x.1=true∧J9 x.1 x.2.1∧J3 x.2.2.1 0 1000000=true,fun x=>H9 x.1 x.2.1 (Int.toNat x.2.2.1)⟩
theorem B2e:C9 Tryz.prog 28 t9:=by
  refine A4 Tryz.func28 rfl ?_
  have hres:Tryz.f28.results.toList=[.tmp 6]:=rfl
  rintro⟨⟨(pi:Int),(ts:List (List Int)),(ns:List A6),(os:List Int)⟩,(ins:List (List Int)),(nn:Int),_⟩ hc hL
  simp only[t9,go_sem] at hL
  simp only[t9,St.init,St.initG,Tryz.ntmps28,go_sem] 
  obtain⟨hP,hin,hnr⟩:=(show B9 (pi,ts,ns,os)=true∧J9 (pi,ts,ns,os) ins∧J3 nn 0 1000000=true from hc)
  obtain⟨hn1,hn2⟩:=C1.1 hnr
  have hF:=(B8 hP).1
  have hs0:=n8 hF
  have h00:(0:Int)≤0:=Int.le_refl _
  have h0n:0+nn≤1000000:=by omega
  refine oS fun _ hK1=>?_;refine oW s5 ?_;simp only[go_sem];refine hK1 _ ?_;refine oS fun _ hK2=>?_;refine oW s5 ?_;simp only[go_sem];repeat(with_reducible first|refine oA ?_|refine And.intro (by first|exact hP|exact⟨hP,hs0⟩|exact⟨hP,hs0,hin,h00,hn1,h0n⟩|exact⟨hP,L9 _,hs0,hin,h00,hn1,h0n⟩|exact⟨hP,rfl,L9 _,hs0,hin,h00,hn1,h0n⟩|exact⟨hP,hs0,hin,hn2⟩|exact⟨hP,hs0,hin,hn1,hn2⟩|exact⟨hP,hs0,hin,h00,hn1,hn2⟩|exact⟨hP,L9 _,hs0,hin,hn2⟩|exact⟨hP,L9 _,hs0,hin,hn1,hn2⟩|exact⟨hP,L9 _,hs0,hin,h00,hn1,hn2⟩) ?_)
  refine hK2 _ ?_;refine oS fun _ hK3=>?_;refine oW s5 ?_;simp (maxSteps:=2000000)only[go_sem];repeat(with_reducible first|refine oA ?_|refine And.intro (by first|exact hP|exact⟨hP,hs0⟩|exact⟨hP,hs0,hin,h00,hn1,h0n⟩|exact⟨hP,L9 _,hs0,hin,h00,hn1,h0n⟩|exact⟨hP,rfl,L9 _,hs0,hin,h00,hn1,h0n⟩|exact⟨hP,hs0,hin,hn2⟩|exact⟨hP,hs0,hin,hn1,hn2⟩|exact⟨hP,hs0,hin,h00,hn1,hn2⟩|exact⟨hP,L9 _,hs0,hin,hn2⟩|exact⟨hP,L9 _,hs0,hin,hn1,hn2⟩|exact⟨hP,L9 _,hs0,hin,h00,hn1,hn2⟩) ?_)
  refine hK3 _ ?_;refine A0 ?_;simp only[hres,go_sem];first|exact oF|exact oFr
def A4B:E4:=fun f=>if f=28 then some (.p t9) else A5C f
theorem Q0:B4 Tryz.prog A4B:=E3 B2e (B0 Tryz.func28 rfl (by decide)) s5
attribute [go_sem] A4B t9
def j8:Con:=⟨[.val ((.prod (.int .i64) (.prod (.row 26 (.row 2 (.int .i64))) (.prod (.row 95 (.prod (.int .i64) (.prod (.int .i64) (.prod (.int .i64) (.row 2 (.int .i64)))))) (.row 2 (.int .i64)))))),.val ((.row 26 (.row 2 (.int .i64)))),.val (.int .i64)],[⟨(.row 26 (.row 2 (.int .i64))),true⟩,⟨.int .i64,true⟩],fun _=>True,fun x=>A0A x.1 x.2.1 x.2.2.1⟩
theorem B18:C9 Tryz.prog 9 j8:=by
  refine A4 Tryz.func9 rfl ?_
  have hres:Tryz.f9.results.toList=[.tmp 6,.tmp 7]:=rfl
  rintro⟨⟨(pi:Int),(ts:List (List Int)),(ns:List A6),(os:List Int)⟩,(ins:List (List Int)),(nn:Int),_⟩ hc hL
  simp only[j8,go_sem] at hL
  simp only[j8,St.init,St.initG,Tryz.ntmps9,go_sem] 
  refine oS fun _ hK1=>?_;refine oW Q0 ?_;simp only[go_sem];refine hK1 _ ?_;refine oS fun _ hK2=>?_;refine oS fun _ hK3=>?_;refine oW Q0 ?_;simp only[go_sem];repeat(with_reducible refine oA ?_)
  refine hK3 _ ?_;refine oC rfl ?_ ?_
  ·
   intro c0;refine oS fun _ hK4=>?_;refine oW Q0 ?_;simp only[go_sem];refine hK4 _ ?_;refine A0 ?_;simp only[hres,go_sem];first|exact oF|(refine⟨?_,oF⟩;first|(rw[B1G c0];exact⟨rfl,rfl⟩)|(rw[B1G c0]))
  intro c0;refine A2 ?_;simp only[go_sem];refine hK2 _ ?_;refine oS fun _ hK5=>?_;refine oS fun _ hK6=>?_;refine oW Q0 ?_;simp (maxSteps:=2000000)only[go_sem];repeat' (with_reducible first|refine oA ?_|refine oT (fun g3=>?_) (fun g3=>?_)|refine oE (fun g3=>?_) (fun g3=>?_))
  all_goals
   refine hK6 _ ?_;refine E2 rfl ?_ ?_
   ·
    intro c1;try simp only[zA,zB,zC,zD,zE,zF,zG,zH,zI] at c1
    all_goals
     refine oS fun _ hK7=>?_;refine oW Q0 ?_;simp only[go_sem];refine hK7 _ ?_;refine A0 ?_;simp only[hres,go_sem]
     first
      | exact oF
      | refine ⟨?_, oF⟩
        have hq:(A7d (pi,ts,ns,os) ins && J3 nn 0 4000)=false:=by first|(rw[show A7d (pi,ts,ns,os) ins=false by assumption];rfl)|(rw[show J3 nn 0 4000=false by assumption,Bool.and_false])
        first|(rw[B1V c0 hq];exact⟨rfl,rfl⟩)|(rw[B1V c0 hq])
   ·
    intro c1;try simp only[zA,zB,zC,zD,zE,zF,zG,zH,zI] at c1
    all_goals
     have hsg:A7d (pi,ts,ns,os) ins=true:=by assumption
     have hnz:J3 nn 0 4000=true:=by assumption
     obtain⟨hz1,hz2⟩:=C1.1 hnz
     have hrc:B9 (pi,ts,ns,os)=true∧J9 (pi,ts,ns,os) ins∧J3 nn 0 1000000=true:=⟨c0,B0m.1 hsg,J8 (by omega) (by omega)⟩
     refine A2 ?_;simp only[go_sem];refine hK5 _ ?_;refine oS fun _ hK8=>?_;refine oW Q0 ?_;simp (maxSteps:=2000000)only[go_sem];repeat(with_reducible first|refine oA ?_|refine And.intro (by first|exact hrc) ?_)
     refine hK8 _ ?_;refine A0 ?_;simp only[hres,go_sem]
     first
      | exact oF
      | refine ⟨?_, oF⟩
        have hq:(A7d (pi,ts,ns,os) ins && J3 nn 0 4000)=true:=by rw[show A7d (pi,ts,ns,os) ins=true by assumption,show J3 nn 0 4000=true by assumption];rfl
        first|(rw[A4c c0 hq];exact⟨rfl,rfl⟩)|(rw[A4c c0 hq])
def A2Q:E4:=fun f=>if f=9 then some (.p j8) else A4B f
theorem A8N:B4 Tryz.prog A2Q:=E3 B18 (B0 Tryz.func9 rfl (by decide)) Q0
attribute [go_sem] A2Q j8
set_option maxRecDepth 100000
set_option maxHeartbeats 4000000
def A98:E4:=fun f=>match A0E f with
 | some k=>some k
 | none=>A2Q f
theorem w6:B4 Tryz.prog A98:=N2 A2x A8N
attribute [go_sem] A98 T0
def j0:Con:=⟨[.ptr (.prod (.int .i64) (.prod (.row 26 (.row 2 (.int .i64))) (.prod (.row 95 (.prod (.int .i64) (.prod (.int .i64) (.prod (.int .i64) (.row 2 (.int .i64)))))) (.row 2 (.int .i64))))),.val (.int .i64)],[⟨(.row 26 (.row 2 (.int .i64))),true⟩],fun x=>0≤x.2.1∧x.2.1 < x.1.1∧x.1.1≤4,fun x=>A6V x.1.1 x.2.1⟩
theorem B0w:C9 Tryz.prog 29 j0:=by
  refine A4 Tryz.func29 rfl ?_
  have hres:Tryz.f29.results.toList=[.tmp 4]:=rfl
  rintro⟨⟨(pi:Int),(ts:List (List Int)),(ns:List A6),(os:List Int)⟩,(ii:Int),_⟩ hc hL
  simp only[j0,go_sem] at hL
  simp only[j0,St.init,St.initG,Tryz.ntmps29,go_sem] 
  obtain⟨h1,h2,h3⟩:=(show 0≤ii∧ii < pi∧pi≤4 from hc)
  have hrl:(List.replicate pi.toNat ([]:List Int)).length=pi.toNat:=List.length_replicate
  refine oS fun _ hK1=>?_;refine oW w6 ?_;simp only[go_sem];refine hK1 _ ?_;refine oS fun _ hK2=>?_;refine oW w6 ?_;simp (maxSteps:=2000000)only[List.nodup_nil,go_sem];repeat(with_reducible first|refine oA ?_|refine And.intro (by first|exact⟨by omega,by omega⟩) ?_)
  refine hK2 _ ?_;refine oS fun _ hK3=>?_;refine oW w6 ?_;simp (maxSteps:=2000000)only[List.nodup_cons,List.nodup_nil,List.not_mem_nil,not_false_eq_true,go_sem];repeat(with_reducible first|refine oA ?_|refine And.intro (by first|exact⟨by omega,by omega⟩|omega) ?_)
  refine hK3 _ ?_;refine oS fun _ hK4=>?_;refine oW w6 ?_;simp only[go_sem];refine hK4 _ ?_;refine A0 ?_;simp only[hres,go_sem];first|exact oF|exact oFr
def A2n:E4:=fun f=>if f=29 then some (.p j0) else A98 f
theorem O4:B4 Tryz.prog A2n:=E3 B0w (B0 Tryz.func29 rfl (by decide)) w6
attribute [go_sem] A2n j0
def A21:Con:=⟨[.val ((.prod (.int .i64) (.prod (.row 26 (.row 2 (.int .i64))) (.prod (.row 95 (.prod (.int .i64) (.prod (.int .i64) (.prod (.int .i64) (.row 2 (.int .i64)))))) (.row 2 (.int .i64)))))),.val (.int .i64),.val (.int .i64),.val (.int .i64)],[⟨(.row 2 (.int .i64)),true⟩,⟨.int .i64,true⟩],fun _=>True,fun x=>B4m x.1 x.2.1 x.2.2.1 x.2.2.2.1⟩
theorem B6K:C9 Tryz.prog 11 A21:=by
  refine A4 Tryz.func11 rfl ?_
  have hres:Tryz.f11.results.toList=[.tmp 8,.tmp 9]:=rfl
  rintro⟨⟨(pi:Int),(ts:List (List Int)),(ns:List A6),(os:List Int)⟩,(ii:Int),(oi:Int),(nn:Int),_⟩ hc hL
  simp only[A21,go_sem] at hL
  simp only[A21,St.init,St.initG,Tryz.ntmps11,go_sem] 
  refine oS fun _ hK1=>?_;refine oW O4 ?_;simp only[go_sem];refine hK1 _ ?_;refine oS fun _ hK2=>?_;refine oS fun _ hK3=>?_;refine oW O4 ?_;simp only[go_sem];repeat(with_reducible refine oA ?_)
  refine hK3 _ ?_;refine oC rfl ?_ ?_
  ·
   intro c0;refine oS fun _ hK4=>?_;refine oW O4 ?_;simp only[go_sem];refine hK4 _ ?_;refine A0 ?_;simp only[hres,go_sem];first|exact oF|(refine⟨?_,oF⟩;first|(rw[C2E c0];exact⟨rfl,rfl⟩)|(rw[C2E c0]))
  intro c0;have hF:=(B8 c0).1
  have hpi0:0≤pi∧pi≤4:=⟨(A8 hF).2.2.2.1,(A8 hF).2.2.2.2.1⟩
  have ho4:os.length≤4:=(A8 hF).2.1
  have hwp:IntKind.i64.wrap (pi - 1)=pi - 1:=F3 (by omega)
  have hwo:IntKind.i64.wrap ((os.length:Int) - 1)=os.length - 1:=F3 (by omega)
  refine A2 ?_;simp only[go_sem];refine hK2 _ ?_;refine oS fun _ hK5=>?_;refine oS fun _ hK6=>?_;refine oW O4 ?_;simp (maxSteps:=2000000)only[hwp,hwo,go_sem];repeat' (with_reducible first|refine oA ?_|refine oT (fun g3=>?_) (fun g3=>?_)|refine oE (fun g3=>?_) (fun g3=>?_))
  all_goals
   refine hK6 _ ?_;refine E2 rfl ?_ ?_
   ·
    intro c1;try simp only[zA,zB,zC,zD,zE,zF,zG,zH,zI] at c1
    all_goals
     refine oS fun _ hK7=>?_;refine oW O4 ?_;simp only[go_sem];refine hK7 _ ?_;refine A0 ?_;simp only[hres,go_sem]
     first
      | exact oF
      | refine ⟨?_, oF⟩
        have hK:(J3 ii 0 (pi - 1) && (J3 oi 0 ((os.length:Int) - 1) && J3 nn 0 4000))=false:=by first|(rw[show J3 ii 0 (pi - 1)=false by assumption];rfl)|(rw[show J3 oi 0 ((os.length:Int) - 1)=false by assumption,Bool.false_and,Bool.and_false])|(rw[show J3 nn 0 4000=false by assumption,Bool.and_false,Bool.and_false])
        first|(rw[C3U c0 hK];exact⟨rfl,rfl⟩)|(rw[C3U c0 hK])
   ·
    intro c1;try simp only[zA,zB,zC,zD,zE,zF,zG,zH,zI] at c1
    all_goals
     have hk1:J3 ii 0 (pi - 1)=true:=by assumption
     have hk2:J3 oi 0 ((os.length:Int) - 1)=true:=by assumption
     have hk3:J3 nn 0 4000=true:=by assumption
     have hK:(J3 ii 0 (pi - 1) && (J3 oi 0 ((os.length:Int) - 1) && J3 nn 0 4000))=true:=by rw[hk1,hk2,hk3];rfl
     obtain⟨q1,q2⟩:=C1.1 hk1
     obtain⟨q3,q4⟩:=C1.1 hk2
     obtain⟨q5,q6⟩:=C1.1 hk3
     have hio:J9 (pi,ts,ns,os) (A6V pi ii):=C1W (p:=(pi,ts,ns,os)) hpi0.1
     have hrc:B9 (pi,ts,ns,os)=true∧J9 (pi,ts,ns,os) (A6V pi ii)∧J3 nn 0 1000000=true:=⟨c0,hio,J8 (by omega) (by omega)⟩
     have hll:(H9 (pi,ts,ns,os) (A6V pi ii) nn.toNat).length=os.length:=T1 hF hio _
     have hq2:ii < pi:=by omega
     have hrl:(List.replicate pi.toNat ([]:List Int)).length=pi.toNat:=List.length_replicate
     have himp:(List.replicate pi.toNat ([]:List Int)).set ii.toNat [1]=A6V pi ii:=rfl
     refine A2 ?_;simp only[go_sem];refine hK5 _ ?_;refine oS fun _ hK8=>?_;refine oW O4 ?_;simp (maxSteps:=2000000)only[hll,go_sem];repeat(with_reducible first|refine oA ?_|refine And.intro (by first|exact⟨q1,hq2,hpi0.2⟩|exact hrc) ?_)
     refine hK8 _ ?_;refine C0P 8 9001 ?_
     simp (maxSteps:=2000000)only[go_sem];repeat(with_reducible refine And.intro (by first|omega|decide) ?_)
     refine A0 ?_;simp only[hres,go_sem];first|exact oF|(refine⟨?_,oF⟩;first|(rw[B7M c0 hK];exact⟨rfl,rfl⟩)|(rw[B7M c0 hK]))
def A7H:E4:=fun f=>if f=11 then some (.p A21) else A2n f
theorem B30:B4 Tryz.prog A7H:=E3 B6K (B0 Tryz.func11 rfl (by decide)) O4
attribute [go_sem] A7H A21
end Go.Proofs.YtgaogcnfijbahaaGreat
