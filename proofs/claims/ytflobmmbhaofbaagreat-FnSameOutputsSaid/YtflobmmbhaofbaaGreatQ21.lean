/-
  Texts of this claim, joined (part 21). No condition beyond those of the theorems.
-/
import Derived.Test.YtflobmmbhaofbaaGreatQ14
import Derived.Test.YtflobmmbhaofbaaGreatQ17
import Derived.Test.YtflobmmbhaofbaaGreatQ18
import Derived.Test.YtflobmmbhaofbaaGreatQ11
import Derived.Test.YtflobmmbhaofbaaGreatQ20
namespace Go.Proofs.YtflobmmbhaofbaaGreat
open Go.RowKit
set_option linter.unusedSimpArgs false
set_option linter.unusedVariables false
set_option maxRecDepth 100000
set_option maxHeartbeats 16000000
def B1L:F8:=fun f=>match A6X f with
 | some k=>some k
 | none=>A3D f
theorem B5a:B8 Tryz.prog B1L:=T3 B2U A2R
attribute [go_sem] B1L T0
def B1H:F8:=fun f=>match B1L f with
 | some k=>some k
 | none=>A0S f
theorem E2:B8 Tryz.prog B1H:=T3 B5a t2
attribute [go_sem] B1H T0
def z9:GCon where
  ps:=[.po 0,.ptr ((.prod (.int .i64) (.prod (.row 26 (.row 2 (.int .i64))) (.prod (.row 56 (.prod (.int .i64) (.prod (.int .i64) (.prod (.int .i64) (.row 2 (.int .i64)))))) (.row 2 (.int .i64))))))]
  os:=[.box [.rd ((.row 5 (.int .u8))),.rd (.int .i64),.rd (.int .u64)]]
  c:=fun x=>srcOk 250 (x.2.1.1,x.2.1.2.1,x.2.1.2.2.1)∧C7 x.1.2.1=true
  r:=fun x=>.agg [.sc (.int .i64 (A3E x.1.2.1 (x.2.1.1,x.2.1.2.1,x.2.1.2.2.1)).1.1),.ow 10,.ow 11,.ow 12]
  o:=fun x=>[(30,.box [.rd [] 5 (.int .u8) ((A3E x.1.2.1 (x.2.1.1,x.2.1.2.1,x.2.1.2.2.1)).2.1),.sc (.int .i64 ((A3E x.1.2.1 (x.2.1.1,x.2.1.2.1,x.2.1.2.2.1)).2.2.1)),.sc (.int .u64 ((A3E x.1.2.1 (x.2.1.1,x.2.1.2.1,x.2.1.2.2.1)).2.2.2))]),(10,.tree 26 (.row 2 (.int .i64)) ((A3E x.1.2.1 (x.2.1.1,x.2.1.2.1,x.2.1.2.2.1)).1.2.1) none),(11,.tree 56 ((.prod (.int .i64) (.prod (.int .i64) (.prod (.int .i64) (.row 2 (.int .i64)))))) ((A3E x.1.2.1 (x.2.1.1,x.2.1.2.1,x.2.1.2.2.1)).1.2.2.1) none),(12,.row 2 (.int .i64) ((A3E x.1.2.1 (x.2.1.1,x.2.1.2.1,x.2.1.2.2.1)).1.2.2.2) [])]
  ok:=by
    rintro⟨⟨_,⟨(pi:Int),(ts:List (List Int)),(ns:List A4),(os:List Int)⟩,_⟩,⟨⟨(cd:List Int),(pt:Int),(sd:Int),_⟩,_⟩⟩
    exact⟨rfl,rfl,by decide⟩
theorem B57:W3 Tryz.prog 30 z9:=by
  refine D8 Tryz.func30 rfl ?_
  have hres:Tryz.f30.results.toList=[.cell 4 28]:=rfl
  rintro⟨⟨_,⟨(pi:Int),(ts:List (List Int)),(ns:List A4),(os:List Int)⟩,_⟩,⟨⟨(cd:List Int),(pt:Int),(sd:Int),_⟩,_⟩⟩ hc hL hO
  simp only[z9,go_sem] at hL
  simp only[z9,go_sem] at hO
  simp only[z9,St.init,St.initG,Tryz.ntmps30,go_sem] 
  obtain⟨hs0,hP⟩:=(show srcOk 250 (cd,pt,sd)∧C7 (pi,ts,ns,os)=true from hc)
  have hF:=(A9 hP).1
  have hU:=L3 hF
  have hfp:=X9 (Z8 (p:=(pi,ts,ns,os)) hP)
  have hn24:ns.length≤24:=(A8 hF).1
  have ho4:os.length≤4:=(A8 hF).2.1
  have hos:J4 ns.length os=true:=(A8 hF).2.2.2.2.2.1
  have hl3:∀nd∈ns,nd.2.2.2.length≤3:=fun nd hd=>(hU.2 nd hd).2.1
  refine oS fun _ hK1=>?_;refine oW E2 ?_;simp only[go_sem];repeat(with_reducible first|refine oA ?_|refine And.intro (by first|exact hfp|exact G4) ?_)
  refine hK1 _ ?_;refine oS fun _ hK2=>?_;refine oW E2 ?_;simp only[List.nodup_cons,List.nodup_nil,List.not_mem_nil,not_false_eq_true,go_sem];repeat(with_reducible first|refine oA ?_|refine And.intro (by first|exact hfp|exact G4) ?_)
  refine hK2 _ ?_;refine oS fun _ hK3=>?_;refine oW E2 ?_;simp (maxSteps:=2000000)only[go_sem];repeat(with_reducible first|refine oA ?_|refine And.intro (by first|exact hfp|exact G4) ?_)
  refine hK3 _ ?_;refine oS fun _ hK4=>?_;refine oS fun _ hK5=>?_;refine oW E2 ?_;simp only[go_sem];repeat(with_reducible first|refine oA ?_|refine And.intro (by first|exact hfp|exact G4) ?_)
  refine hK5 _ ?_;refine A5 ?_;refine B4 (ι:={ k:Nat // k≤ns.length }) (fun k=>⟨(.c (.po 30 0)::.c (.pt [] ((.prod (.int .i64) (.prod (.row 26 (.row 2 (.int .i64))) (.prod (.row 56 (.prod (.int .i64) (.prod (.int .i64) (.prod (.int .i64) (.row 2 (.int .i64)))))) (.row 2 (.int .i64)))))) (pi,ts,ns,os) 0)::zz::zz::.c (.po 164 0)::.c (.po 180 0)::.c (.sc (.int .i64 (ns.length)))::.c (.sc (.int .i64 (k.1)))::zz::zz::zz::zz::zz::zz::zz::zz::zz::zz::zz::zz::zz::zz::zz::zz::zz::zz::zz::zz::zz::zz::zz::zz::zz::zz::zz::zz::zz::zz::zz::zz::zz::zz::zz::zz::zz::zz::zz::zz::zz::zz::zz::zz::zz::zz::zz::zz::zz::zz::zz::zz::zz::zz::zz::zz::zz::zz::zz::zz::zz::zz::zz::zz::zz::zz::zz::zz::zz::zz::zz::zz::zz::zz::zz::zz::zz::zz::zz::zz::zz::zz::zz::zz::zz::zz::zz::zz::zz::zz::zz::zz::zz::zz::zz::zz::zz::zz::zz::zz::zz::zz::zz::zz::zz::zz::zz::zz::zz::zz::zz::zz::zz::zz::zz::zz::zz::zz::zz::zz::zz::zz::zz::zz::zz::zz::zz::zz::zz::zz::[]),[(30,.box [.rd [] 5 (.int .u8) ((itI (U5 ns) k.1 ns (cd,pt,sd)).2.1),.sc (.int .i64 ((itI (U5 ns) k.1 ns (cd,pt,sd)).2.2.1)),.sc (.int .u64 ((itI (U5 ns) k.1 ns (cd,pt,sd)).2.2.2))]),(164,.box [.sc (.int .i64 (0)),.sc (.slice none 0 0),.sc (.slice none 0 0),.sc (.slice none 0 0)]),(180,.box [.sc (.int .i64 (pi)),.ow 9001,.ow 9002,.ow 9003]),(9001,.tree 26 (.row 2 (.int .i64)) (ts) none),(9002,.tree 56 (.prod (.int .i64) (.prod (.int .i64) (.prod (.int .i64) (.row 2 (.int .i64))))) ((itI (U5 ns) k.1 ns (cd,pt,sd)).1) none),(9003,.row 2 (.int .i64) (os) [])]⟩) (fun k=>ns.length - k.1) ⟨0,by simp⟩ ?_ ?_
  ·
   refine oK ?_;simp (maxSteps:=2000000)only[go_sem];all_goals((repeat' refine And.intro ?_ ?_)<;>first|rfl|trivial|exact wk (by omega)|omega|(simp;done)|(congr 1;done))
  rintro⟨k,hk⟩ K6 hL6
  rcases hit:itI (U5 ns) k ns (cd,pt,sd) with⟨v1,u1,p1,q1⟩
  have hs1:=(Cost.itI (B4O hl3) k ns).at hs0 (by omega) hit
  have hvl:v1.length≤24:=B3Q hn24 hit
  refine oS fun _ hK7=>?_;refine oS fun _ hK8=>?_;refine oW E2 ?_;simp (maxSteps:=2000000)only[go_sem];repeat' (with_reducible first|refine oA ?_|refine And.intro (by first|exact hfp|exact G4) ?_|refine oT (fun g4=>?_) (fun g4=>?_)|refine oE (fun g4=>?_) (fun g4=>?_))
  all_goals
   refine hK8 _ ?_;refine D2 rfl ?_ ?_
   ·
    intro c0;try simp only[zA,zB,zC,zD,zE,zF,zG,zH,zI] at c0
    all_goals
     have hk1:k < ns.length:=by omega
     have hlt24:v1.length < 24:=by omega
     obtain⟨hx1,hx2,hx3⟩:=(hU.2 _ (B9 (d:=((0,0,0,[]):A4)) hk1)).2
     have hx1:(ns.getD k ((0,0,0,[]):A4)).2.2.2.length≤3:=hx1
     have hx2:J4 ns.length (ns.getD k ((0,0,0,[]):A4)).2.2.2=true:=hx2
     rcases hfa:itI (b4 (ns.length:Int) (v1.length:Int)) (ns.getD k ((0,0,0,[]):A4)).2.2.2.length (ns.getD k ((0,0,0,[]):A4)).2.2.2 (u1,p1,q1) with⟨v8,u8,p8,q8⟩
     have hs8:=(Cost.itI (A3Q (ns.length:Int) (v1.length:Int)) (ns.getD k ((0,0,0,[]):A4)).2.2.2.length (ns.getD k ((0,0,0,[]):A4)).2.2.2).at hs1 (by omega) hfa
     rcases hsw:A6I v8 (u8,p8,q8) with⟨v5,u5,p5,q5⟩
     have hs5:=(A6n v8).at hs8 (by omega) hsw
     rcases hr9:U4 9 (u5,p5,q5) with⟨v9,u9,p9,q9⟩
     have hs9:=n8 hs5 (by omega) hr9
     have hnx:(itI (U5 ns) (k+1) ns (cd,pt,sd))=(v1++[((ns.getD k ((0,0,0,[]):A4)).1,(match v9 && decide ((ns.getD k ((0,0,0,[]):A4)).1=5) with|true=>7|false=>(ns.getD k ((0,0,0,[]):A4)).2.1),(ns.getD k ((0,0,0,[]):A4)).2.2.1,v5)],u9,p9,q9):=(U6 hit).trans (by simp only[U5,decide_eq_true hlt24,bnd,B5c,show n0=((0,0,0,[]):A4) from rfl,hfa,hsw,cpA,hr9];first|done|rfl)
     refine A3 ?_;simp only[go_sem];refine hK7 _ ?_;refine oS fun _ hK9=>?_;refine A5 ?_;refine oS fun _ hK10=>?_;refine oW E2 ?_;simp (maxSteps:=2000000)only[go_sem];repeat(with_reducible first|refine oA ?_|refine And.intro (by first|exact hfp|exact G4) ?_)
     refine hK10 _ ?_;refine oS fun _ hK11=>?_;refine oW E2 ?_;simp (maxSteps:=2000000)only[List.nodup_nil,go_sem];repeat(with_reducible first|refine oA ?_|refine And.intro (by first|exact hfp|exact G4) ?_)
     refine hK11 _ ?_;refine oS fun _ hK12=>?_;refine oS fun _ hK13=>?_;refine oW E2 ?_;simp only[go_sem];repeat(with_reducible first|refine oA ?_|refine And.intro (by first|exact hfp|exact G4) ?_)
     refine hK13 _ ?_;refine A5 ?_;refine B4 (ι:={ m:Nat // m≤(ns.getD k ((0,0,0,[]):A4)).2.2.2.length }) (fun k'=>⟨(.c (.po 30 0)::.c (.pt [] ((.prod (.int .i64) (.prod (.row 26 (.row 2 (.int .i64))) (.prod (.row 56 (.prod (.int .i64) (.prod (.int .i64) (.prod (.int .i64) (.row 2 (.int .i64)))))) (.row 2 (.int .i64)))))) (pi,ts,ns,os) 0)::zz::zz::.c (.po 164 0)::.c (.po 180 0)::.c (.sc (.int .i64 (ns.length)))::.c (.sc (.int .i64 (k)))::.c (.po 228 0)::.c (.sc (.int .i64 (k'.1)))::zz::zz::zz::zz::zz::zz::zz::zz::zz::zz::zz::zz::zz::zz::zz::zz::zz::zz::zz::zz::zz::zz::zz::zz::zz::zz::zz::zz::zz::zz::zz::zz::zz::zz::zz::zz::zz::zz::zz::zz::zz::zz::zz::zz::zz::zz::zz::zz::zz::zz::zz::zz::zz::zz::zz::zz::zz::zz::zz::zz::zz::zz::zz::zz::zz::zz::zz::zz::zz::zz::zz::zz::zz::zz::zz::zz::zz::zz::zz::zz::zz::zz::zz::zz::zz::zz::zz::zz::zz::zz::zz::zz::zz::zz::zz::zz::zz::zz::zz::zz::zz::zz::zz::zz::zz::zz::zz::zz::zz::zz::zz::zz::zz::zz::zz::zz::zz::zz::zz::zz::zz::zz::zz::zz::zz::zz::zz::zz::[]),[(30,.box [.rd [] 5 (.int .u8) ((itI (b4 (ns.length:Int) (v1.length:Int)) k'.1 (ns.getD k ((0,0,0,[]):A4)).2.2.2 (u1,p1,q1)).2.1),.sc (.int .i64 ((itI (b4 (ns.length:Int) (v1.length:Int)) k'.1 (ns.getD k ((0,0,0,[]):A4)).2.2.2 (u1,p1,q1)).2.2.1)),.sc (.int .u64 ((itI (b4 (ns.length:Int) (v1.length:Int)) k'.1 (ns.getD k ((0,0,0,[]):A4)).2.2.2 (u1,p1,q1)).2.2.2))]),(164,.box [.sc (.int .i64 (0)),.sc (.slice none 0 0),.sc (.slice none 0 0),.sc (.slice none 0 0)]),(180,.box [.sc (.int .i64 (pi)),.ow 9001,.ow 9002,.ow 9003]),(9001,.tree 26 (.row 2 (.int .i64)) (ts) none),(9002,.tree 56 (.prod (.int .i64) (.prod (.int .i64) (.prod (.int .i64) (.row 2 (.int .i64))))) (v1) none),(9003,.row 2 (.int .i64) (os) []),(228,.box [.sc (.int .i64 ((ns.getD k ((0,0,0,[]):A4)).1)),.sc (.int .i64 ((ns.getD k ((0,0,0,[]):A4)).2.1)),.sc (.int .i64 ((ns.getD k ((0,0,0,[]):A4)).2.2.1)),.ow 9004]),(9004,.row 2 (.int .i64) ((itI (b4 (ns.length:Int) (v1.length:Int)) k'.1 (ns.getD k ((0,0,0,[]):A4)).2.2.2 (u1,p1,q1)).1) [])]⟩) (fun k'=>(ns.getD k ((0,0,0,[]):A4)).2.2.2.length - k'.1) ⟨0,by simp⟩ ?_ ?_
     ·
      refine oK ?_;simp (maxSteps:=2000000)only[go_sem];all_goals((repeat' refine And.intro ?_ ?_)<;>first|rfl|trivial|exact wk (by omega)|omega|(simp;done)|(congr 1;done))
     rintro⟨m,hm⟩ K14 hL14
     rcases hif:itI (b4 (ns.length:Int) (v1.length:Int)) m (ns.getD k ((0,0,0,[]):A4)).2.2.2 (u1,p1,q1) with⟨v2,u2,p2,q2⟩
     have hs2:=(Cost.itI (A3Q (ns.length:Int) (v1.length:Int)) m (ns.getD k ((0,0,0,[]):A4)).2.2.2).at hs1 (by omega) hif
     have hl2:v2.length=(ns.getD k ((0,0,0,[]):A4)).2.2.2.length:=B0B hif
     refine oS fun _ hK15=>?_;refine oS fun _ hK16=>?_;refine oW E2 ?_;simp (maxSteps:=2000000)only[go_sem];repeat(with_reducible first|refine oA ?_|refine And.intro (by first|exact hfp|exact G4) ?_)
     refine hK16 _ ?_;refine D2 rfl ?_ ?_
     ·
      intro c1;try simp only[zA,zB,zC,zD,zE,zF,zG,zH,zI] at c1
      all_goals
       have hm1:m < (ns.getD k ((0,0,0,[]):A4)).2.2.2.length:=by omega
       have hix:=I5 hx2 (B9 (d:=(0:Int)) hm1)
       have hvm:v2.getD m 0=(ns.getD k ((0,0,0,[]):A4)).2.2.2.getD m 0:=B06 hif m (Nat.le_refl _)
       have hw:IntKind.i64.wrap (v2.getD m 0+(ns.length:Int))=v2.getD m 0+(ns.length:Int):=G9 (by omega)
       rcases hr3:U4 2 (u2,p2,q2) with⟨v3,u3,p3,q3⟩
       have hs3:=n8 hs2 (by omega) hr3
       refine A3 ?_;simp only[go_sem];refine hK15 _ ?_;refine oS fun _ hK17=>?_;refine A5 ?_;refine oS fun _ hK18=>?_;refine oW E2 ?_;simp (maxSteps:=2000000)only[hl2,hw,go_sem];repeat(with_reducible first|refine oA ?_|refine And.intro (by first|exact hfp|exact G4) ?_)
       refine hK18 _ ?_;refine oS fun _ hK19=>?_;refine oW E2 ?_;simp (maxSteps:=2000000)only[hr3,go_sem];repeat' (with_reducible first|refine oA ?_|refine And.intro (by first|exact hfp|exact G4) ?_|refine oT (fun g12=>?_) (fun g12=>?_)|refine oE (fun g12=>?_) (fun g12=>?_))
       all_goals
        refine hK19 _ ?_;refine D2 rfl ?_ ?_
        ·
         intro c2;try simp only[zA,zB,zC,zD,zE,zF,zG,zH,zI] at c2
         all_goals
          have hnf:(itI (b4 (ns.length:Int) (v1.length:Int)) (m+1) (ns.getD k ((0,0,0,[]):A4)).2.2.2 (u1,p1,q1))=(v2.set m (v2.getD m 0+(ns.length:Int)),u3,p3,q3):=(U6 hif).trans (by simp only[b4,bnd,hr3,show v3=true by assumption,decide_eq_true (show v2.getD m 0+(ns.length:Int) < (v1.length:Int) by omega),Bool.and_self])
          refine oW E2 ?_;simp (maxSteps:=2000000)only[hl2,go_sem];repeat(with_reducible first|refine oA ?_|refine And.intro (by first|exact hfp|exact G4) ?_)
          refine hK17 _ ?_;refine oW E2 ?_;simp only[go_sem];repeat(with_reducible first|refine oA ?_|refine And.intro (by first|exact hfp|exact G4) ?_)
          refine hL14 ⟨m+1,by omega⟩ _ (oK ?_) ?_
          ·
           simp (maxSteps:=2000000)only[go_sem];all_goals(try simp only[hnf])
           all_goals((repeat' refine And.intro ?_ ?_)<;>first|rfl|trivial|exact wk (by omega)|omega|(simp;done)|(congr 1;done))
          ·
           first|(simp only[];omega)|omega|(simp;omega)
        ·
         intro c2;try simp only[zA,zB,zC,zD,zE,zF,zG,zH,zI] at c2
         all_goals
          have hnf:(itI (b4 (ns.length:Int) (v1.length:Int)) (m+1) (ns.getD k ((0,0,0,[]):A4)).2.2.2 (u1,p1,q1))=(v2,u3,p3,q3):=(U6 hif).trans (by simp only[b4,bnd,hr3];first|(rw[show v3=false by assumption];rfl)|(rw[decide_eq_false (show ¬v2.getD m 0+(ns.length:Int) < (v1.length:Int) by omega),Bool.and_false]))
          refine A3 ?_;simp only[go_sem];refine hK17 _ ?_;refine oW E2 ?_;simp only[go_sem];repeat(with_reducible first|refine oA ?_|refine And.intro (by first|exact hfp|exact G4) ?_)
          refine hL14 ⟨m+1,by omega⟩ _ (oK ?_) ?_
          ·
           simp (maxSteps:=2000000)only[go_sem];all_goals(try simp only[hnf])
           all_goals((repeat' refine And.intro ?_ ?_)<;>first|rfl|trivial|exact wk (by omega)|omega|(simp;done)|(congr 1;done))
          ·
           first|(simp only[];omega)|omega|(simp;omega)
     ·
      intro c1;try simp only[zA,zB,zC,zD,zE,zF,zG,zH,zI] at c1
      all_goals
       obtain rfl:m=(ns.getD k ((0,0,0,[]):A4)).2.2.2.length:=by omega
       have hq:(v2,u2,p2,q2)=(v8,u8,p8,q8):=hif.symm.trans hfa
       simp only[Prod.mk.injEq] at hq
       obtain⟨hq1,hq2,hq3,hq4⟩:=hq;subst hq1 hq2 hq3 hq4
       refine C2 ?_;simp only[go_sem];refine hK12 _ ?_;refine N9 (True) ⟨(.c (.po 30 0)::.c (.pt [] ((.prod (.int .i64) (.prod (.row 26 (.row 2 (.int .i64))) (.prod (.row 56 (.prod (.int .i64) (.prod (.int .i64) (.prod (.int .i64) (.row 2 (.int .i64)))))) (.row 2 (.int .i64)))))) (pi,ts,ns,os) 0)::zz::zz::.c (.po 164 0)::.c (.po 180 0)::.c (.sc (.int .i64 (ns.length)))::.c (.sc (.int .i64 (k)))::.c (.po 228 0)::zz::zz::zz::zz::zz::zz::zz::zz::zz::zz::zz::zz::zz::zz::zz::zz::zz::zz::zz::zz::zz::zz::zz::zz::zz::zz::zz::zz::zz::zz::zz::zz::zz::zz::zz::zz::zz::zz::zz::zz::zz::zz::zz::zz::zz::zz::zz::zz::zz::zz::zz::zz::zz::zz::zz::zz::zz::zz::zz::zz::zz::zz::zz::zz::zz::zz::zz::zz::zz::zz::zz::zz::zz::zz::zz::zz::zz::zz::zz::zz::zz::zz::zz::zz::zz::zz::zz::zz::zz::zz::zz::zz::zz::zz::zz::zz::zz::zz::zz::zz::zz::zz::zz::zz::zz::zz::zz::zz::zz::zz::zz::zz::zz::zz::zz::zz::zz::zz::zz::zz::zz::zz::zz::zz::zz::zz::zz::zz::zz::[]),[(30,.box [.rd [] 5 (.int .u8) (u5),.sc (.int .i64 (p5)),.sc (.int .u64 (q5))]),(164,.box [.sc (.int .i64 (0)),.sc (.slice none 0 0),.sc (.slice none 0 0),.sc (.slice none 0 0)]),(180,.box [.sc (.int .i64 (pi)),.ow 9001,.ow 9002,.ow 9003]),(9001,.tree 26 (.row 2 (.int .i64)) (ts) none),(9002,.tree 56 (.prod (.int .i64) (.prod (.int .i64) (.prod (.int .i64) (.row 2 (.int .i64))))) (v1) none),(9003,.row 2 (.int .i64) (os) []),(228,.box [.sc (.int .i64 ((ns.getD k ((0,0,0,[]):A4)).1)),.sc (.int .i64 ((ns.getD k ((0,0,0,[]):A4)).2.1)),.sc (.int .i64 ((ns.getD k ((0,0,0,[]):A4)).2.2.1)),.ow 9004]),(9004,.row 2 (.int .i64) (v5) [])]⟩ ?_ fun _ hK20=>?_
       ·
        intro hJ;refine oS fun _ hK21=>?_;refine oS fun _ hK22=>?_;refine oW E2 ?_;simp (maxSteps:=2000000)only[hr9,go_sem];repeat' (with_reducible first|refine oA ?_|refine And.intro (by first|exact hfp|exact G4) ?_|refine oT (fun g18=>?_) (fun g18=>?_)|refine oE (fun g18=>?_) (fun g18=>?_))
        all_goals
         refine hK22 _ ?_;refine D2 rfl ?_ ?_
         ·
          intro c4;try simp only[zA,zB,zC,zD,zE,zF,zG,zH,zI] at c4
          all_goals
           have hnx2:(itI (U5 ns) (k+1) ns (cd,pt,sd))=(v1++[((ns.getD k ((0,0,0,[]):A4)).1,7,(ns.getD k ((0,0,0,[]):A4)).2.2.1,v5)],u9,p9,q9):=by rw[hnx,show v9=true by assumption,decide_eq_true (show (ns.getD k ((0,0,0,[]):A4)).1=5 by assumption)];rfl
           refine oW E2 ?_;simp only[go_sem];repeat(with_reducible first|refine oA ?_|refine And.intro (by first|exact hfp|exact G4) ?_)
           refine hK21 _ ?_;refine oW E2 ?_;simp (maxSteps:=2000000)only[List.nodup_cons,List.nodup_nil,List.not_mem_nil,not_false_eq_true,hvl,go_sem];repeat(with_reducible first|refine oA ?_|refine And.intro (by first|exact hfp|exact G4) ?_)
           refine hK9 _ ?_;refine oW E2 ?_;simp only[go_sem];repeat(with_reducible first|refine oA ?_|refine And.intro (by first|exact hfp|exact G4) ?_)
           refine hL6 ⟨k+1,by omega⟩ _ (oK ?_) ?_
           ·
            simp (maxSteps:=2000000)only[go_sem];all_goals(try simp only[hnx2])
            all_goals((repeat' refine And.intro ?_ ?_)<;>first|rfl|trivial|exact wk (by omega)|omega|(simp;done)|(congr 1;done))
           ·
            first|(simp only[];omega)|omega|(simp;omega)
         ·
          intro c4;try simp only[zA,zB,zC,zD,zE,zF,zG,zH,zI] at c4
          all_goals
           have hnx2:(itI (U5 ns) (k+1) ns (cd,pt,sd))=(v1++[((ns.getD k ((0,0,0,[]):A4)).1,(ns.getD k ((0,0,0,[]):A4)).2.1,(ns.getD k ((0,0,0,[]):A4)).2.2.1,v5)],u9,p9,q9):=by
             rw[hnx];first|(rw[show v9=false by assumption];rfl)|(rw[decide_eq_false (show ¬(ns.getD k ((0,0,0,[]):A4)).1=5 by assumption),Bool.and_false])
           refine A3 ?_;simp only[go_sem];refine hK21 _ ?_;refine oW E2 ?_;simp (maxSteps:=2000000)only[List.nodup_cons,List.nodup_nil,List.not_mem_nil,not_false_eq_true,hvl,go_sem];repeat(with_reducible first|refine oA ?_|refine And.intro (by first|exact hfp|exact G4) ?_)
           refine hK9 _ ?_;refine oW E2 ?_;simp only[go_sem];repeat(with_reducible first|refine oA ?_|refine And.intro (by first|exact hfp|exact G4) ?_)
           refine hL6 ⟨k+1,by omega⟩ _ (oK ?_) ?_
           ·
            simp (maxSteps:=2000000)only[go_sem];all_goals(try simp only[hnx2])
            all_goals((repeat' refine And.intro ?_ ?_)<;>first|rfl|trivial|exact wk (by omega)|omega|(simp;done)|(congr 1;done))
           ·
            first|(simp only[];omega)|omega|(simp;omega)
       refine oS fun _ hK23=>?_;rcases hr4:U4 2 (u2,p2,q2) with⟨v4,u4,p4,q4⟩
       have hs4:=n8 hs2 (by omega) hr4
       refine oW E2 ?_;simp (maxSteps:=2000000)only[hr4,go_sem];repeat' (with_reducible first|refine oA ?_|refine And.intro (by first|exact hfp|exact G4) ?_|refine oT (fun g14=>?_) (fun g14=>?_)|refine oE (fun g14=>?_) (fun g14=>?_))
       all_goals
        refine hK23 _ ?_;refine D2 rfl ?_ ?_
        ·
         intro c3;try simp only[zA,zB,zC,zD,zE,zF,zG,zH,zI] at c3
         all_goals
          have hl22:v2.length=2:=by omega
          have hv4:v4=true:=by assumption
          have hq:((v2.set 0 (v2.getD 1 0)).set 1 (v2.getD 0 0),u4,p4,q4)=(v5,u5,p5,q5):=by rw[←hsw];simp only[A6I,decide_eq_true hl22,bnd,hr4,hv4]
          simp only[Prod.mk.injEq] at hq
          obtain⟨hq1,hq2,hq3,hq4⟩:=hq;subst hq1 hq2 hq3 hq4
          refine oS fun _ hK24=>?_;refine oW E2 ?_;simp (maxSteps:=2000000)only[hl2,go_sem];repeat(with_reducible first|refine oA ?_|refine And.intro (by first|exact hfp|exact G4) ?_)
          refine hK24 _ ?_;refine oS fun _ hK25=>?_
          refine oR E2
            [[],[0],[],[2],[2,3],[2,3,4],[0,1,2,3,4,5],[0,1,2,3,4,5,6]]
            [[],[],[],[],[],[],[],[]]
            [[],[],[],[],[],[],[],[]] (by kernel_rfl) (by kernel_rfl) (B7 (acc:=[]) ?_)
          simp (maxSteps:=2000000)only[hl2,go_sem];repeat(with_reducible first|refine oD ?_|refine And.intro (by first|exact hfp|exact G4) ?_)
          refine hK25 _ ?_;refine oW E2 ?_;simp (maxSteps:=2000000)only[hl2,List.length_set,go_sem];repeat(with_reducible first|refine oA ?_|refine And.intro (by first|exact hfp|exact G4) ?_)
          refine hK20 _ (oK ?_) ?_
          ·
           simp (maxSteps:=2000000)only[go_sem];all_goals((repeat' refine And.intro ?_ ?_)<;>first|rfl|trivial|exact wk (by omega)|omega|(simp;done)|(congr 1;done))
          ·
           trivial
        ·
         intro c3;try simp only[zA,zB,zC,zD,zE,zF,zG,zH,zI] at c3
         all_goals
          first|(have hq:(v2,u4,p4,q4)=(v5,u5,p5,q5):=by(rw[←hsw];simp only[A6I,decide_eq_true (show v2.length=2 by omega),bnd,hr4,show v4=false by assumption]))|(have hq:(v2,u2,p2,q2)=(v5,u5,p5,q5):=by(rw[←hsw];simp only[A6I,decide_eq_false (show ¬v2.length=2 by omega)]))
          simp only[Prod.mk.injEq] at hq
          obtain⟨hq1,hq2,hq3,hq4⟩:=hq;subst hq1 hq2 hq3 hq4
          refine A3 ?_;simp only[go_sem];refine hK20 _ (oK ?_) ?_
          ·
           simp (maxSteps:=2000000)only[go_sem];all_goals((repeat' refine And.intro ?_ ?_)<;>first|rfl|trivial|exact wk (by omega)|omega|(simp;done)|(congr 1;done))
          ·
           trivial
   ·
    intro c0;try simp only[zA,zB,zC,zD,zE,zF,zG,zH,zI] at c0
    all_goals
     have hfin:(itI (U5 ns) ns.length ns (cd,pt,sd))=(v1,u1,p1,q1):=by
       rcases Nat.lt_or_ge k ns.length with h|h
       · have:=B1E hit (show 24≤v1.length by omega) (ns.length - k)
         rwa [show k+(ns.length - k)=ns.length by omega] at this
       · rwa [show k=ns.length by omega] at hit
     refine C2 ?_;simp only[go_sem];refine hK4 _ ?_;refine oS fun _ hK26=>?_;refine oS fun _ hK27=>?_;refine oW E2 ?_;simp only[go_sem];repeat(with_reducible first|refine oA ?_|refine And.intro (by first|exact hfp|exact G4) ?_)
     refine hK27 _ ?_;refine A5 ?_;refine B4 (ι:={ j:Nat // j≤os.length }) (fun k'=>⟨(.c (.po 30 0)::zz::zz::zz::.c (.po 164 0)::.c (.po 180 0)::.c (.sc (.int .i64 (ns.length)))::zz::zz::zz::zz::zz::.c (.sc (.int .i64 (k'.1)))::zz::zz::zz::zz::zz::zz::zz::zz::zz::zz::zz::zz::zz::zz::zz::zz::zz::zz::zz::zz::zz::zz::zz::zz::zz::zz::zz::zz::zz::zz::zz::zz::zz::zz::zz::zz::zz::zz::zz::zz::zz::zz::zz::zz::zz::zz::zz::zz::zz::zz::zz::zz::zz::zz::zz::zz::zz::zz::zz::zz::zz::zz::zz::zz::zz::zz::zz::zz::zz::zz::zz::zz::zz::zz::zz::zz::zz::zz::zz::zz::zz::zz::zz::zz::zz::zz::zz::zz::zz::zz::zz::zz::zz::zz::zz::zz::zz::zz::zz::zz::zz::zz::zz::zz::zz::zz::zz::zz::zz::zz::zz::zz::zz::zz::zz::zz::zz::zz::zz::zz::zz::zz::zz::zz::zz::[]),[(30,.box [.rd [] 5 (.int .u8) ((itI (b4 (ns.length:Int) (v1.length:Int)) k'.1 os (u1,p1,q1)).2.1),.sc (.int .i64 ((itI (b4 (ns.length:Int) (v1.length:Int)) k'.1 os (u1,p1,q1)).2.2.1)),.sc (.int .u64 ((itI (b4 (ns.length:Int) (v1.length:Int)) k'.1 os (u1,p1,q1)).2.2.2))]),(164,.box [.sc (.int .i64 (0)),.sc (.slice none 0 0),.sc (.slice none 0 0),.sc (.slice none 0 0)]),(180,.box [.sc (.int .i64 (pi)),.ow 9001,.ow 9002,.ow 9003]),(9001,.tree 26 (.row 2 (.int .i64)) (ts) none),(9002,.tree 56 (.prod (.int .i64) (.prod (.int .i64) (.prod (.int .i64) (.row 2 (.int .i64))))) (v1) none),(9003,.row 2 (.int .i64) ((itI (b4 (ns.length:Int) (v1.length:Int)) k'.1 os (u1,p1,q1)).1) [])]⟩) (fun k'=>os.length - k'.1) ⟨0,by simp⟩ ?_ ?_
     ·
      refine oK ?_;simp (maxSteps:=2000000)only[go_sem];all_goals((repeat' refine And.intro ?_ ?_)<;>first|rfl|trivial|exact wk (by omega)|omega|(simp;done)|(congr 1;done))
     rintro⟨j,hj⟩ K28 hL28
     rcases hio:itI (b4 (ns.length:Int) (v1.length:Int)) j os (u1,p1,q1) with⟨v6,u6,p6,q6⟩
     have hs6:=(Cost.itI (A3Q (ns.length:Int) (v1.length:Int)) j os).at hs1 (by omega) hio
     have hl6:v6.length=os.length:=B0B hio
     refine oS fun _ hK29=>?_;refine oS fun _ hK30=>?_;refine oW E2 ?_;simp (maxSteps:=2000000)only[go_sem];repeat(with_reducible first|refine oA ?_|refine And.intro (by first|exact hfp|exact G4) ?_)
     refine hK30 _ ?_;refine D2 rfl ?_ ?_
     ·
      intro c5;try simp only[zA,zB,zC,zD,zE,zF,zG,zH,zI] at c5
      all_goals
       have hj1:j < os.length:=by omega
       have hix:=I5 hos (B9 (d:=(0:Int)) hj1)
       have hvm:v6.getD j 0=os.getD j 0:=B06 hio j (Nat.le_refl _)
       have hw:IntKind.i64.wrap (v6.getD j 0+(ns.length:Int))=v6.getD j 0+(ns.length:Int):=G9 (by omega)
       refine A3 ?_;simp only[go_sem];refine hK29 _ ?_;refine oS fun _ hK31=>?_;refine A5 ?_;refine oS fun _ hK32=>?_;rcases hr7:U4 2 (u6,p6,q6) with⟨v7,u7,p7,q7⟩
       have hs7:=n8 hs6 (by omega) hr7
       refine oR E2
         [[],[0],[0,1],[0,1,2],[0,1,2,3],[0,1,2],[0,1,2,3,4,5],[0,1,2,3,4,5,6],[0,1,2],[0,1,2,3,4,5,6,7,8],[0,1,2],[0,1,2,10],[0,1,2,10,11],[0,1,2,3,4,5,6,7,8,9,10,11,12],[0,1,2,3,4,5,6,7,8,9,10,11,12,13]]
         [[],[],[],[],[],[],[],[],[],[],[],[],[],[],[]]
         [[],[],[],[],[],[],[],[],[],[],[],[],[],[],[]] (by kernel_rfl) (by kernel_rfl) (B7 (acc:=[]) ?_)
       simp (maxSteps:=2000000)only[hr7,hl6,hw,go_sem];repeat' (with_reducible first|refine oD ?_|refine And.intro (by first|exact hfp|exact G4) ?_|refine oT (fun g24=>?_) (fun g24=>?_)|refine oE (fun g24=>?_) (fun g24=>?_))
       all_goals
        refine hK32 _ ?_;refine D2 rfl ?_ ?_
        ·
         intro c6;try simp only[zA,zB,zC,zD,zE,zF,zG,zH,zI] at c6
         all_goals
          have hno:(itI (b4 (ns.length:Int) (v1.length:Int)) (j+1) os (u1,p1,q1))=(v6.set j (v6.getD j 0+(ns.length:Int)),u7,p7,q7):=(U6 hio).trans (by simp only[b4,bnd,hr7,show v7=true by assumption,decide_eq_true (show v6.getD j 0+(ns.length:Int) < (v1.length:Int) by omega),Bool.and_self])
          refine oW E2 ?_;simp (maxSteps:=2000000)only[hl6,hw,go_sem];repeat(with_reducible first|refine oA ?_|refine And.intro (by first|exact hfp|exact G4) ?_)
          refine hK31 _ ?_;refine oW E2 ?_;simp only[go_sem];repeat(with_reducible first|refine oA ?_|refine And.intro (by first|exact hfp|exact G4) ?_)
          refine hL28 ⟨j+1,by omega⟩ _ (oK ?_) ?_
          ·
           simp (maxSteps:=2000000)only[go_sem];all_goals(try simp only[hno])
           all_goals((repeat' refine And.intro ?_ ?_)<;>first|rfl|trivial|exact wk (by omega)|omega|(simp;done)|(congr 1;done))
          ·
           first|(simp only[];omega)|omega|(simp;omega)
        ·
         intro c6;try simp only[zA,zB,zC,zD,zE,zF,zG,zH,zI] at c6
         all_goals
          have hno:(itI (b4 (ns.length:Int) (v1.length:Int)) (j+1) os (u1,p1,q1))=(v6,u7,p7,q7):=(U6 hio).trans (by simp only[b4,bnd,hr7];first|(rw[show v7=false by assumption];rfl)|(rw[decide_eq_false (show ¬v6.getD j 0+(ns.length:Int) < (v1.length:Int) by omega),Bool.and_false]))
          refine A3 ?_;simp only[go_sem];refine hK31 _ ?_;refine oW E2 ?_;simp only[go_sem];repeat(with_reducible first|refine oA ?_|refine And.intro (by first|exact hfp|exact G4) ?_)
          refine hL28 ⟨j+1,by omega⟩ _ (oK ?_) ?_
          ·
           simp (maxSteps:=2000000)only[go_sem];all_goals(try simp only[hno])
           all_goals((repeat' refine And.intro ?_ ?_)<;>first|rfl|trivial|exact wk (by omega)|omega|(simp;done)|(congr 1;done))
          ·
           first|(simp only[];omega)|omega|(simp;omega)
     ·
      intro c5;try simp only[zA,zB,zC,zD,zE,zF,zG,zH,zI] at c5
      all_goals
       obtain rfl:j=os.length:=by omega
       refine C2 ?_;simp only[go_sem];refine hK26 _ ?_;refine oS fun _ hK33=>?_;refine oW E2 ?_;simp only[List.nodup_cons,List.nodup_nil,List.not_mem_nil,not_false_eq_true,go_sem];repeat(with_reducible first|refine oA ?_|refine And.intro (by first|exact hfp|exact G4) ?_)
       refine hK33 _ ?_;refine A2 ?_;simp only[hres,go_sem]
       first
        | exact oG
        | refine ⟨oG, ?_⟩
          simp only[A3E,bnd,hfin,hio];try((repeat' refine And.intro ?_ ?_)<;>first|rfl|trivial|(congr 1;done))
def A5n:F8:=fun f=>if f=30 then some (.g z9) else B1H f
theorem B1n:B8 Tryz.prog A5n:=a8 B57 (B6 Tryz.func30 rfl (by decide)) E2
attribute [go_sem] A5n z9
def A6N:F8:=A5n
theorem B1W:B8 Tryz.prog A6N:=B1n
attribute [go_sem] A6N
end Go.Proofs.YtflobmmbhaofbaaGreat
