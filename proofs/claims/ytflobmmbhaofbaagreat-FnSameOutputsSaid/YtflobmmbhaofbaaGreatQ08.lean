/-
  Texts of this claim, joined (part 8). No condition beyond those of the theorems.
-/
import Derived.Test.YtflobmmbhaofbaaGreatQ05
import Derived.Test.YtflobmmbhaofbaaGreatQ07
import Derived.Test.YtflobmmbhaofbaaGreatQ02
namespace Go.Proofs.YtflobmmbhaofbaaGreat
open Go.RowKit
set_option linter.unusedSimpArgs false
set_option linter.unusedVariables false
set_option maxRecDepth 100000
set_option maxHeartbeats 4000000
def A5k:GCon where
  ps:=[.po 0]
  os:=[.box [.rd ((.row 5 (.int .u8))),.rd (.int .i64),.rd (.int .u64)]]
  c:=fun x=>srcOk 1 (x.2.1.1,x.2.1.2.1,x.2.1.2.2.1)
  r:=fun x=>.c (.sc (.int .i64 ((N7 (x.2.1.1,x.2.1.2.1,x.2.1.2.2.1)).1)))
  o:=fun x=>[(30,.box [.rd [] 5 (.int .u8) ((N7 (x.2.1.1,x.2.1.2.1,x.2.1.2.2.1)).2.1),.sc (.int .i64 ((N7 (x.2.1.1,x.2.1.2.1,x.2.1.2.2.1)).2.2.1)),.sc (.int .u64 ((N7 (x.2.1.1,x.2.1.2.1,x.2.1.2.2.1)).2.2.2))])]
  ok:=by
    rintro⟨⟨_,_⟩,⟨⟨(cd:List Int),(pt:Int),(sd:Int),_⟩,_⟩⟩
    exact⟨rfl,rfl,by decide⟩
theorem C2d:W3 Tryz.prog 79 A5k:=by
  refine D8 Tryz.func79 rfl ?_
  have hres:Tryz.f79.results.toList=[.tmp 2]:=rfl
  rintro⟨⟨_,_⟩,⟨⟨(cd:List Int),(pt:Int),(sd:Int),_⟩,_⟩⟩ hc hL hO
  simp only[A5k,go_sem] at hL
  simp only[A5k,go_sem] at hO
  simp only[A5k,St.init,St.initG,Tryz.ntmps79,go_sem] 
  have hs0:srcOk 1 (cd,pt,sd):=hc
  have hp0:0≤pt:=hs0.2.1
  have hp1:pt+1≤4611686018427387904:=hs0.2.2
  have hwp:IntKind.i64.wrap (pt+1)=pt+1:=G9 (by omega)
  refine oS fun _ hK1=>?_;refine oW G3 ?_;simp only[go_sem];refine hK1 _ ?_;refine oS fun _ hK2=>?_;refine oW G3 ?_;simp only[go_sem];refine hK2 _ ?_;refine oS fun _ hK3=>?_;refine oS fun _ hK4=>?_
  refine oR G3
    [[],[0],[0,1],[0,1,2],[],[4],[4,5],[4,5,6],[4,5,6,7],[0,1,2,3,4,5,6,7,8]]
    [[],[],[],[],[],[],[],[],[],[]]
    [[],[],[],[],[],[],[],[],[],[]] (by kernel_rfl) (by kernel_rfl) (B7 (acc:=[]) ?_)
  simp (maxSteps:=2000000)only[go_sem];repeat(with_reducible refine oD ?_)
  refine hK4 _ ?_;refine oC rfl ?_ ?_
  ·
   intro c0;have hb:A2Z (cd,pt,sd)=IntKind.i64.wrap (cd.getD pt.toNat 0):=by simp only[A2Z,decide_eq_true (show pt < (cd.length:Int) from c0)]
   refine oR G3
     [[],[0],[0,1],[0,1,2],[],[4],[4,5],[4,5,6],[0,1,2,3,4,5,6,7],[0,1,2,3,4,5,6,7,8],[0,1,2,3,4,5,6,7,8,9],[0,1,2,3,4,5,6,7,8,9,10]]
     [[],[],[],[],[],[],[],[],[],[],[],[]]
     [[],[],[],[],[],[],[],[],[],[],[],[]] (by kernel_rfl) (by kernel_rfl) (B7 (acc:=[]) ?_)
   simp (maxSteps:=2000000)only[go_sem];repeat(with_reducible refine oD ?_)
   refine hK3 _ ?_;refine oS fun _ hK5=>?_;refine oW G3 ?_;simp (maxSteps:=2000000)only[hwp,go_sem];repeat(with_reducible refine oA ?_)
   refine hK5 _ ?_;refine oS fun _ hK6=>?_;refine oW G3 ?_;simp (maxSteps:=2000000)only[go_sem];repeat(with_reducible refine oA ?_)
   refine hK6 _ ?_;refine oS fun _ hK7=>?_;refine oS fun _ hK8=>?_
   refine oR G3
     [[],[0],[0,1],[0,1,2],[],[4],[4,5],[4,5,6],[4,5,6,7],[0,1,2,3,4,5,6,7,8]]
     [[],[],[],[],[],[],[],[],[],[]]
     [[],[],[],[],[],[],[],[],[],[]] (by kernel_rfl) (by kernel_rfl) (B7 (acc:=[]) ?_)
   simp (maxSteps:=2000000)only[go_sem];repeat(with_reducible refine oD ?_)
   refine hK8 _ ?_;refine oC rfl ?_ ?_
   ·
    intro c1;have hn:N7 (cd,pt,sd)=(A2Z (cd,pt,sd),cd,pt+1,A2K (cd,pt,sd)):=by simp only[N7,decide_eq_true (show pt+1≤(cd.length:Int) from c1)]
    refine oS fun _ hK9=>?_;refine oW G3 ?_;simp only[go_sem];refine hK9 _ ?_;refine A2 ?_;simp only[hres,go_sem]
    first
     | exact oG
     | refine ⟨oG, ?_⟩
       rw[hn];simp only[A2K,A9b,hb];try((repeat' refine And.intro ?_ ?_)<;>first|rfl|trivial|(congr 1;done))
   intro c1;have hn:N7 (cd,pt,sd)=(A9b (A2K (cd,pt,sd)),cd,pt+1,A2K (cd,pt,sd)):=by simp only[N7,decide_eq_false (show ¬pt+1≤(cd.length:Int) by omega)]
   refine A3 ?_;simp only[go_sem];refine hK7 _ ?_;refine oS fun _ hK10=>?_;refine oW G3 ?_;simp (maxSteps:=2000000)only[go_sem];repeat(with_reducible refine oA ?_)
   refine hK10 _ ?_;refine A2 ?_;simp only[hres,go_sem]
   first
    | exact oG
    | refine ⟨oG, ?_⟩
      rw[hn];simp only[A2K,A9b,hb];try((repeat' refine And.intro ?_ ?_)<;>first|rfl|trivial|(congr 1;done))
  intro c0;have hb:A2Z (cd,pt,sd)=0:=by simp only[A2Z,decide_eq_false (show ¬pt < (cd.length:Int) by omega)]
  refine A3 ?_;simp only[go_sem];refine hK3 _ ?_;refine oS fun _ hK11=>?_;refine oW G3 ?_;simp (maxSteps:=2000000)only[hwp,go_sem];repeat(with_reducible refine oA ?_)
  refine hK11 _ ?_;refine oS fun _ hK12=>?_;refine oW G3 ?_;simp (maxSteps:=2000000)only[go_sem];repeat(with_reducible refine oA ?_)
  refine hK12 _ ?_;refine oS fun _ hK13=>?_;refine oS fun _ hK14=>?_
  refine oR G3
    [[],[0],[0,1],[0,1,2],[],[4],[4,5],[4,5,6],[4,5,6,7],[0,1,2,3,4,5,6,7,8]]
    [[],[],[],[],[],[],[],[],[],[]]
    [[],[],[],[],[],[],[],[],[],[]] (by kernel_rfl) (by kernel_rfl) (B7 (acc:=[]) ?_)
  simp (maxSteps:=2000000)only[go_sem];repeat(with_reducible refine oD ?_)
  refine hK14 _ ?_;refine oC rfl ?_ ?_
  ·
   intro c1;have hn:N7 (cd,pt,sd)=(A2Z (cd,pt,sd),cd,pt+1,A2K (cd,pt,sd)):=by simp only[N7,decide_eq_true (show pt+1≤(cd.length:Int) from c1)]
   refine oS fun _ hK15=>?_;refine oW G3 ?_;simp only[go_sem];refine hK15 _ ?_;refine A2 ?_;simp only[hres,go_sem]
   first
    | exact oG
    | refine ⟨oG, ?_⟩
      rw[hn];simp only[A2K,A9b,hb];try((repeat' refine And.intro ?_ ?_)<;>first|rfl|trivial|(congr 1;done))
  intro c1;have hn:N7 (cd,pt,sd)=(A9b (A2K (cd,pt,sd)),cd,pt+1,A2K (cd,pt,sd)):=by simp only[N7,decide_eq_false (show ¬pt+1≤(cd.length:Int) by omega)]
  refine A3 ?_;simp only[go_sem];refine hK13 _ ?_;refine oS fun _ hK16=>?_;refine oW G3 ?_;simp (maxSteps:=2000000)only[go_sem];repeat(with_reducible refine oA ?_)
  refine hK16 _ ?_;refine A2 ?_;simp only[hres,go_sem]
  first
   | exact oG
   | refine ⟨oG, ?_⟩
     rw[hn];simp only[A2K,A9b,hb];try((repeat' refine And.intro ?_ ?_)<;>first|rfl|trivial|(congr 1;done))
def B4d:F8:=fun f=>if f=79 then some (.g A5k) else A08 f
theorem X6:B8 Tryz.prog B4d:=a8 C2d (B6 Tryz.func79 rfl (by decide)) G3
attribute [go_sem] B4d A5k
def A6f:GCon where
  ps:=[.po 0,.val (.int .i64)]
  os:=[.box [.rd ((.row 5 (.int .u8))),.rd (.int .i64),.rd (.int .u64)]]
  c:=fun x=>srcOk 2 (x.2.1.1,x.2.1.2.1,x.2.1.2.2.1)
  r:=fun x=>.c (.sc (.int .i64 ((F6 x.1.2.1 (x.2.1.1,x.2.1.2.1,x.2.1.2.2.1)).1)))
  o:=fun x=>[(30,.box [.rd [] 5 (.int .u8) ((F6 x.1.2.1 (x.2.1.1,x.2.1.2.1,x.2.1.2.2.1)).2.1),.sc (.int .i64 ((F6 x.1.2.1 (x.2.1.1,x.2.1.2.1,x.2.1.2.2.1)).2.2.1)),.sc (.int .u64 ((F6 x.1.2.1 (x.2.1.1,x.2.1.2.1,x.2.1.2.2.1)).2.2.2))])]
  ok:=by
    rintro⟨⟨_,(m:Int),_⟩,⟨⟨(cd:List Int),(pt:Int),(sd:Int),_⟩,_⟩⟩
    exact⟨rfl,rfl,by decide⟩
theorem C2D:W3 Tryz.prog 51 A6f:=by
  refine D8 Tryz.func51 rfl ?_
  have hres:Tryz.f51.results.toList=[.tmp 4]:=rfl
  rintro⟨⟨_,(m:Int),_⟩,⟨⟨(cd:List Int),(pt:Int),(sd:Int),_⟩,_⟩⟩ hc hL hO
  simp only[A6f,go_sem] at hL
  simp only[A6f,go_sem] at hO
  simp only[A6f,St.init,St.initG,Tryz.ntmps51,go_sem] 
  have hs0:srcOk 2 (cd,pt,sd):=hc
  refine oS fun _ hK1=>?_;refine oW X6 ?_;simp only[go_sem];repeat(with_reducible first|refine oA ?_|refine And.intro (by first|exact G4) ?_)
  refine hK1 _ ?_;refine oS fun _ hK2=>?_;refine oS fun _ hK3=>?_;refine oW X6 ?_;simp only[go_sem];repeat(with_reducible first|refine oA ?_|refine And.intro (by first|exact G4) ?_)
  refine hK3 _ ?_;refine oC rfl ?_ ?_
  ·
   intro c0;refine oS fun _ hK4=>?_;refine oW X6 ?_;simp only[go_sem];repeat(with_reducible first|refine oA ?_|refine And.intro (by first|exact G4) ?_)
   refine hK4 _ ?_;refine A2 ?_;simp only[hres,go_sem]
   first
    | exact oG
    | refine ⟨oG, ?_⟩
      simp only[F6,decide_eq_true (show m≤1 from c0)];try((repeat' refine And.intro ?_ ?_)<;>first|rfl|trivial|(congr 1;done))
  intro c0;refine A3 ?_;simp only[go_sem];refine hK2 _ ?_;refine oS fun _ hK5=>?_;rcases hr1:N7 (cd,pt,sd) with⟨v1,u1,p1,q1⟩
  obtain⟨hs1,hv1,hb1⟩:=A5C hs0 (by omega) hr1
  refine oW X6 ?_;simp only[hr1,go_sem];repeat(with_reducible first|refine oA ?_|refine And.intro (by first|exact G4) ?_)
  refine hK5 _ ?_;refine oS fun _ hK6=>?_;refine oS fun _ hK7=>?_;refine oW X6 ?_;simp only[go_sem];repeat(with_reducible first|refine oA ?_|refine And.intro (by first|exact G4) ?_)
  refine hK7 _ ?_;refine oC rfl ?_ ?_
  ·
   intro c1;rcases hr2:N7 (u1,p1,q1) with⟨v2,u2,p2,q2⟩
   obtain⟨hs2,hv2,hb2⟩:=A5C hs1 (by omega) hr2
   have hw1:IntKind.i64.wrap (v1 * 256)=v1 * 256:=G9 (by omega)
   have hw2:IntKind.i64.wrap (v1 * 256+v2)=v1 * 256+v2:=G9 (by omega)
   have hp:F6 m (cd,pt,sd)=((v1 * 256+v2).tmod m,u2,p2,q2):=by simp only[F6,bnd,decide_eq_false (show ¬m≤1 by omega),hr1,decide_eq_true (show 200 < m by omega),hr2]
   refine oW X6 ?_;simp (maxSteps:=2000000)only[hw1,hr2,hw2,go_sem];repeat(with_reducible first|refine oA ?_|refine And.intro (by first|exact G4) ?_)
   refine hK6 _ ?_;refine oS fun _ hK8=>?_;refine oW X6 ?_;simp only[go_sem];repeat(with_reducible first|refine oA ?_|refine And.intro (by first|exact G4) ?_)
   refine hK8 _ ?_;refine A2 ?_;simp only[hres,go_sem]
   first
    | exact oG
    | refine ⟨oG, ?_⟩
      simp only[hp];try((repeat' refine And.intro ?_ ?_)<;>first|rfl|trivial|(congr 1;done))
  intro c1;have hp:F6 m (cd,pt,sd)=(v1.tmod m,u1,p1,q1):=by simp only[F6,bnd,decide_eq_false (show ¬m≤1 by omega),hr1,decide_eq_false (show ¬200 < m by omega)]
  refine A3 ?_;simp only[go_sem];refine hK6 _ ?_;refine oS fun _ hK9=>?_;refine oW X6 ?_;simp only[go_sem];repeat(with_reducible first|refine oA ?_|refine And.intro (by first|exact G4) ?_)
  refine hK9 _ ?_;refine A2 ?_;simp only[hres,go_sem]
  first
   | exact oG
   | refine ⟨oG, ?_⟩
     simp only[hp];try((repeat' refine And.intro ?_ ?_)<;>first|rfl|trivial|(congr 1;done))
def B4b:F8:=fun f=>if f=51 then some (.g A6f) else B4d f
theorem A69:B8 Tryz.prog B4b:=a8 C2D (B6 Tryz.func51 rfl (by decide)) X6
attribute [go_sem] B4b A6f
def B08:GCon where
  ps:=[.po 0,.val (.int .i64)]
  os:=[.box [.rd ((.row 5 (.int .u8))),.rd (.int .i64),.rd (.int .u64)]]
  c:=fun x=>srcOk 2 (x.2.1.1,x.2.1.2.1,x.2.1.2.2.1)
  r:=fun x=>.c (.sc (.bool ((U4 x.1.2.1 (x.2.1.1,x.2.1.2.1,x.2.1.2.2.1)).1)))
  o:=fun x=>[(30,.box [.rd [] 5 (.int .u8) ((U4 x.1.2.1 (x.2.1.1,x.2.1.2.1,x.2.1.2.2.1)).2.1),.sc (.int .i64 ((U4 x.1.2.1 (x.2.1.1,x.2.1.2.1,x.2.1.2.2.1)).2.2.1)),.sc (.int .u64 ((U4 x.1.2.1 (x.2.1.1,x.2.1.2.1,x.2.1.2.2.1)).2.2.2))])]
  ok:=by
    rintro⟨⟨_,(m:Int),_⟩,⟨⟨(cd:List Int),(pt:Int),(sd:Int),_⟩,_⟩⟩
    exact⟨rfl,rfl,by decide⟩
theorem C3h:W3 Tryz.prog 28 B08:=by
  refine D8 Tryz.func28 rfl ?_
  have hres:Tryz.f28.results.toList=[.tmp 4]:=rfl
  rintro⟨⟨_,(m:Int),_⟩,⟨⟨(cd:List Int),(pt:Int),(sd:Int),_⟩,_⟩⟩ hc hL hO
  simp only[B08,go_sem] at hL
  simp only[B08,go_sem] at hO
  simp only[B08,St.init,St.initG,Tryz.ntmps28,go_sem] 
  have hs0:srcOk 2 (cd,pt,sd):=hc
  rcases hr1:F6 m (cd,pt,sd) with⟨v1,u1,p1,q1⟩
  obtain⟨hs1,hv1,hb1,hz1⟩:=L4 hs0 (by omega) hr1
  have hs1:srcOk _ (u1,p1,q1):=hs1
  refine oS fun _ hK1=>?_;refine oW A69 ?_;simp only[go_sem];repeat(with_reducible first|refine oA ?_|refine And.intro (by first|exact G4) ?_)
  refine hK1 _ ?_;refine oS fun _ hK2=>?_;refine oW A69 ?_;simp (maxSteps:=2000000)only[hr1,go_sem];repeat(with_reducible first|refine oA ?_|refine And.intro (by first|exact G4) ?_)
  refine hK2 _ ?_;refine A2 ?_;simp only[hres,go_sem]
  first
   | exact oG
   | refine ⟨oG, ?_⟩
     simp only[show U4 m (cd,pt,sd)=(decide (v1=0),u1,p1,q1) from M5 hr1];try((repeat' refine And.intro ?_ ?_)<;>first|rfl|trivial|(congr 1;done))
def B9h:F8:=fun f=>if f=28 then some (.g B08) else B4b f
theorem A7Y:B8 Tryz.prog B9h:=a8 C3h (B6 Tryz.func28 rfl (by decide)) A69
attribute [go_sem] B9h B08
def A3d:GCon where
  ps:=[.po 0,.val ((.row 2 (.int .i64)))]
  os:=[.box [.rd ((.row 5 (.int .u8))),.rd (.int .i64),.rd (.int .u64)]]
  c:=fun x=>srcOk 2 (x.2.1.1,x.2.1.2.1,x.2.1.2.2.1)∧0 < x.1.2.1.length
  r:=fun x=>.c (.sc (.int .i64 ((I9 x.1.2.1 (x.2.1.1,x.2.1.2.1,x.2.1.2.2.1)).1)))
  o:=fun x=>[(30,.box [.rd [] 5 (.int .u8) ((I9 x.1.2.1 (x.2.1.1,x.2.1.2.1,x.2.1.2.2.1)).2.1),.sc (.int .i64 ((I9 x.1.2.1 (x.2.1.1,x.2.1.2.1,x.2.1.2.2.1)).2.2.1)),.sc (.int .u64 ((I9 x.1.2.1 (x.2.1.1,x.2.1.2.1,x.2.1.2.2.1)).2.2.2))])]
  ok:=by
    rintro⟨⟨_,(xs:List Int),_⟩,⟨⟨(cd:List Int),(pt:Int),(sd:Int),_⟩,_⟩⟩
    exact⟨rfl,rfl,by decide⟩
theorem C11:W3 Tryz.prog 49 A3d:=by
  refine D8 Tryz.func49 rfl ?_
  have hres:Tryz.f49.results.toList=[.tmp 4]:=rfl
  rintro⟨⟨_,(xs:List Int),_⟩,⟨⟨(cd:List Int),(pt:Int),(sd:Int),_⟩,_⟩⟩ hc hL hO
  simp only[A3d,go_sem] at hL
  simp only[A3d,go_sem] at hO
  simp only[A3d,St.init,St.initG,Tryz.ntmps49,go_sem] 
  obtain⟨hs0,hx⟩:=(show srcOk 2 (cd,pt,sd)∧0 < xs.length from hc)
  rcases hr1:F6 xs.length (cd,pt,sd) with⟨v1,u1,p1,q1⟩
  obtain⟨hs1,hv1,hb1,hz1⟩:=L4 hs0 (by omega) hr1
  have hs1:srcOk _ (u1,p1,q1):=hs1
  have hb1:=hb1 (by omega)
  refine oS fun _ hK1=>?_;refine oW A7Y ?_;simp only[go_sem];repeat(with_reducible first|refine oA ?_|refine And.intro (by first|exact G4) ?_)
  refine hK1 _ ?_;refine oS fun _ hK2=>?_;refine oW A7Y ?_;simp (maxSteps:=2000000)only[hr1,go_sem];repeat(with_reducible first|refine oA ?_|refine And.intro (by first|exact G4) ?_)
  refine hK2 _ ?_;refine A2 ?_;simp only[hres,go_sem]
  first
   | exact oG
   | refine ⟨oG, ?_⟩
     simp only[show I9 xs (cd,pt,sd)=(xs.getD v1.toNat 0,u1,p1,q1) from M5 hr1];try((repeat' refine And.intro ?_ ?_)<;>first|rfl|trivial|(congr 1;done))
def B0y:F8:=fun f=>if f=49 then some (.g A3d) else B9h f
theorem A3z:B8 Tryz.prog B0y:=a8 C11 (B6 Tryz.func49 rfl (by decide)) A7Y
attribute [go_sem] B0y A3d
def A03:GCon where
  ps:=[.val ((.row 5 (.int .u8)))]
  os:=[]
  c:=fun _=>True
  r:=fun _=>.c (.po 10 0)
  o:=fun x=>[(10,.box [.rd [] 5 (.int .u8) (x.1.1),.sc (.int .i64 (0)),.sc (.int .u64 (0))])]
  ok:=by
    rintro⟨⟨(cd:List Int),_⟩,_⟩
    exact⟨rfl,rfl,by decide⟩
theorem B68:W3 Tryz.prog 11 A03:=by
  refine D8 Tryz.func11 rfl ?_
  have hres:Tryz.f11.results.toList=[.tmp 2]:=rfl
  rintro⟨⟨(cd:List Int),_⟩,_⟩ hc hL hO
  simp only[A03,go_sem] at hL
  simp only[A03,go_sem] at hO
  simp only[A03,St.init,St.initG,Tryz.ntmps11,go_sem] 
  refine oS fun _ hK1=>?_;refine oW A3z ?_;simp only[go_sem];refine hK1 _ ?_;refine oS fun _ hK2=>?_;refine oW A3z ?_;simp only[go_sem];refine hK2 _ ?_;refine A2 ?_;simp only[hres,go_sem];first|exact oG|(refine⟨oG,?_⟩;(repeat' refine And.intro ?_ ?_)<;>first|rfl|(congr 1;done))
def A5z:F8:=fun f=>if f=11 then some (.g A03) else B0y f
theorem I0:B8 Tryz.prog A5z:=a8 B68 (B6 Tryz.func11 rfl (by decide)) A3z
attribute [go_sem] A5z A03
def A05:GCon where
  ps:=[.po 0]
  os:=[.box [.rd ((.row 5 (.int .u8))),.rd (.int .i64),.rd (.int .u64)]]
  c:=fun x=>srcOk 6 (x.2.1.1,x.2.1.2.1,x.2.1.2.2.1)
  r:=fun x=>.c (.sc (.int .i64 ((A1h (x.2.1.1,x.2.1.2.1,x.2.1.2.2.1)).1)))
  o:=fun x=>[(30,.box [.rd [] 5 (.int .u8) ((A1h (x.2.1.1,x.2.1.2.1,x.2.1.2.2.1)).2.1),.sc (.int .i64 ((A1h (x.2.1.1,x.2.1.2.1,x.2.1.2.2.1)).2.2.1)),.sc (.int .u64 ((A1h (x.2.1.1,x.2.1.2.1,x.2.1.2.2.1)).2.2.2))])]
  ok:=by
    rintro⟨⟨_,_⟩,⟨⟨(cd:List Int),(pt:Int),(sd:Int),_⟩,_⟩⟩
    exact⟨rfl,rfl,by decide⟩
theorem B4f:W3 Tryz.prog 97 A05:=by
  refine D8 Tryz.func97 rfl ?_
  have hres:Tryz.f97.results.toList=[.tmp 2]:=rfl
  rintro⟨⟨_,_⟩,⟨⟨(cd:List Int),(pt:Int),(sd:Int),_⟩,_⟩⟩ hc hL hO
  simp only[A05,go_sem] at hL
  simp only[A05,go_sem] at hO
  simp only[A05,St.init,St.initG,Tryz.ntmps97,go_sem] 
  have hs0:srcOk 6 (cd,pt,sd):=hc
  rcases hr1:F6 8 (cd,pt,sd) with⟨v1,u1,p1,q1⟩
  obtain⟨hs1,hv1,hb1,hz1⟩:=L4 hs0 (by omega) hr1
  have hs1:srcOk _ (u1,p1,q1):=hs1
  refine oS fun _ hK1=>?_;refine oW I0 ?_;simp only[go_sem];repeat(with_reducible first|refine oA ?_|refine And.intro (by first|exact G4|exact⟨hs1.le (by omega),by simp⟩) ?_)
  refine hK1 _ ?_;refine oS fun _ hK2=>?_;refine oS fun _ hK3=>?_;refine oW I0 ?_;simp only[hr1,go_sem];repeat(with_reducible first|refine oA ?_|refine And.intro (by first|exact G4|exact⟨hs1.le (by omega),by simp⟩) ?_)
  refine hK3 _ ?_;refine A5 ?_;refine oS fun _ hK4=>?_;refine oW I0 ?_;simp only[go_sem];repeat(with_reducible first|refine oA ?_|refine And.intro (by first|exact G4|exact⟨hs1.le (by omega),by simp⟩) ?_)
  refine hK4 _ ?_;refine oC rfl ?_ ?_
  ·
   intro c0;have k0:=decide_eq_true c0
   refine oS fun _ hK5=>?_;rcases hr2:I9 [-2147483648,2147483647,-2147483647,65536,-65536,1073741824] (u1,p1,q1) with⟨v2,u2,p2,q2⟩
   obtain⟨hs2,hm2⟩:=P1 hs1 (by omega) (by simp) hr2
   refine oW I0 ?_;simp only[hr2,go_sem];repeat(with_reducible first|refine oA ?_|refine And.intro (by first|exact G4|exact⟨hs1.le (by omega),by simp⟩) ?_)
   refine hK5 _ ?_;refine A2 ?_;simp only[hres,go_sem]
   first
    | exact oG
    | refine ⟨oG, ?_⟩
      simp only[A1h,bnd,hr1,k0,hr2];try((repeat' refine And.intro ?_ ?_)<;>first|rfl|trivial|(congr 1;done))
  intro c0;have k0:=decide_eq_false c0
  refine oS fun _ hK6=>?_;refine oW I0 ?_;simp only[go_sem];repeat(with_reducible first|refine oA ?_|refine And.intro (by first|exact G4|exact⟨hs1.le (by omega),by simp⟩) ?_)
  refine hK6 _ ?_;refine oC rfl ?_ ?_
  ·
   intro c1;have k1:=decide_eq_true c1
   refine oS fun _ hK7=>?_;rcases hr2:N7 (u1,p1,q1) with⟨v2,u2,p2,q2⟩
   obtain⟨hs2,hv2,hb2⟩:=A5C hs1 (by omega) hr2
   refine oW I0 ?_;simp only[hr2,go_sem];repeat(with_reducible first|refine oA ?_|refine And.intro (by first|exact G4|exact⟨hs1.le (by omega),by simp⟩) ?_)
   refine hK7 _ ?_;refine oS fun _ hK8=>?_;refine oS fun _ hK9=>?_;refine oW I0 ?_;simp only[go_sem];repeat(with_reducible first|refine oA ?_|refine And.intro (by first|exact G4|exact⟨hs1.le (by omega),by simp⟩) ?_)
   refine hK9 _ ?_;refine A5 ?_;refine B4 (ι:={ k:Nat // k≤3 }) (fun k=>⟨[.c (.po 30 0),zz,zz,.c (.sc (.int .i64 ((X8 A6p k.1 v2 (u2,p2,q2)).1))),.c (.sc (.int .i64 (k.1))),zz,zz,zz,zz,zz,zz,zz,zz,zz,zz,zz,zz,zz,zz,zz,zz,zz,zz,zz,zz,zz,zz,zz,zz,zz,zz,zz],[(30,.box [.rd [] 5 (.int .u8) ((X8 A6p k.1 v2 (u2,p2,q2)).2.1),.sc (.int .i64 ((X8 A6p k.1 v2 (u2,p2,q2)).2.2.1)),.sc (.int .u64 ((X8 A6p k.1 v2 (u2,p2,q2)).2.2.2))])]⟩) (fun k=>3 - k.1) ⟨0,by omega⟩ ?_ ?_
   ·
    refine oK ?_;simp (maxSteps:=2000000)only[go_sem];all_goals((repeat' refine And.intro ?_ ?_)<;>first|rfl|(congr 1;done))
   rintro⟨k,hk⟩ K10 hL10
   rcases hit:X8 A6p k v2 (u2,p2,q2) with⟨v3,u3,p3,q3⟩
   have hs3:=(Cost.it A8Y k v2).at hs2 (by omega) hit
   refine oS fun _ hK11=>?_;refine oS fun _ hK12=>?_;refine oW I0 ?_;simp only[hit,go_sem];repeat(with_reducible first|refine oA ?_|refine And.intro (by first|exact G4|exact⟨hs1.le (by omega),by simp⟩) ?_)
   refine hK12 _ ?_;refine oC rfl ?_ ?_
   ·
    intro c2;refine A3 ?_;simp only[go_sem];refine hK11 _ ?_;refine oS fun _ hK13=>?_;refine A5 ?_;rcases hr4:N7 (u3,p3,q3) with⟨v4,u4,p4,q4⟩
    obtain⟨hs4,hv4,hb4⟩:=A5C hs3 (by omega) hr4
    have hnx:X8 A6p (k+1) v2 (u2,p2,q2)=(IntKind.i64.wrap (IntKind.i64.wrap (256 * v3)+v4),u4,p4,q4):=(A0V hit).trans (M5 hr4)
    refine oW I0 ?_;simp (maxSteps:=2000000)only[hr4,go_sem];repeat(with_reducible first|refine oA ?_|refine And.intro (by first|exact G4|exact⟨hs1.le (by omega),by simp⟩) ?_)
    refine hK13 _ ?_;refine oW I0 ?_;simp only[go_sem];repeat(with_reducible first|refine oA ?_|refine And.intro (by first|exact G4|exact⟨hs1.le (by omega),by simp⟩) ?_)
    refine hL10 ⟨k+1,by omega⟩ _ (oK ?_) ?_
    ·
     simp (maxSteps:=2000000)only[go_sem];all_goals(try simp only[hnx])
     all_goals((repeat' refine And.intro ?_ ?_)<;>first|rfl|exact wk (by omega)|(congr 1;done))
    ·
     first|(simp only[];omega)|omega|(simp;omega)
   intro c2;obtain rfl:k=3:=by omega
   refine C2 ?_;simp only[go_sem];refine hK8 _ ?_;refine oS fun _ hK14=>?_;refine oW I0 ?_;simp only[go_sem];repeat(with_reducible first|refine oA ?_|refine And.intro (by first|exact G4|exact⟨hs1.le (by omega),by simp⟩) ?_)
   refine hK14 _ ?_;refine A2 ?_;simp only[hres,go_sem]
   first
    | exact oG
    | refine ⟨oG, ?_⟩
      simp only[A1h,bnd,hr1,k0,k1,hr2,hit];try((repeat' refine And.intro ?_ ?_)<;>first|rfl|trivial|(congr 1;done))
  intro c1;have k1:=decide_eq_false c1
  refine oS fun _ hK15=>?_;refine oW I0 ?_;simp only[go_sem];repeat(with_reducible first|refine oA ?_|refine And.intro (by first|exact G4|exact⟨hs1.le (by omega),by simp⟩) ?_)
  refine hK15 _ ?_;refine oC rfl ?_ ?_
  ·
   intro c3;have k3:=decide_eq_true c3
   refine oS fun _ hK16=>?_;refine oW I0 ?_;simp only[go_sem];repeat(with_reducible first|refine oA ?_|refine And.intro (by first|exact G4|exact⟨hs1.le (by omega),by simp⟩) ?_)
   refine hK16 _ ?_;refine A2 ?_;simp only[hres,go_sem]
   first
    | exact oG
    | refine ⟨oG, ?_⟩
      simp only[A1h,bnd,hr1,k0,k1,k3];try((repeat' refine And.intro ?_ ?_)<;>first|rfl|trivial|(congr 1;done))
  intro c3;have k3:=decide_eq_false c3
  refine A3 ?_;simp only[go_sem];refine hK2 _ ?_;refine oS fun _ hK17=>?_;rcases hr2:F6 41 (u1,p1,q1) with⟨v2,u2,p2,q2⟩
  obtain⟨hs2,hv2,hb2,hz2⟩:=L4 hs1 (by omega) hr2
  have hs2:srcOk _ (u2,p2,q2):=hs2
  have hw:IntKind.i64.wrap (v2 - 20)=v2 - 20:=G9 (by omega)
  refine oW I0 ?_;simp only[hr2,hw,go_sem];repeat(with_reducible first|refine oA ?_|refine And.intro (by first|exact G4|exact⟨hs1.le (by omega),by simp⟩) ?_)
  refine hK17 _ ?_;refine A2 ?_;simp only[hres,go_sem]
  first
   | exact oG
   | refine ⟨oG, ?_⟩
     simp only[A1h,bnd,hr1,k0,k1,k3,hr2];try((repeat' refine And.intro ?_ ?_)<;>first|rfl|trivial|(congr 1;done))
def A6G:F8:=fun f=>if f=97 then some (.g A05) else A5z f
theorem B1F:B8 Tryz.prog A6G:=a8 B4f (B6 Tryz.func97 rfl (by decide)) I0
attribute [go_sem] A6G A05
def A6Z:F8:=A6G
theorem B1D:B8 Tryz.prog A6Z:=B1F
attribute [go_sem] A6Z
end Go.Proofs.YtflobmmbhaofbaaGreat
