/-
  Texts of this claim, joined (part 37). No condition beyond those of the theorems.
-/
import Derived.Test.YtenjbehedcegdaaGreatQ16
import Derived.Test.YtenjbehedcegdaaGreatQ36
import Derived.Test.YtenjbehedcegdaaGreatQ02
namespace Go.Proofs.YtenjbehedcegdaaGreat
open Go.RowKit
set_option linter.unusedSimpArgs false
set_option linter.unusedVariables false
set_option maxRecDepth 100000
set_option maxHeartbeats 4000000
def A4S:GCon where
  ps:=[.po 0]
  os:=[.box [.rd ((.row 5 (.int .u8))),.rd (.int .i64),.rd (.int .u64)]]
  c:=fun x=>srcOk 1 (x.2.1.1,x.2.1.2.1,x.2.1.2.2.1)
  r:=fun x=>.c (.sc (.int .i64 ((L9 (x.2.1.1,x.2.1.2.1,x.2.1.2.2.1)).1)))
  o:=fun x=>[(30,.box [.rd [] 5 (.int .u8) ((L9 (x.2.1.1,x.2.1.2.1,x.2.1.2.2.1)).2.1),.sc (.int .i64 ((L9 (x.2.1.1,x.2.1.2.1,x.2.1.2.2.1)).2.2.1)),.sc (.int .u64 ((L9 (x.2.1.1,x.2.1.2.1,x.2.1.2.2.1)).2.2.2))])]
  ok:=by
    rintro⟨⟨_,_⟩,⟨⟨(cd:List Int),(pt:Int),(sd:Int),_⟩,_⟩⟩
    exact⟨rfl,rfl,by decide⟩
theorem B7d:l6 Tryz.prog 74 A4S:=by
  refine F1 Tryz.func74 rfl ?_
  have hres:Tryz.f74.results.toList=[.tmp 2]:=rfl
  rintro⟨⟨_,_⟩,⟨⟨(cd:List Int),(pt:Int),(sd:Int),_⟩,_⟩⟩ hc hL hO
  simp only[A4S,go_sem] at hL
  simp only[A4S,go_sem] at hO
  simp only[A4S,St.init,St.initG,Tryz.ntmps74,go_sem] 
  have hs0:srcOk 1 (cd,pt,sd):=hc
  have hp0:0≤pt:=hs0.2.1
  have hp1:pt+1≤4611686018427387904:=hs0.2.2
  have hwp:IntKind.i64.wrap (pt+1)=pt+1:=H4 (by omega)
  refine oS fun _ hK1=>?_;refine oW F9 ?_;simp only[go_sem];refine hK1 _ ?_;refine oS fun _ hK2=>?_;refine oW F9 ?_;simp only[go_sem];refine hK2 _ ?_;refine oS fun _ hK3=>?_;refine oS fun _ hK4=>?_
  refine oR F9
    [[],[0],[0,1],[0,1,2],[],[4],[4,5],[4,5,6],[4,5,6,7],[0,1,2,3,4,5,6,7,8]]
    [[],[],[],[],[],[],[],[],[],[]]
    [[],[],[],[],[],[],[],[],[],[]] (by kernel_rfl) (by kernel_rfl) (A7 (acc:=[]) ?_)
  simp (maxSteps:=2000000)only[go_sem];repeat(with_reducible refine oD ?_)
  refine hK4 _ ?_;refine oC rfl ?_ ?_
  ·
   intro c0;have hb:A1c (cd,pt,sd)=IntKind.i64.wrap (cd.getD pt.toNat 0):=by simp only[A1c,decide_eq_true (show pt < (cd.length:Int) from c0)]
   refine oR F9
     [[],[0],[0,1],[0,1,2],[],[4],[4,5],[4,5,6],[0,1,2,3,4,5,6,7],[0,1,2,3,4,5,6,7,8],[0,1,2,3,4,5,6,7,8,9],[0,1,2,3,4,5,6,7,8,9,10]]
     [[],[],[],[],[],[],[],[],[],[],[],[]]
     [[],[],[],[],[],[],[],[],[],[],[],[]] (by kernel_rfl) (by kernel_rfl) (A7 (acc:=[]) ?_)
   simp (maxSteps:=2000000)only[go_sem];repeat(with_reducible refine oD ?_)
   refine hK3 _ ?_;refine oS fun _ hK5=>?_;refine oW F9 ?_;simp (maxSteps:=2000000)only[hwp,go_sem];repeat(with_reducible refine oA ?_)
   refine hK5 _ ?_;refine oS fun _ hK6=>?_;refine oW F9 ?_;simp (maxSteps:=2000000)only[go_sem];repeat(with_reducible refine oA ?_)
   refine hK6 _ ?_;refine oS fun _ hK7=>?_;refine oS fun _ hK8=>?_
   refine oR F9
     [[],[0],[0,1],[0,1,2],[],[4],[4,5],[4,5,6],[4,5,6,7],[0,1,2,3,4,5,6,7,8]]
     [[],[],[],[],[],[],[],[],[],[]]
     [[],[],[],[],[],[],[],[],[],[]] (by kernel_rfl) (by kernel_rfl) (A7 (acc:=[]) ?_)
   simp (maxSteps:=2000000)only[go_sem];repeat(with_reducible refine oD ?_)
   refine hK8 _ ?_;refine oC rfl ?_ ?_
   ·
    intro c1;have hn:L9 (cd,pt,sd)=(A1c (cd,pt,sd),cd,pt+1,A15 (cd,pt,sd)):=by simp only[L9,decide_eq_true (show pt+1≤(cd.length:Int) from c1)]
    refine oS fun _ hK9=>?_;refine oW F9 ?_;simp only[go_sem];refine hK9 _ ?_;refine A0 ?_;simp only[hres,go_sem]
    first
     | exact oG
     | refine ⟨oG, ?_⟩
       rw[hn];simp only[A15,A7E,hb];try((repeat' refine And.intro ?_ ?_)<;>first|rfl|trivial|(congr 1;done))
   intro c1;have hn:L9 (cd,pt,sd)=(A7E (A15 (cd,pt,sd)),cd,pt+1,A15 (cd,pt,sd)):=by simp only[L9,decide_eq_false (show ¬pt+1≤(cd.length:Int) by omega)]
   refine A2 ?_;simp only[go_sem];refine hK7 _ ?_;refine oS fun _ hK10=>?_;refine oW F9 ?_;simp (maxSteps:=2000000)only[go_sem];repeat(with_reducible refine oA ?_)
   refine hK10 _ ?_;refine A0 ?_;simp only[hres,go_sem]
   first
    | exact oG
    | refine ⟨oG, ?_⟩
      rw[hn];simp only[A15,A7E,hb];try((repeat' refine And.intro ?_ ?_)<;>first|rfl|trivial|(congr 1;done))
  intro c0;have hb:A1c (cd,pt,sd)=0:=by simp only[A1c,decide_eq_false (show ¬pt < (cd.length:Int) by omega)]
  refine A2 ?_;simp only[go_sem];refine hK3 _ ?_;refine oS fun _ hK11=>?_;refine oW F9 ?_;simp (maxSteps:=2000000)only[hwp,go_sem];repeat(with_reducible refine oA ?_)
  refine hK11 _ ?_;refine oS fun _ hK12=>?_;refine oW F9 ?_;simp (maxSteps:=2000000)only[go_sem];repeat(with_reducible refine oA ?_)
  refine hK12 _ ?_;refine oS fun _ hK13=>?_;refine oS fun _ hK14=>?_
  refine oR F9
    [[],[0],[0,1],[0,1,2],[],[4],[4,5],[4,5,6],[4,5,6,7],[0,1,2,3,4,5,6,7,8]]
    [[],[],[],[],[],[],[],[],[],[]]
    [[],[],[],[],[],[],[],[],[],[]] (by kernel_rfl) (by kernel_rfl) (A7 (acc:=[]) ?_)
  simp (maxSteps:=2000000)only[go_sem];repeat(with_reducible refine oD ?_)
  refine hK14 _ ?_;refine oC rfl ?_ ?_
  ·
   intro c1;have hn:L9 (cd,pt,sd)=(A1c (cd,pt,sd),cd,pt+1,A15 (cd,pt,sd)):=by simp only[L9,decide_eq_true (show pt+1≤(cd.length:Int) from c1)]
   refine oS fun _ hK15=>?_;refine oW F9 ?_;simp only[go_sem];refine hK15 _ ?_;refine A0 ?_;simp only[hres,go_sem]
   first
    | exact oG
    | refine ⟨oG, ?_⟩
      rw[hn];simp only[A15,A7E,hb];try((repeat' refine And.intro ?_ ?_)<;>first|rfl|trivial|(congr 1;done))
  intro c1;have hn:L9 (cd,pt,sd)=(A7E (A15 (cd,pt,sd)),cd,pt+1,A15 (cd,pt,sd)):=by simp only[L9,decide_eq_false (show ¬pt+1≤(cd.length:Int) by omega)]
  refine A2 ?_;simp only[go_sem];refine hK13 _ ?_;refine oS fun _ hK16=>?_;refine oW F9 ?_;simp (maxSteps:=2000000)only[go_sem];repeat(with_reducible refine oA ?_)
  refine hK16 _ ?_;refine A0 ?_;simp only[hres,go_sem]
  first
   | exact oG
   | refine ⟨oG, ?_⟩
     rw[hn];simp only[A15,A7E,hb];try((repeat' refine And.intro ?_ ?_)<;>first|rfl|trivial|(congr 1;done))
def B1C:G4:=fun f=>if f=74 then some (.g A4S) else A0J f
theorem T4:B5 Tryz.prog B1C:=A0M B7d (B0 Tryz.func74 rfl (by decide)) F9
attribute [go_sem] B1C A4S
def A3u:GCon where
  ps:=[.po 0,.val (.int .i64)]
  os:=[.box [.rd ((.row 5 (.int .u8))),.rd (.int .i64),.rd (.int .u64)]]
  c:=fun x=>srcOk 2 (x.2.1.1,x.2.1.2.1,x.2.1.2.2.1)
  r:=fun x=>.c (.sc (.int .i64 ((D8 x.1.2.1 (x.2.1.1,x.2.1.2.1,x.2.1.2.2.1)).1)))
  o:=fun x=>[(30,.box [.rd [] 5 (.int .u8) ((D8 x.1.2.1 (x.2.1.1,x.2.1.2.1,x.2.1.2.2.1)).2.1),.sc (.int .i64 ((D8 x.1.2.1 (x.2.1.1,x.2.1.2.1,x.2.1.2.2.1)).2.2.1)),.sc (.int .u64 ((D8 x.1.2.1 (x.2.1.1,x.2.1.2.1,x.2.1.2.2.1)).2.2.2))])]
  ok:=by
    rintro⟨⟨_,(m:Int),_⟩,⟨⟨(cd:List Int),(pt:Int),(sd:Int),_⟩,_⟩⟩
    exact⟨rfl,rfl,by decide⟩
theorem B7H:l6 Tryz.prog 39 A3u:=by
  refine F1 Tryz.func39 rfl ?_
  have hres:Tryz.f39.results.toList=[.tmp 4]:=rfl
  rintro⟨⟨_,(m:Int),_⟩,⟨⟨(cd:List Int),(pt:Int),(sd:Int),_⟩,_⟩⟩ hc hL hO
  simp only[A3u,go_sem] at hL
  simp only[A3u,go_sem] at hO
  simp only[A3u,St.init,St.initG,Tryz.ntmps39,go_sem] 
  have hs0:srcOk 2 (cd,pt,sd):=hc
  refine oS fun _ hK1=>?_;refine oW T4 ?_;simp only[go_sem];repeat(with_reducible first|refine oA ?_|refine And.intro (by first|exact F5) ?_)
  refine hK1 _ ?_;refine oS fun _ hK2=>?_;refine oS fun _ hK3=>?_;refine oW T4 ?_;simp only[go_sem];repeat(with_reducible first|refine oA ?_|refine And.intro (by first|exact F5) ?_)
  refine hK3 _ ?_;refine oC rfl ?_ ?_
  ·
   intro c0;refine oS fun _ hK4=>?_;refine oW T4 ?_;simp only[go_sem];repeat(with_reducible first|refine oA ?_|refine And.intro (by first|exact F5) ?_)
   refine hK4 _ ?_;refine A0 ?_;simp only[hres,go_sem]
   first
    | exact oG
    | refine ⟨oG, ?_⟩
      simp only[D8,decide_eq_true (show m≤1 from c0)];try((repeat' refine And.intro ?_ ?_)<;>first|rfl|trivial|(congr 1;done))
  intro c0;refine A2 ?_;simp only[go_sem];refine hK2 _ ?_;refine oS fun _ hK5=>?_;rcases hr1:L9 (cd,pt,sd) with⟨v1,u1,p1,q1⟩
  obtain⟨hs1,hv1,hb1⟩:=A3d hs0 (by omega) hr1
  refine oW T4 ?_;simp only[hr1,go_sem];repeat(with_reducible first|refine oA ?_|refine And.intro (by first|exact F5) ?_)
  refine hK5 _ ?_;refine oS fun _ hK6=>?_;refine oS fun _ hK7=>?_;refine oW T4 ?_;simp only[go_sem];repeat(with_reducible first|refine oA ?_|refine And.intro (by first|exact F5) ?_)
  refine hK7 _ ?_;refine oC rfl ?_ ?_
  ·
   intro c1;rcases hr2:L9 (u1,p1,q1) with⟨v2,u2,p2,q2⟩
   obtain⟨hs2,hv2,hb2⟩:=A3d hs1 (by omega) hr2
   have hw1:IntKind.i64.wrap (v1 * 256)=v1 * 256:=H4 (by omega)
   have hw2:IntKind.i64.wrap (v1 * 256+v2)=v1 * 256+v2:=H4 (by omega)
   have hp:D8 m (cd,pt,sd)=((v1 * 256+v2).tmod m,u2,p2,q2):=by simp only[D8,bnd,decide_eq_false (show ¬m≤1 by omega),hr1,decide_eq_true (show 200 < m by omega),hr2]
   refine oW T4 ?_;simp (maxSteps:=2000000)only[hw1,hr2,hw2,go_sem];repeat(with_reducible first|refine oA ?_|refine And.intro (by first|exact F5) ?_)
   refine hK6 _ ?_;refine oS fun _ hK8=>?_;refine oW T4 ?_;simp only[go_sem];repeat(with_reducible first|refine oA ?_|refine And.intro (by first|exact F5) ?_)
   refine hK8 _ ?_;refine A0 ?_;simp only[hres,go_sem]
   first
    | exact oG
    | refine ⟨oG, ?_⟩
      simp only[hp];try((repeat' refine And.intro ?_ ?_)<;>first|rfl|trivial|(congr 1;done))
  intro c1;have hp:D8 m (cd,pt,sd)=(v1.tmod m,u1,p1,q1):=by simp only[D8,bnd,decide_eq_false (show ¬m≤1 by omega),hr1,decide_eq_false (show ¬200 < m by omega)]
  refine A2 ?_;simp only[go_sem];refine hK6 _ ?_;refine oS fun _ hK9=>?_;refine oW T4 ?_;simp only[go_sem];repeat(with_reducible first|refine oA ?_|refine And.intro (by first|exact F5) ?_)
  refine hK9 _ ?_;refine A0 ?_;simp only[hres,go_sem]
  first
   | exact oG
   | refine ⟨oG, ?_⟩
     simp only[hp];try((repeat' refine And.intro ?_ ?_)<;>first|rfl|trivial|(congr 1;done))
def B1k:G4:=fun f=>if f=39 then some (.g A3u) else B1C f
theorem A3s:B5 Tryz.prog B1k:=A0M B7H (B0 Tryz.func39 rfl (by decide)) T4
attribute [go_sem] B1k A3u
def A7n:GCon where
  ps:=[.po 0,.val (.int .i64)]
  os:=[.box [.rd ((.row 5 (.int .u8))),.rd (.int .i64),.rd (.int .u64)]]
  c:=fun x=>srcOk 2 (x.2.1.1,x.2.1.2.1,x.2.1.2.2.1)
  r:=fun x=>.c (.sc (.bool ((A0L x.1.2.1 (x.2.1.1,x.2.1.2.1,x.2.1.2.2.1)).1)))
  o:=fun x=>[(30,.box [.rd [] 5 (.int .u8) ((A0L x.1.2.1 (x.2.1.1,x.2.1.2.1,x.2.1.2.2.1)).2.1),.sc (.int .i64 ((A0L x.1.2.1 (x.2.1.1,x.2.1.2.1,x.2.1.2.2.1)).2.2.1)),.sc (.int .u64 ((A0L x.1.2.1 (x.2.1.1,x.2.1.2.1,x.2.1.2.2.1)).2.2.2))])]
  ok:=by
    rintro⟨⟨_,(m:Int),_⟩,⟨⟨(cd:List Int),(pt:Int),(sd:Int),_⟩,_⟩⟩
    exact⟨rfl,rfl,by decide⟩
theorem B8s:l6 Tryz.prog 40 A7n:=by
  refine F1 Tryz.func40 rfl ?_
  have hres:Tryz.f40.results.toList=[.tmp 4]:=rfl
  rintro⟨⟨_,(m:Int),_⟩,⟨⟨(cd:List Int),(pt:Int),(sd:Int),_⟩,_⟩⟩ hc hL hO
  simp only[A7n,go_sem] at hL
  simp only[A7n,go_sem] at hO
  simp only[A7n,St.init,St.initG,Tryz.ntmps40,go_sem] 
  have hs0:srcOk 2 (cd,pt,sd):=hc
  rcases hr1:D8 m (cd,pt,sd) with⟨v1,u1,p1,q1⟩
  obtain⟨hs1,hv1,hb1,hz1⟩:=H3 hs0 (by omega) hr1
  have hs1:srcOk _ (u1,p1,q1):=hs1
  refine oS fun _ hK1=>?_;refine oW A3s ?_;simp only[go_sem];repeat(with_reducible first|refine oA ?_|refine And.intro (by first|exact F5) ?_)
  refine hK1 _ ?_;refine oS fun _ hK2=>?_;refine oW A3s ?_;simp (maxSteps:=2000000)only[hr1,go_sem];repeat(with_reducible first|refine oA ?_|refine And.intro (by first|exact F5) ?_)
  refine hK2 _ ?_;refine A0 ?_;simp only[hres,go_sem]
  first
   | exact oG
   | refine ⟨oG, ?_⟩
     simp only[show A0L m (cd,pt,sd)=(decide (v1=0),u1,p1,q1) from S9 hr1];try((repeat' refine And.intro ?_ ?_)<;>first|rfl|trivial|(congr 1;done))
def B6L:G4:=fun f=>if f=40 then some (.g A7n) else B1k f
theorem A6r:B5 Tryz.prog B6L:=A0M B8s (B0 Tryz.func40 rfl (by decide)) A3s
attribute [go_sem] B6L A7n
def A2D:GCon where
  ps:=[.po 0,.val ((.row 2 (.int .i64)))]
  os:=[.box [.rd ((.row 5 (.int .u8))),.rd (.int .i64),.rd (.int .u64)]]
  c:=fun x=>srcOk 2 (x.2.1.1,x.2.1.2.1,x.2.1.2.2.1)∧0 < x.1.2.1.length
  r:=fun x=>.c (.sc (.int .i64 ((H5 x.1.2.1 (x.2.1.1,x.2.1.2.1,x.2.1.2.2.1)).1)))
  o:=fun x=>[(30,.box [.rd [] 5 (.int .u8) ((H5 x.1.2.1 (x.2.1.1,x.2.1.2.1,x.2.1.2.2.1)).2.1),.sc (.int .i64 ((H5 x.1.2.1 (x.2.1.1,x.2.1.2.1,x.2.1.2.2.1)).2.2.1)),.sc (.int .u64 ((H5 x.1.2.1 (x.2.1.1,x.2.1.2.1,x.2.1.2.2.1)).2.2.2))])]
  ok:=by
    rintro⟨⟨_,(xs:List Int),_⟩,⟨⟨(cd:List Int),(pt:Int),(sd:Int),_⟩,_⟩⟩
    exact⟨rfl,rfl,by decide⟩
theorem B5x:l6 Tryz.prog 37 A2D:=by
  refine F1 Tryz.func37 rfl ?_
  have hres:Tryz.f37.results.toList=[.tmp 4]:=rfl
  rintro⟨⟨_,(xs:List Int),_⟩,⟨⟨(cd:List Int),(pt:Int),(sd:Int),_⟩,_⟩⟩ hc hL hO
  simp only[A2D,go_sem] at hL
  simp only[A2D,go_sem] at hO
  simp only[A2D,St.init,St.initG,Tryz.ntmps37,go_sem] 
  obtain⟨hs0,hx⟩:=(show srcOk 2 (cd,pt,sd)∧0 < xs.length from hc)
  rcases hr1:D8 xs.length (cd,pt,sd) with⟨v1,u1,p1,q1⟩
  obtain⟨hs1,hv1,hb1,hz1⟩:=H3 hs0 (by omega) hr1
  have hs1:srcOk _ (u1,p1,q1):=hs1
  have hb1:=hb1 (by omega)
  refine oS fun _ hK1=>?_;refine oW A6r ?_;simp only[go_sem];repeat(with_reducible first|refine oA ?_|refine And.intro (by first|exact F5) ?_)
  refine hK1 _ ?_;refine oS fun _ hK2=>?_;refine oW A6r ?_;simp (maxSteps:=2000000)only[hr1,go_sem];repeat(with_reducible first|refine oA ?_|refine And.intro (by first|exact F5) ?_)
  refine hK2 _ ?_;refine A0 ?_;simp only[hres,go_sem]
  first
   | exact oG
   | refine ⟨oG, ?_⟩
     simp only[show H5 xs (cd,pt,sd)=(xs.getD v1.toNat 0,u1,p1,q1) from S9 hr1];try((repeat' refine And.intro ?_ ?_)<;>first|rfl|trivial|(congr 1;done))
def A9V:G4:=fun f=>if f=37 then some (.g A2D) else B6L f
theorem A3D:B5 Tryz.prog A9V:=A0M B5x (B0 Tryz.func37 rfl (by decide)) A6r
attribute [go_sem] A9V A2D
def r7:GCon where
  ps:=[.val ((.row 5 (.int .u8)))]
  os:=[]
  c:=fun _=>True
  r:=fun _=>.c (.po 10 0)
  o:=fun x=>[(10,.box [.rd [] 5 (.int .u8) (x.1.1),.sc (.int .i64 (0)),.sc (.int .u64 (0))])]
  ok:=by
    rintro⟨⟨(cd:List Int),_⟩,_⟩
    exact⟨rfl,rfl,by decide⟩
theorem B1T:l6 Tryz.prog 13 r7:=by
  refine F1 Tryz.func13 rfl ?_
  have hres:Tryz.f13.results.toList=[.tmp 2]:=rfl
  rintro⟨⟨(cd:List Int),_⟩,_⟩ hc hL hO
  simp only[r7,go_sem] at hL
  simp only[r7,go_sem] at hO
  simp only[r7,St.init,St.initG,Tryz.ntmps13,go_sem] 
  refine oS fun _ hK1=>?_;refine oW A3D ?_;simp only[go_sem];refine hK1 _ ?_;refine oS fun _ hK2=>?_;refine oW A3D ?_;simp only[go_sem];refine hK2 _ ?_;refine A0 ?_;simp only[hres,go_sem];first|exact oG|(refine⟨oG,?_⟩;(repeat' refine And.intro ?_ ?_)<;>first|rfl|(congr 1;done))
def A42:G4:=fun f=>if f=13 then some (.g r7) else A9V f
theorem H1:B5 Tryz.prog A42:=A0M B1T (B0 Tryz.func13 rfl (by decide)) A3D
attribute [go_sem] A42 r7
def n6:GCon where
  ps:=[.po 0]
  os:=[.box [.rd ((.row 5 (.int .u8))),.rd (.int .i64),.rd (.int .u64)]]
  c:=fun x=>srcOk 6 (x.2.1.1,x.2.1.2.1,x.2.1.2.2.1)
  r:=fun x=>.c (.sc (.int .i64 ((W7 (x.2.1.1,x.2.1.2.1,x.2.1.2.2.1)).1)))
  o:=fun x=>[(30,.box [.rd [] 5 (.int .u8) ((W7 (x.2.1.1,x.2.1.2.1,x.2.1.2.2.1)).2.1),.sc (.int .i64 ((W7 (x.2.1.1,x.2.1.2.1,x.2.1.2.2.1)).2.2.1)),.sc (.int .u64 ((W7 (x.2.1.1,x.2.1.2.1,x.2.1.2.2.1)).2.2.2))])]
  ok:=by
    rintro⟨⟨_,_⟩,⟨⟨(cd:List Int),(pt:Int),(sd:Int),_⟩,_⟩⟩
    exact⟨rfl,rfl,by decide⟩
theorem B2O:l6 Tryz.prog 75 n6:=by
  refine F1 Tryz.func75 rfl ?_
  have hres:Tryz.f75.results.toList=[.tmp 2]:=rfl
  rintro⟨⟨_,_⟩,⟨⟨(cd:List Int),(pt:Int),(sd:Int),_⟩,_⟩⟩ hc hL hO
  simp only[n6,go_sem] at hL
  simp only[n6,go_sem] at hO
  simp only[n6,St.init,St.initG,Tryz.ntmps75,go_sem] 
  have hs0:srcOk 6 (cd,pt,sd):=hc
  rcases hr1:D8 8 (cd,pt,sd) with⟨v1,u1,p1,q1⟩
  obtain⟨hs1,hv1,hb1,hz1⟩:=H3 hs0 (by omega) hr1
  have hs1:srcOk _ (u1,p1,q1):=hs1
  refine oS fun _ hK1=>?_;refine oW H1 ?_;simp only[go_sem];repeat(with_reducible first|refine oA ?_|refine And.intro (by first|exact F5|exact⟨hs1.le (by omega),by simp⟩) ?_)
  refine hK1 _ ?_;refine oS fun _ hK2=>?_;refine oS fun _ hK3=>?_;refine oW H1 ?_;simp only[hr1,go_sem];repeat(with_reducible first|refine oA ?_|refine And.intro (by first|exact F5|exact⟨hs1.le (by omega),by simp⟩) ?_)
  refine hK3 _ ?_;refine A3 ?_;refine oS fun _ hK4=>?_;refine oW H1 ?_;simp only[go_sem];repeat(with_reducible first|refine oA ?_|refine And.intro (by first|exact F5|exact⟨hs1.le (by omega),by simp⟩) ?_)
  refine hK4 _ ?_;refine oC rfl ?_ ?_
  ·
   intro c0;have k0:=decide_eq_true c0
   refine oS fun _ hK5=>?_;rcases hr2:H5 [-2147483648,2147483647,-2147483647,65536,-65536,1073741824] (u1,p1,q1) with⟨v2,u2,p2,q2⟩
   obtain⟨hs2,hm2⟩:=J9 hs1 (by omega) (by simp) hr2
   refine oW H1 ?_;simp only[hr2,go_sem];repeat(with_reducible first|refine oA ?_|refine And.intro (by first|exact F5|exact⟨hs1.le (by omega),by simp⟩) ?_)
   refine hK5 _ ?_;refine A0 ?_;simp only[hres,go_sem]
   first
    | exact oG
    | refine ⟨oG, ?_⟩
      simp only[W7,bnd,hr1,k0,hr2];try((repeat' refine And.intro ?_ ?_)<;>first|rfl|trivial|(congr 1;done))
  intro c0;have k0:=decide_eq_false c0
  refine oS fun _ hK6=>?_;refine oW H1 ?_;simp only[go_sem];repeat(with_reducible first|refine oA ?_|refine And.intro (by first|exact F5|exact⟨hs1.le (by omega),by simp⟩) ?_)
  refine hK6 _ ?_;refine oC rfl ?_ ?_
  ·
   intro c1;have k1:=decide_eq_true c1
   refine oS fun _ hK7=>?_;rcases hr2:L9 (u1,p1,q1) with⟨v2,u2,p2,q2⟩
   obtain⟨hs2,hv2,hb2⟩:=A3d hs1 (by omega) hr2
   refine oW H1 ?_;simp only[hr2,go_sem];repeat(with_reducible first|refine oA ?_|refine And.intro (by first|exact F5|exact⟨hs1.le (by omega),by simp⟩) ?_)
   refine hK7 _ ?_;refine oS fun _ hK8=>?_;refine oS fun _ hK9=>?_;refine oW H1 ?_;simp only[go_sem];repeat(with_reducible first|refine oA ?_|refine And.intro (by first|exact F5|exact⟨hs1.le (by omega),by simp⟩) ?_)
   refine hK9 _ ?_;refine A3 ?_;refine A8 (ι:={ k:Nat // k≤3 }) (fun k=>⟨[.c (.po 30 0),zz,zz,.c (.sc (.int .i64 ((P3 A4f k.1 v2 (u2,p2,q2)).1))),.c (.sc (.int .i64 (k.1))),zz,zz,zz,zz,zz,zz,zz,zz,zz,zz,zz,zz,zz,zz,zz,zz,zz,zz,zz,zz,zz,zz,zz,zz,zz,zz,zz],[(30,.box [.rd [] 5 (.int .u8) ((P3 A4f k.1 v2 (u2,p2,q2)).2.1),.sc (.int .i64 ((P3 A4f k.1 v2 (u2,p2,q2)).2.2.1)),.sc (.int .u64 ((P3 A4f k.1 v2 (u2,p2,q2)).2.2.2))])]⟩) (fun k=>3 - k.1) ⟨0,by omega⟩ ?_ ?_
   ·
    refine oK ?_;simp (maxSteps:=2000000)only[go_sem];all_goals((repeat' refine And.intro ?_ ?_)<;>first|rfl|(congr 1;done))
   rintro⟨k,hk⟩ K10 hL10
   rcases hit:P3 A4f k v2 (u2,p2,q2) with⟨v3,u3,p3,q3⟩
   have hs3:=(Cost.it A5W k v2).at hs2 (by omega) hit
   refine oS fun _ hK11=>?_;refine oS fun _ hK12=>?_;refine oW H1 ?_;simp only[hit,go_sem];repeat(with_reducible first|refine oA ?_|refine And.intro (by first|exact F5|exact⟨hs1.le (by omega),by simp⟩) ?_)
   refine hK12 _ ?_;refine oC rfl ?_ ?_
   ·
    intro c2;refine A2 ?_;simp only[go_sem];refine hK11 _ ?_;refine oS fun _ hK13=>?_;refine A3 ?_;rcases hr4:L9 (u3,p3,q3) with⟨v4,u4,p4,q4⟩
    obtain⟨hs4,hv4,hb4⟩:=A3d hs3 (by omega) hr4
    have hnx:P3 A4f (k+1) v2 (u2,p2,q2)=(IntKind.i64.wrap (IntKind.i64.wrap (256 * v3)+v4),u4,p4,q4):=(X0 hit).trans (S9 hr4)
    refine oW H1 ?_;simp (maxSteps:=2000000)only[hr4,go_sem];repeat(with_reducible first|refine oA ?_|refine And.intro (by first|exact F5|exact⟨hs1.le (by omega),by simp⟩) ?_)
    refine hK13 _ ?_;refine oW H1 ?_;simp only[go_sem];repeat(with_reducible first|refine oA ?_|refine And.intro (by first|exact F5|exact⟨hs1.le (by omega),by simp⟩) ?_)
    refine hL10 ⟨k+1,by omega⟩ _ (oK ?_) ?_
    ·
     simp (maxSteps:=2000000)only[go_sem];all_goals(try simp only[hnx])
     all_goals((repeat' refine And.intro ?_ ?_)<;>first|rfl|exact wk (by omega)|(congr 1;done))
    ·
     first|(simp only[];omega)|omega|(simp;omega)
   intro c2;obtain rfl:k=3:=by omega
   refine B6 ?_;simp only[go_sem];refine hK8 _ ?_;refine oS fun _ hK14=>?_;refine oW H1 ?_;simp only[go_sem];repeat(with_reducible first|refine oA ?_|refine And.intro (by first|exact F5|exact⟨hs1.le (by omega),by simp⟩) ?_)
   refine hK14 _ ?_;refine A0 ?_;simp only[hres,go_sem]
   first
    | exact oG
    | refine ⟨oG, ?_⟩
      simp only[W7,bnd,hr1,k0,k1,hr2,hit];try((repeat' refine And.intro ?_ ?_)<;>first|rfl|trivial|(congr 1;done))
  intro c1;have k1:=decide_eq_false c1
  refine oS fun _ hK15=>?_;refine oW H1 ?_;simp only[go_sem];repeat(with_reducible first|refine oA ?_|refine And.intro (by first|exact F5|exact⟨hs1.le (by omega),by simp⟩) ?_)
  refine hK15 _ ?_;refine oC rfl ?_ ?_
  ·
   intro c3;have k3:=decide_eq_true c3
   refine oS fun _ hK16=>?_;refine oW H1 ?_;simp only[go_sem];repeat(with_reducible first|refine oA ?_|refine And.intro (by first|exact F5|exact⟨hs1.le (by omega),by simp⟩) ?_)
   refine hK16 _ ?_;refine A0 ?_;simp only[hres,go_sem]
   first
    | exact oG
    | refine ⟨oG, ?_⟩
      simp only[W7,bnd,hr1,k0,k1,k3];try((repeat' refine And.intro ?_ ?_)<;>first|rfl|trivial|(congr 1;done))
  intro c3;have k3:=decide_eq_false c3
  refine A2 ?_;simp only[go_sem];refine hK2 _ ?_;refine oS fun _ hK17=>?_;rcases hr2:D8 41 (u1,p1,q1) with⟨v2,u2,p2,q2⟩
  obtain⟨hs2,hv2,hb2,hz2⟩:=H3 hs1 (by omega) hr2
  have hs2:srcOk _ (u2,p2,q2):=hs2
  have hw:IntKind.i64.wrap (v2 - 20)=v2 - 20:=H4 (by omega)
  refine oW H1 ?_;simp only[hr2,hw,go_sem];repeat(with_reducible first|refine oA ?_|refine And.intro (by first|exact F5|exact⟨hs1.le (by omega),by simp⟩) ?_)
  refine hK17 _ ?_;refine A0 ?_;simp only[hres,go_sem]
  first
   | exact oG
   | refine ⟨oG, ?_⟩
     simp only[W7,bnd,hr1,k0,k1,k3,hr2];try((repeat' refine And.intro ?_ ?_)<;>first|rfl|trivial|(congr 1;done))
def A44:G4:=fun f=>if f=75 then some (.g n6) else A42 f
theorem O3:B5 Tryz.prog A44:=A0M B2O (B0 Tryz.func75 rfl (by decide)) H1
attribute [go_sem] A44 n6
def r6:GCon where
  ps:=[.po 0,.val (.int .i64)]
  os:=[.box [.rd ((.row 5 (.int .u8))),.rd (.int .i64),.rd (.int .u64)]]
  c:=fun x=>srcOk 122 (x.2.1.1,x.2.1.2.1,x.2.1.2.2.1)∧(0:Int)≤x.1.2.1∧(x.1.2.1:Int)≤20
  r:=fun x=>.c (.ow 10)
  o:=fun x=>[(30,.box [.rd [] 5 (.int .u8) ((A6l x.1.2.1 (x.2.1.1,x.2.1.2.1,x.2.1.2.2.1)).2.1),.sc (.int .i64 ((A6l x.1.2.1 (x.2.1.1,x.2.1.2.1,x.2.1.2.2.1)).2.2.1)),.sc (.int .u64 ((A6l x.1.2.1 (x.2.1.1,x.2.1.2.1,x.2.1.2.2.1)).2.2.2))]),(10,.row 2 (.int .i64) ((A6l x.1.2.1 (x.2.1.1,x.2.1.2.1,x.2.1.2.2.1)).1) [])]
  ok:=by
    rintro⟨⟨_,(mo:Int),_⟩,⟨⟨(cd:List Int),(pt:Int),(sd:Int),_⟩,_⟩⟩
    exact⟨rfl,rfl,by decide⟩
theorem B1v:l6 Tryz.prog 43 r6:=by
  refine F1 Tryz.func43 rfl ?_
  have hres:Tryz.f43.results.toList=[.tmp 4]:=rfl
  rintro⟨⟨_,(mo:Int),_⟩,⟨⟨(cd:List Int),(pt:Int),(sd:Int),_⟩,_⟩⟩ hc hL hO
  simp only[r6,go_sem] at hL
  simp only[r6,go_sem] at hO
  simp only[r6,St.init,St.initG,Tryz.ntmps43,go_sem] 
  obtain⟨hs0,hm1,hm2⟩:=(show srcOk 122 (cd,pt,sd)∧0≤mo∧mo≤20 from hc)
  have hwm:IntKind.i64.wrap (mo+1)=mo+1:=H4 (by omega)
  rcases hr1:D8 (mo+1) (cd,pt,sd) with⟨v1,u1,p1,q1⟩
  obtain⟨hs1,hv1,hb1,hz1⟩:=H3 hs0 (by omega) hr1
  have hs1:srcOk _ (u1,p1,q1):=hs1
  have hb1:=hb1 (by omega)
  refine oS fun _ hK1=>?_;refine oW O3 ?_;simp only[go_sem];repeat(with_reducible first|refine oA ?_|refine And.intro (by first|exact F5) ?_)
  refine hK1 _ ?_;refine oS fun _ hK2=>?_;refine oW O3 ?_;simp only[go_sem];repeat(with_reducible first|refine oA ?_|refine And.intro (by first|exact F5) ?_)
  refine hK2 _ ?_;refine oS fun _ hK3=>?_;refine oS fun _ hK4=>?_;refine oW O3 ?_;simp (maxSteps:=2000000)only[hwm,hr1,go_sem];repeat(with_reducible first|refine oA ?_|refine And.intro (by first|exact F5) ?_)
  refine hK4 _ ?_;refine A3 ?_;refine A8 (ι:={ k:Nat // k≤v1.toNat }) (fun k=>⟨[.c (.po 30 0),zz,zz,zz,zz,.c (.ow 9001),.c (.sc (.int .i64 (v1 - (k.1:Int)))),zz,zz,zz,zz,zz,zz,zz,zz,zz,zz,zz,zz,zz,zz,zz],[(30,.box [.rd [] 5 (.int .u8) ((P3 (I2 W7) k.1 [] (u1,p1,q1)).2.1),.sc (.int .i64 ((P3 (I2 W7) k.1 [] (u1,p1,q1)).2.2.1)),.sc (.int .u64 ((P3 (I2 W7) k.1 [] (u1,p1,q1)).2.2.2))]),(9001,.row 2 (.int .i64) ((P3 (I2 W7) k.1 [] (u1,p1,q1)).1) [])]⟩) (fun k=>v1.toNat - k.1) ⟨0,by omega⟩ ?_ ?_
  ·
   refine oK ?_;simp (maxSteps:=2000000)only[go_sem];all_goals((repeat' refine And.intro ?_ ?_)<;>first|rfl|omega|(simp;done)|(congr 1;done))
  rintro⟨k,hk⟩ K5 hL5
  rcases hit:P3 (I2 W7) k [] (u1,p1,q1) with⟨v3,u3,p3,q3⟩
  have hs3:=(Cost.it (P0 V8) k []).at hs1 (by omega) hit
  have hlk:v3.length=k:=by have:=a8 (m:=W7) (k:=k) (s:=(u1,p1,q1)) (xs:=[]);rw[hit] at this;simpa using this
  refine oS fun _ hK6=>?_;refine oS fun _ hK7=>?_;refine oW O3 ?_;simp only[hit,go_sem];repeat(with_reducible first|refine oA ?_|refine And.intro (by first|exact F5) ?_)
  refine hK7 _ ?_;refine oC rfl ?_ ?_
  ·
   intro c0;refine A2 ?_;simp only[go_sem];refine hK6 _ ?_;refine oS fun _ hK8=>?_;refine A3 ?_;rcases hr4:W7 (u3,p3,q3) with⟨v4,u4,p4,q4⟩
   have hs4:=(V8).at hs3 (by omega) hr4
   have hnx:(P3 (I2 W7) (k+1) [] (u1,p1,q1))=(v3++[v4],u4,p4,q4):=(X0 hit).trans (S9 hr4)
   refine oW O3 ?_;simp (maxSteps:=2000000)only[hr4,go_sem];repeat(with_reducible first|refine oA ?_|refine And.intro (by first|exact F5) ?_)
   refine hK8 _ ?_;refine oW O3 ?_;simp only[go_sem];repeat(with_reducible first|refine oA ?_|refine And.intro (by first|exact F5) ?_)
   refine hL5 ⟨k+1,by omega⟩ _ (oK ?_) ?_
   ·
    simp (maxSteps:=2000000)only[go_sem];all_goals(try simp only[hnx])
    all_goals((repeat' refine And.intro ?_ ?_)<;>first|rfl|(rw[H4 (by omega)];omega)|(congr 1;done))
   ·
    first|(simp only[];omega)|omega|(simp;omega)
  intro c0;obtain rfl:k=v1.toNat:=by omega
  refine B6 ?_;simp only[go_sem];refine hK3 _ ?_;refine oS fun _ hK9=>?_;refine oW O3 ?_;simp only[go_sem];repeat(with_reducible first|refine oA ?_|refine And.intro (by first|exact F5) ?_)
  refine hK9 _ ?_;refine A0 ?_;simp only[hres,go_sem]
  first
   | exact oG
   | refine ⟨oG, ?_⟩
     simp only[A6l,bnd,hr1,hit];try((repeat' refine And.intro ?_ ?_)<;>first|rfl|trivial|(congr 1;done))
def A4I:G4:=fun f=>if f=43 then some (.g r6) else A44 f
theorem J2:B5 Tryz.prog A4I:=A0M B1v (B0 Tryz.func43 rfl (by decide)) O3
attribute [go_sem] A4I r6
def n4:GCon where
  ps:=[.po 0]
  os:=[.box [.rd ((.row 5 (.int .u8))),.rd (.int .i64),.rd (.int .u64)]]
  c:=fun x=>srcOk 130 (x.2.1.1,x.2.1.2.1,x.2.1.2.2.1)
  r:=fun x=>.c (.ow 10)
  o:=fun x=>[(30,.box [.rd [] 5 (.int .u8) ((A76 (x.2.1.1,x.2.1.2.1,x.2.1.2.2.1)).2.1),.sc (.int .i64 ((A76 (x.2.1.1,x.2.1.2.1,x.2.1.2.2.1)).2.2.1)),.sc (.int .u64 ((A76 (x.2.1.1,x.2.1.2.1,x.2.1.2.2.1)).2.2.2))]),(10,.row 2 (.int .i64) ((A76 (x.2.1.1,x.2.1.2.1,x.2.1.2.2.1)).1) [])]
  ok:=by
    rintro⟨⟨_,_⟩,⟨⟨(cd:List Int),(pt:Int),(sd:Int),_⟩,_⟩⟩
    exact⟨rfl,rfl,by decide⟩
theorem B1h:l6 Tryz.prog 44 n4:=by
  refine F1 Tryz.func44 rfl ?_
  have hres:Tryz.f44.results.toList=[.tmp 2]:=rfl
  rintro⟨⟨_,_⟩,⟨⟨(cd:List Int),(pt:Int),(sd:Int),_⟩,_⟩⟩ hc hL hO
  simp only[n4,go_sem] at hL
  simp only[n4,go_sem] at hO
  simp only[n4,St.init,St.initG,Tryz.ntmps44,go_sem] 
  have hs0:srcOk 130 (cd,pt,sd):=hc
  rcases hr1:A6l 12 (cd,pt,sd) with⟨v1,u1,p1,q1⟩
  have hs1:=(A26 (by omega) (by omega)).at hs0 (by omega) hr1
  have hl1:=A9l hs0 (by omega) (by omega) (by omega) hr1
  have h12a:(0:Int)≤12:=by omega
  have h12b:(12:Int)≤20:=by omega
  rcases hr2:D8 24 (u1,p1,q1) with⟨v2,u2,p2,q2⟩
  obtain⟨hs2,hv2,hb2,hz2⟩:=H3 hs1 (by omega) hr2
  have hs2:srcOk _ (u2,p2,q2):=hs2
  refine oS fun _ hK1=>?_;refine oW J2 ?_;simp only[go_sem];repeat(with_reducible first|refine oA ?_|refine And.intro (by first|exact F5|with_unfolding_all exact⟨hs0.le (by omega),h12a,h12b⟩|exact⟨hs2.le (by omega),by simp⟩) ?_)
  refine hK1 _ ?_;refine oS fun _ hK2=>?_;refine oW J2 ?_;simp only[hr1,go_sem];repeat(with_reducible first|refine oA ?_|refine And.intro (by first|exact F5|with_unfolding_all exact⟨hs0.le (by omega),h12a,h12b⟩|exact⟨hs2.le (by omega),by simp⟩) ?_)
  refine hK2 _ ?_;refine oS fun _ hK3=>?_;refine oS fun _ hK4=>?_;refine oW J2 ?_;simp only[hr2,go_sem];repeat(with_reducible first|refine oA ?_|refine And.intro (by first|exact F5|with_unfolding_all exact⟨hs0.le (by omega),h12a,h12b⟩|exact⟨hs2.le (by omega),by simp⟩) ?_)
  refine hK4 _ ?_;refine A3 ?_;refine oS fun _ hK5=>?_;refine oW J2 ?_;simp only[go_sem];repeat(with_reducible first|refine oA ?_|refine And.intro (by first|exact F5|with_unfolding_all exact⟨hs0.le (by omega),h12a,h12b⟩|exact⟨hs2.le (by omega),by simp⟩) ?_)
  refine hK5 _ ?_;refine oC rfl ?_ ?_
  ·
   intro c0;have k0:=decide_eq_true c0
   rcases hr3:H5 [2147483648,-2147483649,-9223372036854775808] (u2,p2,q2) with⟨v3,u3,p3,q3⟩
   obtain⟨hs3,hm3⟩:=J9 hs2 (by omega) (by simp) hr3
   refine oW J2 ?_;simp (maxSteps:=2000000)only[hr3,go_sem];repeat(with_reducible first|refine oA ?_|refine And.intro (by first|exact F5|with_unfolding_all exact⟨hs0.le (by omega),h12a,h12b⟩|exact⟨hs2.le (by omega),by simp⟩) ?_)
   refine hK3 _ ?_;refine oS fun _ hK6=>?_;refine oW J2 ?_;simp only[go_sem];repeat(with_reducible first|refine oA ?_|refine And.intro (by first|exact F5|with_unfolding_all exact⟨hs0.le (by omega),h12a,h12b⟩|exact⟨hs2.le (by omega),by simp⟩) ?_)
   refine hK6 _ ?_;refine A0 ?_;simp only[hres,go_sem]
   first
    | exact oG
    | refine ⟨oG, ?_⟩
      simp only[A76,bnd,hr1,hr2];first|simp only[k0,k1,hr3]|simp only[k0,k1]|simp only[k0,hr3]
      try((repeat' refine And.intro ?_ ?_)<;>first|rfl|trivial|(congr 1;done))
  intro c0;have k0:=decide_eq_false c0
  refine oS fun _ hK7=>?_;refine oW J2 ?_;simp only[go_sem];repeat(with_reducible first|refine oA ?_|refine And.intro (by first|exact F5|with_unfolding_all exact⟨hs0.le (by omega),h12a,h12b⟩|exact⟨hs2.le (by omega),by simp⟩) ?_)
  refine hK7 _ ?_;refine oC rfl ?_ ?_
  ·
   intro c1;have k1:=decide_eq_true c1
   rcases hr3:D8 3 (u2,p2,q2) with⟨v3,u3,p3,q3⟩
   obtain⟨hs3,hv3,hb3,hz3⟩:=H3 hs2 (by omega) hr3
   have hs3:srcOk _ (u3,p3,q3):=hs3
   have hb3:=hb3 (by omega)
   have hw:IntKind.i64.wrap (3999+v3)=3999+v3:=H4 (by omega)
   refine oW J2 ?_;simp (maxSteps:=2000000)only[hr3,hw,go_sem];repeat(with_reducible first|refine oA ?_|refine And.intro (by first|exact F5|exact L8 (by omega) (by omega)) ?_)
   refine hK3 _ ?_;refine oS fun _ hK8=>?_;refine oW J2 ?_;simp only[go_sem];repeat(with_reducible first|refine oA ?_|refine And.intro (by first|exact F5|with_unfolding_all exact⟨hs0.le (by omega),h12a,h12b⟩|exact⟨hs2.le (by omega),by simp⟩) ?_)
   refine hK8 _ ?_;refine A0 ?_;simp only[hres,go_sem]
   first
    | exact oG
    | refine ⟨oG, ?_⟩
      simp only[A76,bnd,hr1,hr2];first|simp only[k0,k1,hr3]|simp only[k0,k1]|simp only[k0,hr3]
      try((repeat' refine And.intro ?_ ?_)<;>first|rfl|trivial|(congr 1;done))
  intro c1;have k1:=decide_eq_false c1
  refine A2 ?_;simp only[go_sem];refine hK3 _ ?_;refine oS fun _ hK9=>?_;refine oW J2 ?_;simp only[go_sem];repeat(with_reducible first|refine oA ?_|refine And.intro (by first|exact F5|with_unfolding_all exact⟨hs0.le (by omega),h12a,h12b⟩|exact⟨hs2.le (by omega),by simp⟩) ?_)
  refine hK9 _ ?_;refine A0 ?_;simp only[hres,go_sem]
  first
   | exact oG
   | refine ⟨oG, ?_⟩
     simp only[A76,bnd,hr1,hr2];first|simp only[k0,k1,hr3]|simp only[k0,k1]|simp only[k0,hr3]
     try((repeat' refine And.intro ?_ ?_)<;>first|rfl|trivial|(congr 1;done))
def A4H:G4:=fun f=>if f=44 then some (.g n4) else A4I f
theorem A8e:B5 Tryz.prog A4H:=A0M B1h (B0 Tryz.func44 rfl (by decide)) J2
attribute [go_sem] A4H n4
end Go.Proofs.YtenjbehedcegdaaGreat
