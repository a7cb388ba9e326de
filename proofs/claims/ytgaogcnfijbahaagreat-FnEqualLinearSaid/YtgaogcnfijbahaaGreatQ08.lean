/-
  Texts of this claim, joined (part 8). No condition beyond those of the theorems.
-/
import Derived.Test.YtgaogcnfijbahaaGreatQ05
import Derived.Test.YtgaogcnfijbahaaGreatQ07
import Derived.Test.YtgaogcnfijbahaaGreatQ02
namespace Go.Proofs.YtgaogcnfijbahaaGreat
open Go.RowKit
set_option linter.unusedSimpArgs false
set_option linter.unusedVariables false
set_option maxRecDepth 100000
set_option maxHeartbeats 4000000
def A73:GCon where
  ps:=[.po 0]
  os:=[.box [.rd ((.row 5 (.int .u8))),.rd (.int .i64),.rd (.int .u64)]]
  c:=fun x=>srcOk 1 (x.2.1.1,x.2.1.2.1,x.2.1.2.2.1)
  r:=fun x=>.c (.sc (.int .i64 ((O2 (x.2.1.1,x.2.1.2.1,x.2.1.2.2.1)).1)))
  o:=fun x=>[(30,.box [.rd [] 5 (.int .u8) ((O2 (x.2.1.1,x.2.1.2.1,x.2.1.2.2.1)).2.1),.sc (.int .i64 ((O2 (x.2.1.1,x.2.1.2.1,x.2.1.2.2.1)).2.2.1)),.sc (.int .u64 ((O2 (x.2.1.1,x.2.1.2.1,x.2.1.2.2.1)).2.2.2))])]
  ok:=by
    rintro⟨⟨_,_⟩,⟨⟨(cd:List Int),(pt:Int),(sd:Int),_⟩,_⟩⟩
    exact⟨rfl,rfl,by decide⟩
theorem C4b:Z2 Tryz.prog 63 A73:=by
  refine E1 Tryz.func63 rfl ?_
  have hres:Tryz.f63.results.toList=[.tmp 2]:=rfl
  rintro⟨⟨_,_⟩,⟨⟨(cd:List Int),(pt:Int),(sd:Int),_⟩,_⟩⟩ hc hL hO
  simp only[A73,go_sem] at hL
  simp only[A73,go_sem] at hO
  simp only[A73,St.init,St.initG,Tryz.ntmps63,go_sem] 
  have hs0:srcOk 1 (cd,pt,sd):=hc
  have hp0:0≤pt:=hs0.2.1
  have hp1:pt+1≤4611686018427387904:=hs0.2.2
  have hwp:IntKind.i64.wrap (pt+1)=pt+1:=F3 (by omega)
  refine oS fun _ hK1=>?_;refine oW F9 ?_;simp only[go_sem];refine hK1 _ ?_;refine oS fun _ hK2=>?_;refine oW F9 ?_;simp only[go_sem];refine hK2 _ ?_;refine oS fun _ hK3=>?_;refine oS fun _ hK4=>?_
  refine oR F9
    [[],[0],[0,1],[0,1,2],[],[4],[4,5],[4,5,6],[4,5,6,7],[0,1,2,3,4,5,6,7,8]]
    [[],[],[],[],[],[],[],[],[],[]]
    [[],[],[],[],[],[],[],[],[],[]] (by kernel_rfl) (by kernel_rfl) (A9 (acc:=[]) ?_)
  simp (maxSteps:=2000000)only[go_sem];repeat(with_reducible refine oD ?_)
  refine hK4 _ ?_;refine oC rfl ?_ ?_
  ·
   intro c0;have hb:A3u (cd,pt,sd)=IntKind.i64.wrap (cd.getD pt.toNat 0):=by simp only[A3u,decide_eq_true (show pt < (cd.length:Int) from c0)]
   refine oR F9
     [[],[0],[0,1],[0,1,2],[],[4],[4,5],[4,5,6],[0,1,2,3,4,5,6,7],[0,1,2,3,4,5,6,7,8],[0,1,2,3,4,5,6,7,8,9],[0,1,2,3,4,5,6,7,8,9,10]]
     [[],[],[],[],[],[],[],[],[],[],[],[]]
     [[],[],[],[],[],[],[],[],[],[],[],[]] (by kernel_rfl) (by kernel_rfl) (A9 (acc:=[]) ?_)
   simp (maxSteps:=2000000)only[go_sem];repeat(with_reducible refine oD ?_)
   refine hK3 _ ?_;refine oS fun _ hK5=>?_;refine oW F9 ?_;simp (maxSteps:=2000000)only[hwp,go_sem];repeat(with_reducible refine oA ?_)
   refine hK5 _ ?_;refine oS fun _ hK6=>?_;refine oW F9 ?_;simp (maxSteps:=2000000)only[go_sem];repeat(with_reducible refine oA ?_)
   refine hK6 _ ?_;refine oS fun _ hK7=>?_;refine oS fun _ hK8=>?_
   refine oR F9
     [[],[0],[0,1],[0,1,2],[],[4],[4,5],[4,5,6],[4,5,6,7],[0,1,2,3,4,5,6,7,8]]
     [[],[],[],[],[],[],[],[],[],[]]
     [[],[],[],[],[],[],[],[],[],[]] (by kernel_rfl) (by kernel_rfl) (A9 (acc:=[]) ?_)
   simp (maxSteps:=2000000)only[go_sem];repeat(with_reducible refine oD ?_)
   refine hK8 _ ?_;refine oC rfl ?_ ?_
   ·
    intro c1;have hn:O2 (cd,pt,sd)=(A3u (cd,pt,sd),cd,pt+1,A2y (cd,pt,sd)):=by simp only[O2,decide_eq_true (show pt+1≤(cd.length:Int) from c1)]
    refine oS fun _ hK9=>?_;refine oW F9 ?_;simp only[go_sem];refine hK9 _ ?_;refine A0 ?_;simp only[hres,go_sem]
    first
     | exact oG
     | refine ⟨oG, ?_⟩
       rw[hn];simp only[A2y,B14,hb];try((repeat' refine And.intro ?_ ?_)<;>first|rfl|trivial|(congr 1;done))
   intro c1;have hn:O2 (cd,pt,sd)=(B14 (A2y (cd,pt,sd)),cd,pt+1,A2y (cd,pt,sd)):=by simp only[O2,decide_eq_false (show ¬pt+1≤(cd.length:Int) by omega)]
   refine A2 ?_;simp only[go_sem];refine hK7 _ ?_;refine oS fun _ hK10=>?_;refine oW F9 ?_;simp (maxSteps:=2000000)only[go_sem];repeat(with_reducible refine oA ?_)
   refine hK10 _ ?_;refine A0 ?_;simp only[hres,go_sem]
   first
    | exact oG
    | refine ⟨oG, ?_⟩
      rw[hn];simp only[A2y,B14,hb];try((repeat' refine And.intro ?_ ?_)<;>first|rfl|trivial|(congr 1;done))
  intro c0;have hb:A3u (cd,pt,sd)=0:=by simp only[A3u,decide_eq_false (show ¬pt < (cd.length:Int) by omega)]
  refine A2 ?_;simp only[go_sem];refine hK3 _ ?_;refine oS fun _ hK11=>?_;refine oW F9 ?_;simp (maxSteps:=2000000)only[hwp,go_sem];repeat(with_reducible refine oA ?_)
  refine hK11 _ ?_;refine oS fun _ hK12=>?_;refine oW F9 ?_;simp (maxSteps:=2000000)only[go_sem];repeat(with_reducible refine oA ?_)
  refine hK12 _ ?_;refine oS fun _ hK13=>?_;refine oS fun _ hK14=>?_
  refine oR F9
    [[],[0],[0,1],[0,1,2],[],[4],[4,5],[4,5,6],[4,5,6,7],[0,1,2,3,4,5,6,7,8]]
    [[],[],[],[],[],[],[],[],[],[]]
    [[],[],[],[],[],[],[],[],[],[]] (by kernel_rfl) (by kernel_rfl) (A9 (acc:=[]) ?_)
  simp (maxSteps:=2000000)only[go_sem];repeat(with_reducible refine oD ?_)
  refine hK14 _ ?_;refine oC rfl ?_ ?_
  ·
   intro c1;have hn:O2 (cd,pt,sd)=(A3u (cd,pt,sd),cd,pt+1,A2y (cd,pt,sd)):=by simp only[O2,decide_eq_true (show pt+1≤(cd.length:Int) from c1)]
   refine oS fun _ hK15=>?_;refine oW F9 ?_;simp only[go_sem];refine hK15 _ ?_;refine A0 ?_;simp only[hres,go_sem]
   first
    | exact oG
    | refine ⟨oG, ?_⟩
      rw[hn];simp only[A2y,B14,hb];try((repeat' refine And.intro ?_ ?_)<;>first|rfl|trivial|(congr 1;done))
  intro c1;have hn:O2 (cd,pt,sd)=(B14 (A2y (cd,pt,sd)),cd,pt+1,A2y (cd,pt,sd)):=by simp only[O2,decide_eq_false (show ¬pt+1≤(cd.length:Int) by omega)]
  refine A2 ?_;simp only[go_sem];refine hK13 _ ?_;refine oS fun _ hK16=>?_;refine oW F9 ?_;simp (maxSteps:=2000000)only[go_sem];repeat(with_reducible refine oA ?_)
  refine hK16 _ ?_;refine A0 ?_;simp only[hres,go_sem]
  first
   | exact oG
   | refine ⟨oG, ?_⟩
     rw[hn];simp only[A2y,B14,hb];try((repeat' refine And.intro ?_ ?_)<;>first|rfl|trivial|(congr 1;done))
def B7Z:E4:=fun f=>if f=63 then some (.g A73) else A1t f
theorem Y2:B4 Tryz.prog B7Z:=m8 C4b (B0 Tryz.func63 rfl (by decide)) F9
attribute [go_sem] B7Z A73
def A7P:GCon where
  ps:=[.po 0,.val (.int .i64)]
  os:=[.box [.rd ((.row 5 (.int .u8))),.rd (.int .i64),.rd (.int .u64)]]
  c:=fun x=>srcOk 2 (x.2.1.1,x.2.1.2.1,x.2.1.2.2.1)
  r:=fun x=>.c (.sc (.int .i64 ((E5 x.1.2.1 (x.2.1.1,x.2.1.2.1,x.2.1.2.2.1)).1)))
  o:=fun x=>[(30,.box [.rd [] 5 (.int .u8) ((E5 x.1.2.1 (x.2.1.1,x.2.1.2.1,x.2.1.2.2.1)).2.1),.sc (.int .i64 ((E5 x.1.2.1 (x.2.1.1,x.2.1.2.1,x.2.1.2.2.1)).2.2.1)),.sc (.int .u64 ((E5 x.1.2.1 (x.2.1.1,x.2.1.2.1,x.2.1.2.2.1)).2.2.2))])]
  ok:=by
    rintro⟨⟨_,(m:Int),_⟩,⟨⟨(cd:List Int),(pt:Int),(sd:Int),_⟩,_⟩⟩
    exact⟨rfl,rfl,by decide⟩
theorem C69:Z2 Tryz.prog 32 A7P:=by
  refine E1 Tryz.func32 rfl ?_
  have hres:Tryz.f32.results.toList=[.tmp 4]:=rfl
  rintro⟨⟨_,(m:Int),_⟩,⟨⟨(cd:List Int),(pt:Int),(sd:Int),_⟩,_⟩⟩ hc hL hO
  simp only[A7P,go_sem] at hL
  simp only[A7P,go_sem] at hO
  simp only[A7P,St.init,St.initG,Tryz.ntmps32,go_sem] 
  have hs0:srcOk 2 (cd,pt,sd):=hc
  refine oS fun _ hK1=>?_;refine oW Y2 ?_;simp only[go_sem];repeat(with_reducible first|refine oA ?_|refine And.intro (by first|exact H2) ?_)
  refine hK1 _ ?_;refine oS fun _ hK2=>?_;refine oS fun _ hK3=>?_;refine oW Y2 ?_;simp only[go_sem];repeat(with_reducible first|refine oA ?_|refine And.intro (by first|exact H2) ?_)
  refine hK3 _ ?_;refine oC rfl ?_ ?_
  ·
   intro c0;refine oS fun _ hK4=>?_;refine oW Y2 ?_;simp only[go_sem];repeat(with_reducible first|refine oA ?_|refine And.intro (by first|exact H2) ?_)
   refine hK4 _ ?_;refine A0 ?_;simp only[hres,go_sem]
   first
    | exact oG
    | refine ⟨oG, ?_⟩
      simp only[E5,decide_eq_true (show m≤1 from c0)];try((repeat' refine And.intro ?_ ?_)<;>first|rfl|trivial|(congr 1;done))
  intro c0;refine A2 ?_;simp only[go_sem];refine hK2 _ ?_;refine oS fun _ hK5=>?_;rcases hr1:O2 (cd,pt,sd) with⟨v1,u1,p1,q1⟩
  obtain⟨hs1,hv1,hb1⟩:=A6g hs0 (by omega) hr1
  refine oW Y2 ?_;simp only[hr1,go_sem];repeat(with_reducible first|refine oA ?_|refine And.intro (by first|exact H2) ?_)
  refine hK5 _ ?_;refine oS fun _ hK6=>?_;refine oS fun _ hK7=>?_;refine oW Y2 ?_;simp only[go_sem];repeat(with_reducible first|refine oA ?_|refine And.intro (by first|exact H2) ?_)
  refine hK7 _ ?_;refine oC rfl ?_ ?_
  ·
   intro c1;rcases hr2:O2 (u1,p1,q1) with⟨v2,u2,p2,q2⟩
   obtain⟨hs2,hv2,hb2⟩:=A6g hs1 (by omega) hr2
   have hw1:IntKind.i64.wrap (v1 * 256)=v1 * 256:=F3 (by omega)
   have hw2:IntKind.i64.wrap (v1 * 256+v2)=v1 * 256+v2:=F3 (by omega)
   have hp:E5 m (cd,pt,sd)=((v1 * 256+v2).tmod m,u2,p2,q2):=by simp only[E5,bnd,decide_eq_false (show ¬m≤1 by omega),hr1,decide_eq_true (show 200 < m by omega),hr2]
   refine oW Y2 ?_;simp (maxSteps:=2000000)only[hw1,hr2,hw2,go_sem];repeat(with_reducible first|refine oA ?_|refine And.intro (by first|exact H2) ?_)
   refine hK6 _ ?_;refine oS fun _ hK8=>?_;refine oW Y2 ?_;simp only[go_sem];repeat(with_reducible first|refine oA ?_|refine And.intro (by first|exact H2) ?_)
   refine hK8 _ ?_;refine A0 ?_;simp only[hres,go_sem]
   first
    | exact oG
    | refine ⟨oG, ?_⟩
      simp only[hp];try((repeat' refine And.intro ?_ ?_)<;>first|rfl|trivial|(congr 1;done))
  intro c1;have hp:E5 m (cd,pt,sd)=(v1.tmod m,u1,p1,q1):=by simp only[E5,bnd,decide_eq_false (show ¬m≤1 by omega),hr1,decide_eq_false (show ¬200 < m by omega)]
  refine A2 ?_;simp only[go_sem];refine hK6 _ ?_;refine oS fun _ hK9=>?_;refine oW Y2 ?_;simp only[go_sem];repeat(with_reducible first|refine oA ?_|refine And.intro (by first|exact H2) ?_)
  refine hK9 _ ?_;refine A0 ?_;simp only[hres,go_sem]
  first
   | exact oG
   | refine ⟨oG, ?_⟩
     simp only[hp];try((repeat' refine And.intro ?_ ?_)<;>first|rfl|trivial|(congr 1;done))
def B7s:E4:=fun f=>if f=32 then some (.g A7P) else B7Z f
theorem A7a:B4 Tryz.prog B7s:=m8 C69 (B0 Tryz.func32 rfl (by decide)) Y2
attribute [go_sem] B7s A7P
def B1g:GCon where
  ps:=[.po 0,.val (.int .i64)]
  os:=[.box [.rd ((.row 5 (.int .u8))),.rd (.int .i64),.rd (.int .u64)]]
  c:=fun x=>srcOk 2 (x.2.1.1,x.2.1.2.1,x.2.1.2.2.1)
  r:=fun x=>.c (.sc (.bool ((A1H x.1.2.1 (x.2.1.1,x.2.1.2.1,x.2.1.2.2.1)).1)))
  o:=fun x=>[(30,.box [.rd [] 5 (.int .u8) ((A1H x.1.2.1 (x.2.1.1,x.2.1.2.1,x.2.1.2.2.1)).2.1),.sc (.int .i64 ((A1H x.1.2.1 (x.2.1.1,x.2.1.2.1,x.2.1.2.2.1)).2.2.1)),.sc (.int .u64 ((A1H x.1.2.1 (x.2.1.1,x.2.1.2.1,x.2.1.2.2.1)).2.2.2))])]
  ok:=by
    rintro⟨⟨_,(m:Int),_⟩,⟨⟨(cd:List Int),(pt:Int),(sd:Int),_⟩,_⟩⟩
    exact⟨rfl,rfl,by decide⟩
theorem C7u:Z2 Tryz.prog 14 B1g:=by
  refine E1 Tryz.func14 rfl ?_
  have hres:Tryz.f14.results.toList=[.tmp 4]:=rfl
  rintro⟨⟨_,(m:Int),_⟩,⟨⟨(cd:List Int),(pt:Int),(sd:Int),_⟩,_⟩⟩ hc hL hO
  simp only[B1g,go_sem] at hL
  simp only[B1g,go_sem] at hO
  simp only[B1g,St.init,St.initG,Tryz.ntmps14,go_sem] 
  have hs0:srcOk 2 (cd,pt,sd):=hc
  rcases hr1:E5 m (cd,pt,sd) with⟨v1,u1,p1,q1⟩
  obtain⟨hs1,hv1,hb1,hz1⟩:=I2 hs0 (by omega) hr1
  have hs1:srcOk _ (u1,p1,q1):=hs1
  refine oS fun _ hK1=>?_;refine oW A7a ?_;simp only[go_sem];repeat(with_reducible first|refine oA ?_|refine And.intro (by first|exact H2) ?_)
  refine hK1 _ ?_;refine oS fun _ hK2=>?_;refine oW A7a ?_;simp (maxSteps:=2000000)only[hr1,go_sem];repeat(with_reducible first|refine oA ?_|refine And.intro (by first|exact H2) ?_)
  refine hK2 _ ?_;refine A0 ?_;simp only[hres,go_sem]
  first
   | exact oG
   | refine ⟨oG, ?_⟩
     simp only[show A1H m (cd,pt,sd)=(decide (v1=0),u1,p1,q1) from L7 hr1];try((repeat' refine And.intro ?_ ?_)<;>first|rfl|trivial|(congr 1;done))
def C2l:E4:=fun f=>if f=14 then some (.g B1g) else B7s f
theorem B02:B4 Tryz.prog C2l:=m8 C7u (B0 Tryz.func14 rfl (by decide)) A7a
attribute [go_sem] C2l B1g
def A4b:GCon where
  ps:=[.po 0,.val ((.row 2 (.int .i64)))]
  os:=[.box [.rd ((.row 5 (.int .u8))),.rd (.int .i64),.rd (.int .u64)]]
  c:=fun x=>srcOk 2 (x.2.1.1,x.2.1.2.1,x.2.1.2.2.1)∧0 < x.1.2.1.length
  r:=fun x=>.c (.sc (.int .i64 ((J0 x.1.2.1 (x.2.1.1,x.2.1.2.1,x.2.1.2.2.1)).1)))
  o:=fun x=>[(30,.box [.rd [] 5 (.int .u8) ((J0 x.1.2.1 (x.2.1.1,x.2.1.2.1,x.2.1.2.2.1)).2.1),.sc (.int .i64 ((J0 x.1.2.1 (x.2.1.1,x.2.1.2.1,x.2.1.2.2.1)).2.2.1)),.sc (.int .u64 ((J0 x.1.2.1 (x.2.1.1,x.2.1.2.1,x.2.1.2.2.1)).2.2.2))])]
  ok:=by
    rintro⟨⟨_,(xs:List Int),_⟩,⟨⟨(cd:List Int),(pt:Int),(sd:Int),_⟩,_⟩⟩
    exact⟨rfl,rfl,by decide⟩
theorem C3j:Z2 Tryz.prog 60 A4b:=by
  refine E1 Tryz.func60 rfl ?_
  have hres:Tryz.f60.results.toList=[.tmp 4]:=rfl
  rintro⟨⟨_,(xs:List Int),_⟩,⟨⟨(cd:List Int),(pt:Int),(sd:Int),_⟩,_⟩⟩ hc hL hO
  simp only[A4b,go_sem] at hL
  simp only[A4b,go_sem] at hO
  simp only[A4b,St.init,St.initG,Tryz.ntmps60,go_sem] 
  obtain⟨hs0,hx⟩:=(show srcOk 2 (cd,pt,sd)∧0 < xs.length from hc)
  rcases hr1:E5 xs.length (cd,pt,sd) with⟨v1,u1,p1,q1⟩
  obtain⟨hs1,hv1,hb1,hz1⟩:=I2 hs0 (by omega) hr1
  have hs1:srcOk _ (u1,p1,q1):=hs1
  have hb1:=hb1 (by omega)
  refine oS fun _ hK1=>?_;refine oW B02 ?_;simp only[go_sem];repeat(with_reducible first|refine oA ?_|refine And.intro (by first|exact H2) ?_)
  refine hK1 _ ?_;refine oS fun _ hK2=>?_;refine oW B02 ?_;simp (maxSteps:=2000000)only[hr1,go_sem];repeat(with_reducible first|refine oA ?_|refine And.intro (by first|exact H2) ?_)
  refine hK2 _ ?_;refine A0 ?_;simp only[hres,go_sem]
  first
   | exact oG
   | refine ⟨oG, ?_⟩
     simp only[show J0 xs (cd,pt,sd)=(xs.getD v1.toNat 0,u1,p1,q1) from L7 hr1];try((repeat' refine And.intro ?_ ?_)<;>first|rfl|trivial|(congr 1;done))
def B45:E4:=fun f=>if f=60 then some (.g A4b) else C2l f
theorem A5P:B4 Tryz.prog B45:=m8 C3j (B0 Tryz.func60 rfl (by decide)) B02
attribute [go_sem] B45 A4b
def A0J:GCon where
  ps:=[.val ((.row 5 (.int .u8)))]
  os:=[]
  c:=fun _=>True
  r:=fun _=>.c (.po 10 0)
  o:=fun x=>[(10,.box [.rd [] 5 (.int .u8) (x.1.1),.sc (.int .i64 (0)),.sc (.int .u64 (0))])]
  ok:=by
    rintro⟨⟨(cd:List Int),_⟩,_⟩
    exact⟨rfl,rfl,by decide⟩
theorem B7L:Z2 Tryz.prog 12 A0J:=by
  refine E1 Tryz.func12 rfl ?_
  have hres:Tryz.f12.results.toList=[.tmp 2]:=rfl
  rintro⟨⟨(cd:List Int),_⟩,_⟩ hc hL hO
  simp only[A0J,go_sem] at hL
  simp only[A0J,go_sem] at hO
  simp only[A0J,St.init,St.initG,Tryz.ntmps12,go_sem] 
  refine oS fun _ hK1=>?_;refine oW A5P ?_;simp only[go_sem];refine hK1 _ ?_;refine oS fun _ hK2=>?_;refine oW A5P ?_;simp only[go_sem];refine hK2 _ ?_;refine A0 ?_;simp only[hres,go_sem];first|exact oG|(refine⟨oG,?_⟩;(repeat' refine And.intro ?_ ?_)<;>first|rfl|(congr 1;done))
def A7n:E4:=fun f=>if f=12 then some (.g A0J) else B45 f
theorem H6:B4 Tryz.prog A7n:=m8 B7L (B0 Tryz.func12 rfl (by decide)) A5P
attribute [go_sem] A7n A0J
def A0P:GCon where
  ps:=[.po 0]
  os:=[.box [.rd ((.row 5 (.int .u8))),.rd (.int .i64),.rd (.int .u64)]]
  c:=fun x=>srcOk 6 (x.2.1.1,x.2.1.2.1,x.2.1.2.2.1)
  r:=fun x=>.c (.sc (.int .i64 ((Y9 (x.2.1.1,x.2.1.2.1,x.2.1.2.2.1)).1)))
  o:=fun x=>[(30,.box [.rd [] 5 (.int .u8) ((Y9 (x.2.1.1,x.2.1.2.1,x.2.1.2.2.1)).2.1),.sc (.int .i64 ((Y9 (x.2.1.1,x.2.1.2.1,x.2.1.2.2.1)).2.2.1)),.sc (.int .u64 ((Y9 (x.2.1.1,x.2.1.2.1,x.2.1.2.2.1)).2.2.2))])]
  ok:=by
    rintro⟨⟨_,_⟩,⟨⟨(cd:List Int),(pt:Int),(sd:Int),_⟩,_⟩⟩
    exact⟨rfl,rfl,by decide⟩
theorem B7m:Z2 Tryz.prog 56 A0P:=by
  refine E1 Tryz.func56 rfl ?_
  have hres:Tryz.f56.results.toList=[.tmp 2]:=rfl
  rintro⟨⟨_,_⟩,⟨⟨(cd:List Int),(pt:Int),(sd:Int),_⟩,_⟩⟩ hc hL hO
  simp only[A0P,go_sem] at hL
  simp only[A0P,go_sem] at hO
  simp only[A0P,St.init,St.initG,Tryz.ntmps56,go_sem] 
  have hs0:srcOk 6 (cd,pt,sd):=hc
  rcases hr1:E5 8 (cd,pt,sd) with⟨v1,u1,p1,q1⟩
  obtain⟨hs1,hv1,hb1,hz1⟩:=I2 hs0 (by omega) hr1
  have hs1:srcOk _ (u1,p1,q1):=hs1
  refine oS fun _ hK1=>?_;refine oW H6 ?_;simp only[go_sem];repeat(with_reducible first|refine oA ?_|refine And.intro (by first|exact H2|exact⟨hs1.le (by omega),by simp⟩) ?_)
  refine hK1 _ ?_;refine oS fun _ hK2=>?_;refine oS fun _ hK3=>?_;refine oW H6 ?_;simp only[hr1,go_sem];repeat(with_reducible first|refine oA ?_|refine And.intro (by first|exact H2|exact⟨hs1.le (by omega),by simp⟩) ?_)
  refine hK3 _ ?_;refine A1 ?_;refine oS fun _ hK4=>?_;refine oW H6 ?_;simp only[go_sem];repeat(with_reducible first|refine oA ?_|refine And.intro (by first|exact H2|exact⟨hs1.le (by omega),by simp⟩) ?_)
  refine hK4 _ ?_;refine oC rfl ?_ ?_
  ·
   intro c0;have k0:=decide_eq_true c0
   refine oS fun _ hK5=>?_;rcases hr2:J0 [-2147483648,2147483647,-2147483647,65536,-65536,1073741824] (u1,p1,q1) with⟨v2,u2,p2,q2⟩
   obtain⟨hs2,hm2⟩:=O0 hs1 (by omega) (by simp) hr2
   refine oW H6 ?_;simp only[hr2,go_sem];repeat(with_reducible first|refine oA ?_|refine And.intro (by first|exact H2|exact⟨hs1.le (by omega),by simp⟩) ?_)
   refine hK5 _ ?_;refine A0 ?_;simp only[hres,go_sem]
   first
    | exact oG
    | refine ⟨oG, ?_⟩
      simp only[Y9,bnd,hr1,k0,hr2];try((repeat' refine And.intro ?_ ?_)<;>first|rfl|trivial|(congr 1;done))
  intro c0;have k0:=decide_eq_false c0
  refine oS fun _ hK6=>?_;refine oW H6 ?_;simp only[go_sem];repeat(with_reducible first|refine oA ?_|refine And.intro (by first|exact H2|exact⟨hs1.le (by omega),by simp⟩) ?_)
  refine hK6 _ ?_;refine oC rfl ?_ ?_
  ·
   intro c1;have k1:=decide_eq_true c1
   refine oS fun _ hK7=>?_;rcases hr2:O2 (u1,p1,q1) with⟨v2,u2,p2,q2⟩
   obtain⟨hs2,hv2,hb2⟩:=A6g hs1 (by omega) hr2
   refine oW H6 ?_;simp only[hr2,go_sem];repeat(with_reducible first|refine oA ?_|refine And.intro (by first|exact H2|exact⟨hs1.le (by omega),by simp⟩) ?_)
   refine hK7 _ ?_;refine oS fun _ hK8=>?_;refine oS fun _ hK9=>?_;refine oW H6 ?_;simp only[go_sem];repeat(with_reducible first|refine oA ?_|refine And.intro (by first|exact H2|exact⟨hs1.le (by omega),by simp⟩) ?_)
   refine hK9 _ ?_;refine A1 ?_;refine A7 (ι:={ k:Nat // k≤3 }) (fun k=>⟨[.c (.po 30 0),zz,zz,.c (.sc (.int .i64 ((R7 A7u k.1 v2 (u2,p2,q2)).1))),.c (.sc (.int .i64 (k.1))),zz,zz,zz,zz,zz,zz,zz,zz,zz,zz,zz,zz,zz,zz,zz,zz,zz,zz,zz,zz,zz,zz,zz,zz,zz,zz,zz],[(30,.box [.rd [] 5 (.int .u8) ((R7 A7u k.1 v2 (u2,p2,q2)).2.1),.sc (.int .i64 ((R7 A7u k.1 v2 (u2,p2,q2)).2.2.1)),.sc (.int .u64 ((R7 A7u k.1 v2 (u2,p2,q2)).2.2.2))])]⟩) (fun k=>3 - k.1) ⟨0,by omega⟩ ?_ ?_
   ·
    refine oK ?_;simp (maxSteps:=2000000)only[go_sem];all_goals((repeat' refine And.intro ?_ ?_)<;>first|rfl|(congr 1;done))
   rintro⟨k,hk⟩ K10 hL10
   rcases hit:R7 A7u k v2 (u2,p2,q2) with⟨v3,u3,p3,q3⟩
   have hs3:=(Cost.it A8n k v2).at hs2 (by omega) hit
   refine oS fun _ hK11=>?_;refine oS fun _ hK12=>?_;refine oW H6 ?_;simp only[hit,go_sem];repeat(with_reducible first|refine oA ?_|refine And.intro (by first|exact H2|exact⟨hs1.le (by omega),by simp⟩) ?_)
   refine hK12 _ ?_;refine oC rfl ?_ ?_
   ·
    intro c2;refine A2 ?_;simp only[go_sem];refine hK11 _ ?_;refine oS fun _ hK13=>?_;refine A1 ?_;rcases hr4:O2 (u3,p3,q3) with⟨v4,u4,p4,q4⟩
    obtain⟨hs4,hv4,hb4⟩:=A6g hs3 (by omega) hr4
    have hnx:R7 A7u (k+1) v2 (u2,p2,q2)=(IntKind.i64.wrap (IntKind.i64.wrap (256 * v3)+v4),u4,p4,q4):=(X8 hit).trans (L7 hr4)
    refine oW H6 ?_;simp (maxSteps:=2000000)only[hr4,go_sem];repeat(with_reducible first|refine oA ?_|refine And.intro (by first|exact H2|exact⟨hs1.le (by omega),by simp⟩) ?_)
    refine hK13 _ ?_;refine oW H6 ?_;simp only[go_sem];repeat(with_reducible first|refine oA ?_|refine And.intro (by first|exact H2|exact⟨hs1.le (by omega),by simp⟩) ?_)
    refine hL10 ⟨k+1,by omega⟩ _ (oK ?_) ?_
    ·
     simp (maxSteps:=2000000)only[go_sem];all_goals(try simp only[hnx])
     all_goals((repeat' refine And.intro ?_ ?_)<;>first|rfl|exact wk (by omega)|(congr 1;done))
    ·
     first|(simp only[];omega)|omega|(simp;omega)
   intro c2;obtain rfl:k=3:=by omega
   refine B6 ?_;simp only[go_sem];refine hK8 _ ?_;refine oS fun _ hK14=>?_;refine oW H6 ?_;simp only[go_sem];repeat(with_reducible first|refine oA ?_|refine And.intro (by first|exact H2|exact⟨hs1.le (by omega),by simp⟩) ?_)
   refine hK14 _ ?_;refine A0 ?_;simp only[hres,go_sem]
   first
    | exact oG
    | refine ⟨oG, ?_⟩
      simp only[Y9,bnd,hr1,k0,k1,hr2,hit];try((repeat' refine And.intro ?_ ?_)<;>first|rfl|trivial|(congr 1;done))
  intro c1;have k1:=decide_eq_false c1
  refine oS fun _ hK15=>?_;refine oW H6 ?_;simp only[go_sem];repeat(with_reducible first|refine oA ?_|refine And.intro (by first|exact H2|exact⟨hs1.le (by omega),by simp⟩) ?_)
  refine hK15 _ ?_;refine oC rfl ?_ ?_
  ·
   intro c3;have k3:=decide_eq_true c3
   refine oS fun _ hK16=>?_;refine oW H6 ?_;simp only[go_sem];repeat(with_reducible first|refine oA ?_|refine And.intro (by first|exact H2|exact⟨hs1.le (by omega),by simp⟩) ?_)
   refine hK16 _ ?_;refine A0 ?_;simp only[hres,go_sem]
   first
    | exact oG
    | refine ⟨oG, ?_⟩
      simp only[Y9,bnd,hr1,k0,k1,k3];try((repeat' refine And.intro ?_ ?_)<;>first|rfl|trivial|(congr 1;done))
  intro c3;have k3:=decide_eq_false c3
  refine A2 ?_;simp only[go_sem];refine hK2 _ ?_;refine oS fun _ hK17=>?_;rcases hr2:E5 41 (u1,p1,q1) with⟨v2,u2,p2,q2⟩
  obtain⟨hs2,hv2,hb2,hz2⟩:=I2 hs1 (by omega) hr2
  have hs2:srcOk _ (u2,p2,q2):=hs2
  have hw:IntKind.i64.wrap (v2 - 20)=v2 - 20:=F3 (by omega)
  refine oW H6 ?_;simp only[hr2,hw,go_sem];repeat(with_reducible first|refine oA ?_|refine And.intro (by first|exact H2|exact⟨hs1.le (by omega),by simp⟩) ?_)
  refine hK17 _ ?_;refine A0 ?_;simp only[hres,go_sem]
  first
   | exact oG
   | refine ⟨oG, ?_⟩
     simp only[Y9,bnd,hr1,k0,k1,k3,hr2];try((repeat' refine And.intro ?_ ?_)<;>first|rfl|trivial|(congr 1;done))
def A7B:E4:=fun f=>if f=56 then some (.g A0P) else A7n f
theorem B2w:B4 Tryz.prog A7B:=m8 B7m (B0 Tryz.func56 rfl (by decide)) H6
attribute [go_sem] A7B A0P
def A76:E4:=A7B
theorem B2H:B4 Tryz.prog A76:=B2w
attribute [go_sem] A76
end Go.Proofs.YtgaogcnfijbahaaGreat
