/-
  Texts of this claim, joined (part 10). No condition beyond those of the theorems.
-/
import Derived.Test.YtflobmmbhaofbaaGreatQ08
import Derived.Test.YtflobmmbhaofbaaGreatQ09
namespace Go.Proofs.YtflobmmbhaofbaaGreat
open Go.RowKit
set_option linter.unusedSimpArgs false
set_option linter.unusedVariables false
set_option maxRecDepth 100000
set_option maxHeartbeats 4000000
def B1c:F8:=fun f=>match A6Z f with
 | some k=>some k
 | none=>A2t f
theorem J3:B8 Tryz.prog B1c:=T3 B1D H0
attribute [go_sem] B1c T0
def l6:GCon where
  ps:=[.po 0,.val (.int .i64),.val (.int .i64)]
  os:=[.box [.rd ((.row 5 (.int .u8))),.rd (.int .i64),.rd (.int .u64)]]
  c:=fun x=>srcOk 6 (x.2.1.1,x.2.1.2.1,x.2.1.2.2.1)
  r:=fun x=>.c (.sc (.int .i64 (((A0n x.1.2.1 x.1.2.2.1) (x.2.1.1,x.2.1.2.1,x.2.1.2.2.1)).1)))
  o:=fun x=>[(30,.box [.rd [] 5 (.int .u8) (((A0n x.1.2.1 x.1.2.2.1) (x.2.1.1,x.2.1.2.1,x.2.1.2.2.1)).2.1),.sc (.int .i64 (((A0n x.1.2.1 x.1.2.2.1) (x.2.1.1,x.2.1.2.1,x.2.1.2.2.1)).2.2.1)),.sc (.int .u64 (((A0n x.1.2.1 x.1.2.2.1) (x.2.1.1,x.2.1.2.1,x.2.1.2.2.1)).2.2.2))])]
  ok:=by
    rintro⟨⟨_,(kd:Int),(tb:Int),_⟩,⟨⟨(cd:List Int),(pt:Int),(sd:Int),_⟩,_⟩⟩
    exact⟨rfl,rfl,by decide⟩
theorem B3X:W3 Tryz.prog 98 l6:=by
  refine D8 Tryz.func98 rfl ?_
  have hres:Tryz.f98.results.toList=[.tmp 6]:=rfl
  rintro⟨⟨_,(kd:Int),(tb:Int),_⟩,⟨⟨(cd:List Int),(pt:Int),(sd:Int),_⟩,_⟩⟩ hc hL hO
  simp only[l6,go_sem] at hL
  simp only[l6,go_sem] at hO
  simp only[l6,St.init,St.initG,Tryz.ntmps98,go_sem] 
  have hs0:srcOk 6 (cd,pt,sd):=hc
  refine oS fun _ hK1=>?_;refine oW J3 ?_;simp only[go_sem];repeat(with_reducible first|refine oA ?_|refine And.intro (by first|exact G4|exact⟨hs0.le (by omega),by simp⟩) ?_)
  refine hK1 _ ?_;refine oS fun _ hK2=>?_;refine oS fun _ hK3=>?_;refine oW J3 ?_;simp only[go_sem];repeat(with_reducible first|refine oA ?_|refine And.intro (by first|exact G4|exact⟨hs0.le (by omega),by simp⟩) ?_)
  refine hK3 _ ?_;refine A5 ?_;refine oS fun _ hK4=>?_;refine oW J3 ?_;simp only[go_sem];repeat(with_reducible first|refine oA ?_|refine And.intro (by first|exact G4|exact⟨hs0.le (by omega),by simp⟩) ?_)
  refine hK4 _ ?_;refine oC rfl ?_ ?_
  ·
   intro c0;have k0:=decide_eq_true c0
   refine oS fun _ hK5=>?_;rcases hr1:F6 2 (cd,pt,sd) with⟨v1,u1,p1,q1⟩
   obtain⟨hs1,hv1,hb1,hz1⟩:=L4 hs0 (by omega) hr1
   have hs1:srcOk _ (u1,p1,q1):=hs1
   refine oW J3 ?_;simp only[hr1,go_sem];repeat(with_reducible first|refine oA ?_|refine And.intro (by first|exact G4|exact⟨hs0.le (by omega),by simp⟩) ?_)
   refine hK5 _ ?_;refine A2 ?_;simp only[hres,go_sem]
   first
    | exact oG
    | refine ⟨oG, ?_⟩
      simp only[A0n,k0,hr1];try((repeat' refine And.intro ?_ ?_)<;>first|rfl|trivial|(congr 1;done))
  intro c0;have k0:=decide_eq_false c0
  refine oS fun _ hK6=>?_;refine oW J3 ?_;simp only[go_sem];repeat(with_reducible first|refine oA ?_|refine And.intro (by first|exact G4|exact⟨hs0.le (by omega),by simp⟩) ?_)
  refine hK6 _ ?_;refine oC rfl ?_ ?_
  ·
   intro c1;have k1:=decide_eq_true c1
   refine oS fun _ hK7=>?_;rcases hr1:F6 4 (cd,pt,sd) with⟨v1,u1,p1,q1⟩
   obtain⟨hs1,hv1,hb1,hz1⟩:=L4 hs0 (by omega) hr1
   have hs1:srcOk _ (u1,p1,q1):=hs1
   have hb1:=hb1 (by omega)
   have hw:IntKind.i64.wrap (1+v1)=1+v1:=G9 (by omega)
   refine oW J3 ?_;simp only[hr1,hw,go_sem];repeat(with_reducible first|refine oA ?_|refine And.intro (by first|exact G4|exact⟨hs0.le (by omega),by simp⟩) ?_)
   refine hK7 _ ?_;refine A2 ?_;simp only[hres,go_sem]
   first
    | exact oG
    | refine ⟨oG, ?_⟩
      simp only[A0n,bnd,k0,k1,hr1];try((repeat' refine And.intro ?_ ?_)<;>first|rfl|trivial|(congr 1;done))
  intro c1;have k1:=decide_eq_false c1
  refine oS fun _ hK8=>?_;refine oW J3 ?_;simp only[go_sem];repeat(with_reducible first|refine oA ?_|refine And.intro (by first|exact G4|exact⟨hs0.le (by omega),by simp⟩) ?_)
  refine hK8 _ ?_;refine oC rfl ?_ ?_
  ·
   intro c2;have k2:=decide_eq_true c2
   refine oS fun _ hK9=>?_;rcases hr1:I9 [1,2,0,16,31] (cd,pt,sd) with⟨v1,u1,p1,q1⟩
   obtain⟨hs1,hm1⟩:=P1 hs0 (by omega) (by simp) hr1
   refine oW J3 ?_;simp only[hr1,go_sem];repeat(with_reducible first|refine oA ?_|refine And.intro (by first|exact G4|exact⟨hs0.le (by omega),by simp⟩) ?_)
   refine hK9 _ ?_;refine A2 ?_;simp only[hres,go_sem]
   first
    | exact oG
    | refine ⟨oG, ?_⟩
      simp only[A0n,k0,k1,k2,hr1];try((repeat' refine And.intro ?_ ?_)<;>first|rfl|trivial|(congr 1;done))
  intro c2;have k2:=decide_eq_false c2
  refine oS fun _ hK10=>?_;refine oW J3 ?_;simp only[go_sem];repeat(with_reducible first|refine oA ?_|refine And.intro (by first|exact G4|exact⟨hs0.le (by omega),by simp⟩) ?_)
  refine hK10 _ ?_;refine oC rfl ?_ ?_
  ·
   intro c3;have k3:=decide_eq_true c3
   refine oS fun _ hK11=>?_;rcases hr1:I9 [10,0,100,2147483647] (cd,pt,sd) with⟨v1,u1,p1,q1⟩
   obtain⟨hs1,hm1⟩:=P1 hs0 (by omega) (by simp) hr1
   refine oW J3 ?_;simp only[hr1,go_sem];repeat(with_reducible first|refine oA ?_|refine And.intro (by first|exact G4|exact⟨hs0.le (by omega),by simp⟩) ?_)
   refine hK11 _ ?_;refine A2 ?_;simp only[hres,go_sem]
   first
    | exact oG
    | refine ⟨oG, ?_⟩
      simp only[A0n,k0,k1,k2,k3,hr1];try((repeat' refine And.intro ?_ ?_)<;>first|rfl|trivial|(congr 1;done))
  intro c3;have k3:=decide_eq_false c3
  refine oS fun _ hK12=>?_;refine oW J3 ?_;simp only[go_sem];repeat(with_reducible first|refine oA ?_|refine And.intro (by first|exact G4|exact⟨hs0.le (by omega),by simp⟩) ?_)
  refine hK12 _ ?_;refine oC rfl ?_ ?_
  ·
   intro c4;have k4:=decide_eq_true c4
   refine oS fun _ hK13=>?_;rcases hr1:F6 tb (cd,pt,sd) with⟨v1,u1,p1,q1⟩
   obtain⟨hs1,hv1,hb1,hz1⟩:=L4 hs0 (by omega) hr1
   have hs1:srcOk _ (u1,p1,q1):=hs1
   refine oW J3 ?_;simp only[hr1,go_sem];repeat(with_reducible first|refine oA ?_|refine And.intro (by first|exact G4|exact⟨hs0.le (by omega),by simp⟩) ?_)
   refine hK13 _ ?_;refine A2 ?_;simp only[hres,go_sem]
   first
    | exact oG
    | refine ⟨oG, ?_⟩
      simp only[A0n,k0,k1,k2,k3,k4,hr1];try((repeat' refine And.intro ?_ ?_)<;>first|rfl|trivial|(congr 1;done))
  intro c4;have k4:=decide_eq_false c4
  refine A3 ?_;simp only[go_sem];refine hK2 _ ?_;refine oS fun _ hK14=>?_;refine oS fun _ hK15=>?_;refine oW J3 ?_;simp only[go_sem];repeat(with_reducible first|refine oA ?_|refine And.intro (by first|exact G4|exact⟨hs0.le (by omega),by simp⟩) ?_)
  refine hK15 _ ?_;refine oC rfl ?_ ?_
  ·
   intro c5;refine oS fun _ hK16=>?_;rcases hr1:A1h (cd,pt,sd) with⟨v1,u1,p1,q1⟩
   have hs1:=(A1P).at hs0 (by omega) hr1
   refine oW J3 ?_;simp only[hr1,go_sem];repeat(with_reducible first|refine oA ?_|refine And.intro (by first|exact G4|exact⟨hs0.le (by omega),by simp⟩) ?_)
   refine hK16 _ ?_;refine A2 ?_;simp only[hres,go_sem]
   first
    | exact oG
    | refine ⟨oG, ?_⟩
      simp only[A0n,k0,k1,k2,k3,k4,c5,hr1];try((repeat' refine And.intro ?_ ?_)<;>first|rfl|trivial|(congr 1;done))
  intro c5;refine A3 ?_;simp only[go_sem];refine hK14 _ ?_;refine oS fun _ hK17=>?_;refine oW J3 ?_;simp only[go_sem];repeat(with_reducible first|refine oA ?_|refine And.intro (by first|exact G4|exact⟨hs0.le (by omega),by simp⟩) ?_)
  refine hK17 _ ?_;refine A2 ?_;simp only[hres,go_sem]
  first
   | exact oG
   | refine ⟨oG, ?_⟩
     simp only[A0n,k0,k1,k2,k3,k4,c5];try((repeat' refine And.intro ?_ ?_)<;>first|rfl|trivial|(congr 1;done))
def A40:F8:=fun f=>if f=98 then some (.g l6) else B1c f
theorem J9:B8 Tryz.prog A40:=a8 B3X (B6 Tryz.func98 rfl (by decide)) J3
attribute [go_sem] A40 l6
def z8:GCon where
  ps:=[.po 0,.val (.int .i64),.val (.int .i64),.val (.int .i64)]
  os:=[.box [.rd ((.row 5 (.int .u8))),.rd (.int .i64),.rd (.int .u64)]]
  c:=fun x=>srcOk 20 (x.2.1.1,x.2.1.2.1,x.2.1.2.2.1)∧O7 x.1.2.1 0 17=true
  r:=fun x=>.agg [.sc (.int .i64 (x8 x.1.2.1 x.1.2.2.1 x.1.2.2.2.1 (x.2.1.1,x.2.1.2.1,x.2.1.2.2.1)).1.1),.sc (.int .i64 (x8 x.1.2.1 x.1.2.2.1 x.1.2.2.2.1 (x.2.1.1,x.2.1.2.1,x.2.1.2.2.1)).1.2.1),.sc (.int .i64 (x8 x.1.2.1 x.1.2.2.1 x.1.2.2.2.1 (x.2.1.1,x.2.1.2.1,x.2.1.2.2.1)).1.2.2.1),.ow 10]
  o:=fun x=>[(30,.box [.rd [] 5 (.int .u8) ((x8 x.1.2.1 x.1.2.2.1 x.1.2.2.2.1 (x.2.1.1,x.2.1.2.1,x.2.1.2.2.1)).2.1),.sc (.int .i64 ((x8 x.1.2.1 x.1.2.2.1 x.1.2.2.2.1 (x.2.1.1,x.2.1.2.1,x.2.1.2.2.1)).2.2.1)),.sc (.int .u64 ((x8 x.1.2.1 x.1.2.2.1 x.1.2.2.2.1 (x.2.1.1,x.2.1.2.1,x.2.1.2.2.1)).2.2.2))]),(10,.row 2 (.int .i64) ((x8 x.1.2.1 x.1.2.2.1 x.1.2.2.2.1 (x.2.1.1,x.2.1.2.1,x.2.1.2.2.1)).1.2.2.2) [])]
  ok:=by
    rintro⟨⟨_,(kd:Int),(tb:Int),(bl:Int),_⟩,⟨⟨(cd:List Int),(pt:Int),(sd:Int),_⟩,_⟩⟩
    exact⟨rfl,rfl,by decide⟩
theorem B4k:W3 Tryz.prog 77 z8:=by
  refine D8 Tryz.func77 rfl ?_
  have hres:Tryz.f77.results.toList=[.cell 8 56]:=rfl
  rintro⟨⟨_,(kd:Int),(tb:Int),(bl:Int),_⟩,⟨⟨(cd:List Int),(pt:Int),(sd:Int),_⟩,_⟩⟩ hc hL hO
  simp only[z8,go_sem] at hL
  simp only[z8,go_sem] at hO
  simp only[z8,St.init,St.initG,Tryz.ntmps77,go_sem] 
  obtain⟨hs0,hkr⟩:=(show srcOk 20 (cd,pt,sd)∧O7 kd 0 17=true from hc)
  obtain⟨har1,har2⟩:=A95 kd.toNat
  rcases hr1:A0n kd tb (cd,pt,sd) with⟨v1,u1,p1,q1⟩
  have hs1:=(A8U kd tb).at hs0 (by omega) hr1
  refine oS fun _ hK1=>?_;refine oW J9 ?_;simp only[go_sem];repeat(with_reducible first|refine oA ?_|refine And.intro (by first|exact G4|exact hkr) ?_)
  refine hK1 _ ?_;refine oS fun _ hK2=>?_;refine oW J9 ?_;simp (maxSteps:=2000000)only[List.nodup_cons,List.nodup_nil,List.not_mem_nil,not_false_eq_true,hr1,go_sem];repeat(with_reducible first|refine oA ?_|refine And.intro (by first|exact G4|exact hkr) ?_)
  refine hK2 _ ?_;refine oS fun _ hK3=>?_;refine oS fun _ hK4=>?_;refine oW J9 ?_;simp only[go_sem];repeat(with_reducible first|refine oA ?_|refine And.intro (by first|exact G4|exact hkr) ?_)
  refine hK4 _ ?_;refine A5 ?_;refine B4 (ι:={ k:Nat // k≤(arL.getD kd.toNat 0).toNat }) (fun k=>⟨[.c (.po 30 0),.c (.sc (.int .i64 (kd))),zz,.c (.sc (.int .i64 (bl))),zz,zz,zz,zz,.c (.po 228 0),.c (.po 244 0),.c (.sc (.int .i64 ((arL.getD kd.toNat 0) - (k.1:Int)))),zz,zz,zz,zz,zz,zz,zz,zz,zz,zz,zz,zz,zz,zz,zz,zz,zz,zz,zz,zz,zz,zz,zz,zz,zz,zz,zz,zz],[(30,.box [.rd [] 5 (.int .u8) ((X8 (M6 (F6 bl)) k.1 [] (u1,p1,q1)).2.1),.sc (.int .i64 ((X8 (M6 (F6 bl)) k.1 [] (u1,p1,q1)).2.2.1)),.sc (.int .u64 ((X8 (M6 (F6 bl)) k.1 [] (u1,p1,q1)).2.2.2))]),(228,.box [.sc (.int .i64 (0)),.sc (.int .i64 (0)),.sc (.int .i64 (0)),.sc (.slice none 0 0)]),(244,.box [.sc (.int .i64 (kd)),.sc (.int .i64 (v1)),.sc (.int .i64 (0)),.ow 9001]),(9001,.row 2 (.int .i64) ((X8 (M6 (F6 bl)) k.1 [] (u1,p1,q1)).1) [])]⟩) (fun k=>(arL.getD kd.toNat 0).toNat - k.1) ⟨0,by omega⟩ ?_ ?_
  ·
   refine oK ?_;simp (maxSteps:=2000000)only[go_sem];all_goals((repeat' refine And.intro ?_ ?_)<;>first|rfl|omega|(simp;done)|(congr 1;done))
  rintro⟨k,hk⟩ K5 hL5
  rcases hit:X8 (M6 (F6 bl)) k [] (u1,p1,q1) with⟨v3,u3,p3,q3⟩
  have hs3:=(Cost.it (W4 (H4 bl)) k []).at hs1 (by omega) hit
  have hlk:v3.length=k:=by have:=A0x (m:=F6 bl) (k:=k) (s:=(u1,p1,q1)) (xs:=[]);rw[hit] at this;simpa using this
  refine oS fun _ hK6=>?_;refine oS fun _ hK7=>?_;refine oW J9 ?_;simp only[hit,go_sem];repeat(with_reducible first|refine oA ?_|refine And.intro (by first|exact G4|exact hkr) ?_)
  refine hK7 _ ?_;refine oC rfl ?_ ?_
  ·
   intro c0;refine A3 ?_;simp only[go_sem];refine hK6 _ ?_;refine oS fun _ hK8=>?_;refine A5 ?_;rcases hr4:F6 bl (u3,p3,q3) with⟨v4,u4,p4,q4⟩
   obtain⟨hs4,hv4,hb4,hz4⟩:=L4 hs3 (by omega) hr4
   have hs4:srcOk _ (u4,p4,q4):=hs4
   have hnx:(X8 (M6 (F6 bl)) (k+1) [] (u1,p1,q1))=(v3++[v4],u4,p4,q4):=(A0V hit).trans (M5 hr4)
   refine oR J9
     [[],[0],[],[],[2,3],[2,3,4],[0,1,2,3,4,5],[0,1,2,3,4,5,6],[0,1,2,3,4,5,6,7]]
     [[30,548,549,550,551,552,553,554,555,556,557,558,559,560,561,562,563,564],[30,548,549,550,551,552,553,554,555,556,557,558,559,560,561,562,563,564],[],[],[],[],[],[],[]]
     [[],[],[],[],[30,548,549,550,551,552,553,554,555,556,557,558,559,560,561,562,563],[30,548,549,550,551,552,553,554,555,556,557,558,559,560,561,562,563,564],[],[],[]] (by kernel_rfl) (by kernel_rfl) (B7 (acc:=[]) ?_)
   simp (maxSteps:=2000000)only[hr4,go_sem];repeat(with_reducible first|refine oD ?_|refine And.intro (by first|exact G4|exact hkr) ?_)
   refine hK8 _ ?_;refine oW J9 ?_;simp only[go_sem];repeat(with_reducible first|refine oA ?_|refine And.intro (by first|exact G4|exact hkr) ?_)
   refine hL5 ⟨k+1,by omega⟩ _ (oK ?_) ?_
   ·
    simp (maxSteps:=2000000)only[go_sem];all_goals(try simp only[hnx])
    all_goals((repeat' refine And.intro ?_ ?_)<;>first|rfl|(rw[G9 (by omega)];omega)|(congr 1;done))
   ·
    first|(simp only[];omega)|omega|(simp;omega)
  intro c0;obtain rfl:k=(arL.getD kd.toNat 0).toNat:=by omega
  refine C2 ?_;simp only[go_sem];refine hK3 _ ?_;refine oS fun _ hK9=>?_;refine oS fun _ hK10=>?_;refine oW J9 ?_;simp only[go_sem];repeat(with_reducible first|refine oA ?_|refine And.intro (by first|exact G4|exact hkr) ?_)
  refine hK10 _ ?_;refine oC rfl ?_ ?_
  ·
   intro c1;have k1:=decide_eq_true c1
   rcases hr5:F6 3 (u3,p3,q3) with⟨v5,u5,p5,q5⟩
   obtain⟨hs5,hv5,hb5,hz5⟩:=L4 hs3 (by omega) hr5
   have hs5:srcOk _ (u5,p5,q5):=hs5
   have hb5:=hb5 (by omega)
   have hw:IntKind.i64.wrap (1+v5)=1+v5:=G9 (by omega)
   refine oW J9 ?_;simp (maxSteps:=2000000)only[hr5,hw,go_sem];repeat(with_reducible first|refine oA ?_|refine And.intro (by first|exact G4|exact hkr) ?_)
   refine hK9 _ ?_;refine oS fun _ hK11=>?_;refine oW J9 ?_;simp only[go_sem];repeat(with_reducible first|refine oA ?_|refine And.intro (by first|exact G4|exact hkr) ?_)
   refine hK11 _ ?_;refine A2 ?_;simp only[hres,go_sem]
   first
    | exact oG
    | refine ⟨oG, ?_⟩
      simp only[x8,bnd,hr1,hit];first|simp only[k1,hr5]|simp only[k1]
      try((repeat' refine And.intro ?_ ?_)<;>first|rfl|trivial|(congr 1;done))
  intro c1;have k1:=decide_eq_false c1
  refine A3 ?_;simp only[go_sem];refine hK9 _ ?_;refine oS fun _ hK12=>?_;refine oW J9 ?_;simp only[go_sem];repeat(with_reducible first|refine oA ?_|refine And.intro (by first|exact G4|exact hkr) ?_)
  refine hK12 _ ?_;refine A2 ?_;simp only[hres,go_sem]
  first
   | exact oG
   | refine ⟨oG, ?_⟩
     simp only[x8,bnd,hr1,hit];first|simp only[k1,hr5]|simp only[k1]
     try((repeat' refine And.intro ?_ ?_)<;>first|rfl|trivial|(congr 1;done))
def A5o:F8:=fun f=>if f=77 then some (.g z8) else A40 f
theorem G8:B8 Tryz.prog A5o:=a8 B4k (B6 Tryz.func77 rfl (by decide)) J9
attribute [go_sem] A5o z8
def A0A:GCon where
  ps:=[.po 0,.val (.int .i64)]
  os:=[.box [.rd ((.row 5 (.int .u8))),.rd (.int .i64),.rd (.int .u64)]]
  c:=fun x=>srcOk 26 (x.2.1.1,x.2.1.2.1,x.2.1.2.2.1)
  r:=fun x=>.agg [.sc (.int .i64 (A4P x.1.2.1 (x.2.1.1,x.2.1.2.1,x.2.1.2.2.1)).1.1),.sc (.int .i64 (A4P x.1.2.1 (x.2.1.1,x.2.1.2.1,x.2.1.2.2.1)).1.2.1),.sc (.int .i64 (A4P x.1.2.1 (x.2.1.1,x.2.1.2.1,x.2.1.2.2.1)).1.2.2.1),.ow 10]
  o:=fun x=>[(30,.box [.rd [] 5 (.int .u8) ((A4P x.1.2.1 (x.2.1.1,x.2.1.2.1,x.2.1.2.2.1)).2.1),.sc (.int .i64 ((A4P x.1.2.1 (x.2.1.1,x.2.1.2.1,x.2.1.2.2.1)).2.2.1)),.sc (.int .u64 ((A4P x.1.2.1 (x.2.1.1,x.2.1.2.1,x.2.1.2.2.1)).2.2.2))]),(10,.row 2 (.int .i64) ((A4P x.1.2.1 (x.2.1.1,x.2.1.2.1,x.2.1.2.2.1)).1.2.2.2) [])]
  ok:=by
    rintro⟨⟨_,(tb:Int),_⟩,⟨⟨(cd:List Int),(pt:Int),(sd:Int),_⟩,_⟩⟩
    exact⟨rfl,rfl,by decide⟩
theorem B5D:W3 Tryz.prog 52 A0A:=by
  refine D8 Tryz.func52 rfl ?_
  have hres:Tryz.f52.results.toList=[.cell 4 56]:=rfl
  rintro⟨⟨_,(tb:Int),_⟩,⟨⟨(cd:List Int),(pt:Int),(sd:Int),_⟩,_⟩⟩ hc hL hO
  simp only[A0A,go_sem] at hL
  simp only[A0A,go_sem] at hO
  simp only[A0A,St.init,St.initG,Tryz.ntmps52,go_sem] 
  have hs0:srcOk 26 (cd,pt,sd):=hc
  rcases hr1:F6 17 (cd,pt,sd) with⟨v1,u1,p1,q1⟩
  obtain⟨hs1,hv1,hb1,hz1⟩:=L4 hs0 (by omega) hr1
  have hs1:srcOk _ (u1,p1,q1):=hs1
  have hb1:=hb1 (by omega)
  have hw:IntKind.i64.wrap (1+v1)=1+v1:=G9 (by omega)
  have hkr:O7 (1+v1) 0 17=true:=L2 (by omega) (by omega)
  rcases hr2:x8 (1+v1) tb 6 (u1,p1,q1) with⟨⟨nk,na,nb,nf⟩,u2,p2,q2⟩
  have hs2:=(A09 (1+v1) tb 6).at hs1 (by omega) hr2
  have hnl:=(A4t hr2).1
  have har:=A95 (1+v1).toNat
  have hnl2:nf.length≤3:=by simp only at hnl;omega
  refine oS fun _ hK1=>?_;refine oW G8 ?_;simp only[go_sem];repeat(with_reducible first|refine oA ?_|refine And.intro (by first|exact G4|exact⟨hs1.le (by omega),hkr⟩|exact⟨hs3.le (by omega),by simp⟩) ?_)
  refine hK1 _ ?_;refine oS fun _ hK2=>?_;refine oW G8 ?_;simp (maxSteps:=2000000)only[hr1,hw,hr2,go_sem];repeat(with_reducible first|refine oA ?_|refine And.intro (by first|exact G4|exact⟨hs1.le (by omega),hkr⟩|exact⟨hs3.le (by omega),by simp⟩) ?_)
  refine hK2 _ ?_;refine oS fun _ hK3=>?_;refine oS fun _ hK4=>?_;rcases hr3:F6 16 (u2,p2,q2) with⟨v3,u3,p3,q3⟩
  obtain⟨hs3,hv3,hb3,hz3⟩:=L4 hs2 (by omega) hr3
  have hs3:srcOk _ (u3,p3,q3):=hs3
  refine oW G8 ?_;simp only[hr3,go_sem];repeat(with_reducible first|refine oA ?_|refine And.intro (by first|exact G4|exact⟨hs1.le (by omega),hkr⟩|exact⟨hs3.le (by omega),by simp⟩) ?_)
  refine hK4 _ ?_;refine A5 ?_;refine oS fun _ hK5=>?_;refine oW G8 ?_;simp only[go_sem];repeat(with_reducible first|refine oA ?_|refine And.intro (by first|exact G4|exact⟨hs1.le (by omega),hkr⟩|exact⟨hs3.le (by omega),by simp⟩) ?_)
  refine hK5 _ ?_;refine oC rfl ?_ ?_
  ·
   intro c0;have k0:=decide_eq_true c0
   rcases hr4:I9 [0,18,-1] (u3,p3,q3) with⟨v4,u4,p4,q4⟩
   obtain⟨hs4,hm4⟩:=P1 hs3 (by omega) (by simp) hr4
   refine oW G8 ?_;simp (maxSteps:=2000000)only[hr4,go_sem];repeat(with_reducible first|refine oA ?_|refine And.intro (by first|exact G4|exact⟨hs1.le (by omega),hkr⟩|exact⟨hs3.le (by omega),by simp⟩) ?_)
   refine hK3 _ ?_;refine oS fun _ hK6=>?_;refine oW G8 ?_;simp only[go_sem];repeat(with_reducible first|refine oA ?_|refine And.intro (by first|exact G4|exact⟨hs1.le (by omega),hkr⟩|exact⟨hs3.le (by omega),by simp⟩) ?_)
   refine hK6 _ ?_;refine A2 ?_;simp only[hres,go_sem]
   first
    | exact oG
    | refine ⟨oG, ?_⟩
      simp only[A4P,bnd,hr1,hr2,hr3];first|simp only[k0,k1,k2,k3,hr4]|simp only[k0,k1,k2,k3]|simp only[k0,k1,k2,hr4]|simp only[k0,k1,hr4]|simp only[k0,hr4]
      try((repeat' refine And.intro ?_ ?_)<;>first|rfl|trivial|(congr 1;done))
  intro c0;have k0:=decide_eq_false c0
  refine oS fun _ hK7=>?_;refine oW G8 ?_;simp only[go_sem];repeat(with_reducible first|refine oA ?_|refine And.intro (by first|exact G4|exact⟨hs1.le (by omega),hkr⟩|exact⟨hs3.le (by omega),by simp⟩) ?_)
  refine hK7 _ ?_;refine oC rfl ?_ ?_
  ·
   intro c1;have k1:=decide_eq_true c1
   rcases hr4:I9 [2147483648,17,32,-1,4] (u3,p3,q3) with⟨v4,u4,p4,q4⟩
   obtain⟨hs4,hm4⟩:=P1 hs3 (by omega) (by simp) hr4
   refine oW G8 ?_;simp (maxSteps:=2000000)only[hr4,go_sem];repeat(with_reducible first|refine oA ?_|refine And.intro (by first|exact G4|exact⟨hs1.le (by omega),hkr⟩|exact⟨hs3.le (by omega),by simp⟩) ?_)
   refine hK3 _ ?_;refine oS fun _ hK8=>?_;refine oW G8 ?_;simp only[go_sem];repeat(with_reducible first|refine oA ?_|refine And.intro (by first|exact G4|exact⟨hs1.le (by omega),hkr⟩|exact⟨hs3.le (by omega),by simp⟩) ?_)
   refine hK8 _ ?_;refine A2 ?_;simp only[hres,go_sem]
   first
    | exact oG
    | refine ⟨oG, ?_⟩
      simp only[A4P,bnd,hr1,hr2,hr3];first|simp only[k0,k1,k2,k3,hr4]|simp only[k0,k1,k2,k3]|simp only[k0,k1,k2,hr4]|simp only[k0,k1,hr4]|simp only[k0,hr4]
      try((repeat' refine And.intro ?_ ?_)<;>first|rfl|trivial|(congr 1;done))
  intro c1;have k1:=decide_eq_false c1
  refine oS fun _ hK9=>?_;refine oW G8 ?_;simp only[go_sem];repeat(with_reducible first|refine oA ?_|refine And.intro (by first|exact G4|exact⟨hs1.le (by omega),hkr⟩|exact⟨hs3.le (by omega),by simp⟩) ?_)
  refine hK9 _ ?_;refine oC rfl ?_ ?_
  ·
   intro c2;have k2:=decide_eq_true c2
   rcases hr4:I9 [0,1,16,17] (u3,p3,q3) with⟨v4,u4,p4,q4⟩
   obtain⟨hs4,hm4⟩:=P1 hs3 (by omega) (by simp) hr4
   refine oW G8 ?_;simp (maxSteps:=2000000)only[hr4,go_sem];repeat(with_reducible first|refine oA ?_|refine And.intro (by first|exact G4|exact⟨hs1.le (by omega),hkr⟩|exact⟨hs3.le (by omega),by simp⟩) ?_)
   refine hK3 _ ?_;refine oS fun _ hK10=>?_;refine oW G8 ?_;simp only[go_sem];repeat(with_reducible first|refine oA ?_|refine And.intro (by first|exact G4|exact⟨hs1.le (by omega),hkr⟩|exact⟨hs3.le (by omega),by simp⟩) ?_)
   refine hK10 _ ?_;refine A2 ?_;simp only[hres,go_sem]
   first
    | exact oG
    | refine ⟨oG, ?_⟩
      simp only[A4P,bnd,hr1,hr2,hr3];first|simp only[k0,k1,k2,k3,hr4]|simp only[k0,k1,k2,k3]|simp only[k0,k1,k2,hr4]|simp only[k0,k1,hr4]|simp only[k0,hr4]
      try((repeat' refine And.intro ?_ ?_)<;>first|rfl|trivial|(congr 1;done))
  intro c2;have k2:=decide_eq_false c2
  refine oS fun _ hK11=>?_;refine oW G8 ?_;simp only[go_sem];repeat(with_reducible first|refine oA ?_|refine And.intro (by first|exact G4|exact⟨hs1.le (by omega),hkr⟩|exact⟨hs3.le (by omega),by simp⟩) ?_)
  refine hK11 _ ?_;refine oC rfl ?_ ?_
  ·
   intro c3;have k3:=decide_eq_true c3
   rcases hr4:I9 [0,23,24,-1] (u3,p3,q3) with⟨v4,u4,p4,q4⟩
   obtain⟨hs4,hm4⟩:=P1 hs3 (by omega) (by simp) hr4
   refine oR G8
     [[],[0],[],[],[2,3],[2,3,4],[0,1,2,3,4,5],[0,1,2,3,4,5,6],[0,1,2,3,4,5,6,7]]
     [[30,692,708,709,710,711,712,713,714,715,716,717,718,719,720,721,722,723,724],[30,692,708,709,710,711,712,713,714,715,716,717,718,719,720,721,722,723,724],[692],[],[],[],[],[],[]]
     [[],[],[],[692],[30,708,709,710,711,712,713,714,715,716,717,718,719,720,721,722,723],[30,692,708,709,710,711,712,713,714,715,716,717,718,719,720,721,722,723,724],[],[],[]] (by kernel_rfl) (by kernel_rfl) (B7 (acc:=[]) ?_)
   simp (maxSteps:=2000000)only[hr4,go_sem];repeat(with_reducible first|refine oD ?_|refine And.intro (by first|exact G4|exact⟨hs1.le (by omega),hkr⟩|exact⟨hs3.le (by omega),by simp⟩) ?_)
   refine hK3 _ ?_;refine oS fun _ hK12=>?_;refine oW G8 ?_;simp only[go_sem];repeat(with_reducible first|refine oA ?_|refine And.intro (by first|exact G4|exact⟨hs1.le (by omega),hkr⟩|exact⟨hs3.le (by omega),by simp⟩) ?_)
   refine hK12 _ ?_;refine A2 ?_;simp only[hres,go_sem]
   first
    | exact oG
    | refine ⟨oG, ?_⟩
      simp only[A4P,bnd,hr1,hr2,hr3];first|simp only[k0,k1,k2,k3,hr4]|simp only[k0,k1,k2,k3]|simp only[k0,k1,k2,hr4]|simp only[k0,k1,hr4]|simp only[k0,hr4]
      try((repeat' refine And.intro ?_ ?_)<;>first|rfl|trivial|(congr 1;done))
  intro c3;have k3:=decide_eq_false c3
  refine A3 ?_;simp only[go_sem];refine hK3 _ ?_;refine oS fun _ hK13=>?_;refine oW G8 ?_;simp only[go_sem];repeat(with_reducible first|refine oA ?_|refine And.intro (by first|exact G4|exact⟨hs1.le (by omega),hkr⟩|exact⟨hs3.le (by omega),by simp⟩) ?_)
  refine hK13 _ ?_;refine A2 ?_;simp only[hres,go_sem]
  first
   | exact oG
   | refine ⟨oG, ?_⟩
     simp only[A4P,bnd,hr1,hr2,hr3];first|simp only[k0,k1,k2,k3,hr4]|simp only[k0,k1,k2,k3]|simp only[k0,k1,k2,hr4]|simp only[k0,k1,hr4]|simp only[k0,hr4]
     try((repeat' refine And.intro ?_ ?_)<;>first|rfl|trivial|(congr 1;done))
def A5f:F8:=fun f=>if f=52 then some (.g A0A) else A5o f
theorem J0:B8 Tryz.prog A5f:=a8 B5D (B6 Tryz.func52 rfl (by decide)) G8
attribute [go_sem] A5f A0A
def Q3:GCon where
  ps:=[.po 0]
  os:=[.box [.rd ((.row 5 (.int .u8))),.rd (.int .i64),.rd (.int .u64)]]
  c:=fun x=>srcOk 102 (x.2.1.1,x.2.1.2.1,x.2.1.2.2.1)
  r:=fun x=>.c (.ow 10)
  o:=fun x=>[(30,.box [.rd [] 5 (.int .u8) ((B12 (x.2.1.1,x.2.1.2.1,x.2.1.2.2.1)).2.1),.sc (.int .i64 ((B12 (x.2.1.1,x.2.1.2.1,x.2.1.2.2.1)).2.2.1)),.sc (.int .u64 ((B12 (x.2.1.1,x.2.1.2.1,x.2.1.2.2.1)).2.2.2))]),(10,.tree 26 (.row 2 (.int .i64)) ((B12 (x.2.1.1,x.2.1.2.1,x.2.1.2.2.1)).1) none)]
  ok:=by
    rintro⟨⟨_,_⟩,⟨⟨(cd:List Int),(pt:Int),(sd:Int),_⟩,_⟩⟩
    exact⟨rfl,rfl,by decide⟩
theorem A62:W3 Tryz.prog 74 Q3:=by
  refine D8 Tryz.func74 rfl ?_
  have hres:Tryz.f74.results.toList=[.tmp 2]:=rfl
  rintro⟨⟨_,_⟩,⟨⟨(cd:List Int),(pt:Int),(sd:Int),_⟩,_⟩⟩ hc hL hO
  simp only[Q3,go_sem] at hL
  simp only[Q3,go_sem] at hO
  simp only[Q3,St.init,St.initG,Tryz.ntmps74,go_sem] 
  have hs0:srcOk 102 (cd,pt,sd):=hc
  rcases hr1:F6 2 (cd,pt,sd) with⟨v1,u1,p1,q1⟩
  obtain⟨hs1,hv1,hb1,hz1⟩:=L4 hs0 (by omega) hr1
  have hs1:srcOk _ (u1,p1,q1):=hs1
  have hb1:=hb1 (by omega)
  have hw:IntKind.i64.wrap (1+v1)=1+v1:=G9 (by omega)
  refine oS fun _ hK1=>?_;refine oW J0 ?_;simp only[go_sem];repeat(with_reducible first|refine oA ?_|refine And.intro (by first|exact G4|exact⟨hs3.le (by omega),by simp⟩) ?_)
  refine hK1 _ ?_;refine oS fun _ hK2=>?_;refine oW J0 ?_;simp only[List.nodup_cons,List.nodup_nil,List.not_mem_nil,not_false_eq_true,go_sem];repeat(with_reducible first|refine oA ?_|refine And.intro (by first|exact G4|exact⟨hs3.le (by omega),by simp⟩) ?_)
  refine hK2 _ ?_;refine oS fun _ hK3=>?_;refine oS fun _ hK4=>?_;refine oW J0 ?_;simp only[hr1,hw,go_sem];repeat(with_reducible first|refine oA ?_|refine And.intro (by first|exact G4|exact⟨hs3.le (by omega),by simp⟩) ?_)
  refine hK4 _ ?_;refine A5 ?_;refine B4 (ι:={ k:Nat // k≤(1+v1).toNat }) (fun k=>⟨[.c (.po 30 0),zz,zz,.c (.ow 9001),.c (.sc (.int .i64 (1+v1 - (k.1:Int)))),zz,zz,zz,zz,zz,zz,zz,zz,zz,zz,zz,zz,zz,zz,zz,zz,zz,zz,zz,zz,zz,zz,zz,zz,zz,zz,zz,zz],[(30,.box [.rd [] 5 (.int .u8) ((X8 A7B k.1 [] (u1,p1,q1)).2.1),.sc (.int .i64 ((X8 A7B k.1 [] (u1,p1,q1)).2.2.1)),.sc (.int .u64 ((X8 A7B k.1 [] (u1,p1,q1)).2.2.2))]),(9001,.tree 26 (.row 2 (.int .i64)) ((X8 A7B k.1 [] (u1,p1,q1)).1) none)]⟩) (fun k=>(1+v1).toNat - k.1) ⟨0,by omega⟩ ?_ ?_
  ·
   refine oK ?_;simp (maxSteps:=2000000)only[go_sem];all_goals((repeat' refine And.intro ?_ ?_)<;>first|rfl|omega|(simp;done)|(congr 1;done))
  rintro⟨k,hk⟩ K5 hL5
  rcases hit:X8 A7B k [] (u1,p1,q1) with⟨v3,u3,p3,q3⟩
  have hs3:=(Cost.it A9q k []).at hs1 (by omega) hit
  have hlk:v3.length=k:=by have:=B4K (k:=k) (s:=(u1,p1,q1)) (ts:=[]);rw[hit] at this;simpa using this
  refine oS fun _ hK6=>?_;refine oS fun _ hK7=>?_;refine oW J0 ?_;simp only[hit,go_sem];repeat(with_reducible first|refine oA ?_|refine And.intro (by first|exact G4|exact⟨hs3.le (by omega),by simp⟩) ?_)
  refine hK7 _ ?_;refine oC rfl ?_ ?_
  ·
   intro c0;refine A3 ?_;simp only[go_sem];refine hK6 _ ?_;refine oS fun _ hK8=>?_;refine A5 ?_;refine oS fun _ hK9=>?_;refine oW J0 ?_;simp only[go_sem];repeat(with_reducible first|refine oA ?_|refine And.intro (by first|exact G4|exact⟨hs3.le (by omega),by simp⟩) ?_)
   refine hK9 _ ?_;refine oS fun _ hK10=>?_;refine oS fun _ hK11=>?_;rcases hr4:I9 [2,4,8,4] (u3,p3,q3) with⟨v4,u4,p4,q4⟩
   obtain⟨hs4,hm4⟩:=P1 hs3 (by omega) (by simp) hr4
   have hv4:2≤v4∧v4≤8:=by simp at hm4;omega
   refine oW J0 ?_;simp only[hr4,go_sem];repeat(with_reducible first|refine oA ?_|refine And.intro (by first|exact G4|exact⟨hs3.le (by omega),by simp⟩) ?_)
   refine hK11 _ ?_;refine A5 ?_;refine B4 (ι:={ m:Nat // m≤v4.toNat }) (fun k'=>⟨[.c (.po 30 0),zz,zz,.c (.ow 9001),.c (.sc (.int .i64 (1+v1 - (k:Int)))),.c (.ow 9002),.c (.sc (.int .i64 (v4 - (k'.1:Int)))),zz,zz,zz,zz,zz,zz,zz,zz,zz,zz,zz,zz,zz,zz,zz,zz,zz,zz,zz,zz,zz,zz,zz,zz,zz,zz],[(30,.box [.rd [] 5 (.int .u8) ((X8 (M6 A1h) k'.1 [] (u4,p4,q4)).2.1),.sc (.int .i64 ((X8 (M6 A1h) k'.1 [] (u4,p4,q4)).2.2.1)),.sc (.int .u64 ((X8 (M6 A1h) k'.1 [] (u4,p4,q4)).2.2.2))]),(9001,.tree 26 (.row 2 (.int .i64)) (v3) none),(9002,.row 2 (.int .i64) ((X8 (M6 A1h) k'.1 [] (u4,p4,q4)).1) [])]⟩) (fun k'=>v4.toNat - k'.1) ⟨0,by omega⟩ ?_ ?_
   ·
    refine oK ?_;simp (maxSteps:=2000000)only[go_sem];all_goals((repeat' refine And.intro ?_ ?_)<;>first|rfl|omega|(simp;done)|(congr 1;done))
   rintro⟨m,hm⟩ K12 hL12
   rcases hiu:X8 (M6 A1h) m [] (u4,p4,q4) with⟨v5,u5,p5,q5⟩
   have hs5:=(Cost.it (W4 A1P) m []).at hs4 (by omega) hiu
   have hlm:v5.length=m:=by have:=A0x (m:=A1h) (k:=m) (s:=(u4,p4,q4)) (xs:=[]);rw[hiu] at this;simpa using this
   refine oS fun _ hK13=>?_;refine oS fun _ hK14=>?_;refine oW J0 ?_;simp only[hiu,go_sem];repeat(with_reducible first|refine oA ?_|refine And.intro (by first|exact G4|exact⟨hs3.le (by omega),by simp⟩) ?_)
   refine hK14 _ ?_;refine oC rfl ?_ ?_
   ·
    intro c1;refine A3 ?_;simp only[go_sem];refine hK13 _ ?_;refine oS fun _ hK15=>?_;refine A5 ?_;rcases hr6:A1h (u5,p5,q5) with⟨v6,u6,p6,q6⟩
    have hs6:=(A1P).at hs5 (by omega) hr6
    have hnu:(X8 (M6 A1h) (m+1) [] (u4,p4,q4))=(v5++[v6],u6,p6,q6):=(A0V hiu).trans (M5 hr6)
    refine oW J0 ?_;simp (maxSteps:=2000000)only[hr6,go_sem];repeat(with_reducible first|refine oA ?_|refine And.intro (by first|exact G4|exact⟨hs3.le (by omega),by simp⟩) ?_)
    refine hK15 _ ?_;refine oW J0 ?_;simp only[go_sem];repeat(with_reducible first|refine oA ?_|refine And.intro (by first|exact G4|exact⟨hs3.le (by omega),by simp⟩) ?_)
    refine hL12 ⟨m+1,by omega⟩ _ (oK ?_) ?_
    ·
     simp (maxSteps:=2000000)only[go_sem];all_goals(try simp only[hnu])
     all_goals((repeat' refine And.intro ?_ ?_)<;>first|rfl|(rw[G9 (by omega)];omega)|(congr 1;done))
    ·
     first|(simp only[];omega)|omega|(simp;omega)
   intro c1;refine C2 ?_;simp only[go_sem];refine hK10 _ ?_;obtain rfl:m=v4.toNat:=by omega
   have hnx:(X8 A7B (k+1) [] (u1,p1,q1))=(v3++[v5],u5,p5,q5):=(A0V hit).trans (by simp only[A7B,C3l,bnd,hr4,hiu])
   refine oW J0 ?_;simp (maxSteps:=2000000)only[List.nodup_cons,List.nodup_nil,List.not_mem_nil,not_false_eq_true,go_sem];repeat(with_reducible first|refine oA ?_|refine And.intro (by first|exact G4|exact⟨hs3.le (by omega),by simp⟩) ?_)
   refine hK8 _ ?_;refine oW J0 ?_;simp only[go_sem];repeat(with_reducible first|refine oA ?_|refine And.intro (by first|exact G4|exact⟨hs3.le (by omega),by simp⟩) ?_)
   refine hL5 ⟨k+1,by omega⟩ _ (oK ?_) ?_
   ·
    simp (maxSteps:=2000000)only[go_sem];all_goals(try simp only[hnx])
    all_goals((repeat' refine And.intro ?_ ?_)<;>first|rfl|(rw[G9 (by omega)];omega)|(congr 1;done))
   ·
    first|(simp only[];omega)|omega|(simp;omega)
  intro c0;obtain rfl:k=(1+v1).toNat:=by omega
  refine C2 ?_;simp only[go_sem];refine hK3 _ ?_;refine oS fun _ hK16=>?_;refine oW J0 ?_;simp only[go_sem];repeat(with_reducible first|refine oA ?_|refine And.intro (by first|exact G4|exact⟨hs3.le (by omega),by simp⟩) ?_)
  refine hK16 _ ?_;refine A2 ?_;simp only[hres,go_sem]
  first
   | exact oG
   | refine ⟨oG, ?_⟩
     simp only[B12,bnd,hr1,hit];try((repeat' refine And.intro ?_ ?_)<;>first|rfl|trivial|(congr 1;done))
def x3:F8:=fun f=>if f=74 then some (.g Q3) else A5f f
theorem P3:B8 Tryz.prog x3:=a8 A62 (B6 Tryz.func74 rfl (by decide)) J0
attribute [go_sem] x3 Q3
def A0R:Con:=⟨[.val (.bool)],[⟨(.row 2 (.int .i64)),true⟩],fun _=>True,fun x=>x7 x.1⟩
theorem B4L:D4 Tryz.prog 75 A0R:=by
  refine A7 Tryz.func75 rfl ?_
  have hres:Tryz.f75.results.toList=[.tmp 2]:=rfl
  rintro⟨(li:Bool),_⟩ hc hL
  simp only[A0R,go_sem] at hL
  simp only[A0R,St.init,St.initG,Tryz.ntmps75,go_sem] 
  refine oS fun _ hK1=>?_;refine oW P3 ?_;simp only[go_sem];refine hK1 _ ?_;refine oS fun _ hK2=>?_;refine oS fun _ hK3=>?_;refine oW P3 ?_;simp only[go_sem];refine hK3 _ ?_;refine oC rfl ?_ ?_
  ·
   intro c0;refine oS fun _ hK4=>?_;refine oW P3 ?_;simp only[go_sem];repeat(with_reducible refine oA ?_)
   refine hK4 _ ?_;refine A2 ?_;simp only[hres,go_sem];first|exact oF|(refine⟨?_,oF⟩;subst c0;rfl)
  intro c0;refine A3 ?_;simp only[go_sem];refine hK2 _ ?_;refine oS fun _ hK5=>?_;refine oW P3 ?_;simp only[go_sem];repeat(with_reducible refine oA ?_)
  refine hK5 _ ?_;refine A2 ?_;simp only[hres,go_sem];first|exact oF|(refine⟨?_,oF⟩;subst c0;rfl)
def A4W:F8:=fun f=>if f=75 then some (.p A0R) else x3 f
theorem C6:B8 Tryz.prog A4W:=F9 B4L (B6 Tryz.func75 rfl (by decide)) P3
attribute [go_sem] A4W A0R
end Go.Proofs.YtflobmmbhaofbaaGreat
