/-
  Texts of this claim, joined (part 10). No condition beyond those of the theorems.
-/
import Derived.Test.YtgaogcnfijbahaaGreatQ08
import Derived.Test.YtgaogcnfijbahaaGreatQ09
namespace Go.Proofs.YtgaogcnfijbahaaGreat
open Go.RowKit
set_option linter.unusedSimpArgs false
set_option linter.unusedVariables false
set_option maxRecDepth 100000
set_option maxHeartbeats 4000000
def B3M:E4:=fun f=>match A76 f with
 | some k=>some k
 | none=>A56 f
theorem J6:B4 Tryz.prog B3M:=N2 B2H G9
attribute [go_sem] B3M T0
def r5:GCon where
  ps:=[.po 0,.val (.int .i64),.val (.int .i64)]
  os:=[.box [.rd ((.row 5 (.int .u8))),.rd (.int .i64),.rd (.int .u64)]]
  c:=fun x=>srcOk 6 (x.2.1.1,x.2.1.2.1,x.2.1.2.2.1)
  r:=fun x=>.c (.sc (.int .i64 (((A1M x.1.2.1 x.1.2.2.1) (x.2.1.1,x.2.1.2.1,x.2.1.2.2.1)).1)))
  o:=fun x=>[(30,.box [.rd [] 5 (.int .u8) (((A1M x.1.2.1 x.1.2.2.1) (x.2.1.1,x.2.1.2.1,x.2.1.2.2.1)).2.1),.sc (.int .i64 (((A1M x.1.2.1 x.1.2.2.1) (x.2.1.1,x.2.1.2.1,x.2.1.2.2.1)).2.2.1)),.sc (.int .u64 (((A1M x.1.2.1 x.1.2.2.1) (x.2.1.1,x.2.1.2.1,x.2.1.2.2.1)).2.2.2))])]
  ok:=by
    rintro⟨⟨_,(kd:Int),(tb:Int),_⟩,⟨⟨(cd:List Int),(pt:Int),(sd:Int),_⟩,_⟩⟩
    exact⟨rfl,rfl,by decide⟩
theorem B4l:Z2 Tryz.prog 141 r5:=by
  refine E1 Tryz.func141 rfl ?_
  have hres:Tryz.f141.results.toList=[.tmp 6]:=rfl
  rintro⟨⟨_,(kd:Int),(tb:Int),_⟩,⟨⟨(cd:List Int),(pt:Int),(sd:Int),_⟩,_⟩⟩ hc hL hO
  simp only[r5,go_sem] at hL
  simp only[r5,go_sem] at hO
  simp only[r5,St.init,St.initG,Tryz.ntmps141,go_sem] 
  have hs0:srcOk 6 (cd,pt,sd):=hc
  refine oS fun _ hK1=>?_;refine oW J6 ?_;simp only[go_sem];repeat(with_reducible first|refine oA ?_|refine And.intro (by first|exact H2|exact⟨hs0.le (by omega),by simp⟩) ?_)
  refine hK1 _ ?_;refine oS fun _ hK2=>?_;refine oS fun _ hK3=>?_;refine oW J6 ?_;simp only[go_sem];repeat(with_reducible first|refine oA ?_|refine And.intro (by first|exact H2|exact⟨hs0.le (by omega),by simp⟩) ?_)
  refine hK3 _ ?_;refine A1 ?_;refine oS fun _ hK4=>?_;refine oW J6 ?_;simp only[go_sem];repeat(with_reducible first|refine oA ?_|refine And.intro (by first|exact H2|exact⟨hs0.le (by omega),by simp⟩) ?_)
  refine hK4 _ ?_;refine oC rfl ?_ ?_
  ·
   intro c0;have k0:=decide_eq_true c0
   refine oS fun _ hK5=>?_;rcases hr1:E5 2 (cd,pt,sd) with⟨v1,u1,p1,q1⟩
   obtain⟨hs1,hv1,hb1,hz1⟩:=I2 hs0 (by omega) hr1
   have hs1:srcOk _ (u1,p1,q1):=hs1
   refine oW J6 ?_;simp only[hr1,go_sem];repeat(with_reducible first|refine oA ?_|refine And.intro (by first|exact H2|exact⟨hs0.le (by omega),by simp⟩) ?_)
   refine hK5 _ ?_;refine A0 ?_;simp only[hres,go_sem]
   first
    | exact oG
    | refine ⟨oG, ?_⟩
      simp only[A1M,k0,hr1];try((repeat' refine And.intro ?_ ?_)<;>first|rfl|trivial|(congr 1;done))
  intro c0;have k0:=decide_eq_false c0
  refine oS fun _ hK6=>?_;refine oW J6 ?_;simp only[go_sem];repeat(with_reducible first|refine oA ?_|refine And.intro (by first|exact H2|exact⟨hs0.le (by omega),by simp⟩) ?_)
  refine hK6 _ ?_;refine oC rfl ?_ ?_
  ·
   intro c1;have k1:=decide_eq_true c1
   refine oS fun _ hK7=>?_;rcases hr1:E5 4 (cd,pt,sd) with⟨v1,u1,p1,q1⟩
   obtain⟨hs1,hv1,hb1,hz1⟩:=I2 hs0 (by omega) hr1
   have hs1:srcOk _ (u1,p1,q1):=hs1
   have hb1:=hb1 (by omega)
   have hw:IntKind.i64.wrap (1+v1)=1+v1:=F3 (by omega)
   refine oW J6 ?_;simp only[hr1,hw,go_sem];repeat(with_reducible first|refine oA ?_|refine And.intro (by first|exact H2|exact⟨hs0.le (by omega),by simp⟩) ?_)
   refine hK7 _ ?_;refine A0 ?_;simp only[hres,go_sem]
   first
    | exact oG
    | refine ⟨oG, ?_⟩
      simp only[A1M,bnd,k0,k1,hr1];try((repeat' refine And.intro ?_ ?_)<;>first|rfl|trivial|(congr 1;done))
  intro c1;have k1:=decide_eq_false c1
  refine oS fun _ hK8=>?_;refine oW J6 ?_;simp only[go_sem];repeat(with_reducible first|refine oA ?_|refine And.intro (by first|exact H2|exact⟨hs0.le (by omega),by simp⟩) ?_)
  refine hK8 _ ?_;refine oC rfl ?_ ?_
  ·
   intro c2;have k2:=decide_eq_true c2
   refine oS fun _ hK9=>?_;rcases hr1:J0 [1,2,0,16,31] (cd,pt,sd) with⟨v1,u1,p1,q1⟩
   obtain⟨hs1,hm1⟩:=O0 hs0 (by omega) (by simp) hr1
   refine oW J6 ?_;simp only[hr1,go_sem];repeat(with_reducible first|refine oA ?_|refine And.intro (by first|exact H2|exact⟨hs0.le (by omega),by simp⟩) ?_)
   refine hK9 _ ?_;refine A0 ?_;simp only[hres,go_sem]
   first
    | exact oG
    | refine ⟨oG, ?_⟩
      simp only[A1M,k0,k1,k2,hr1];try((repeat' refine And.intro ?_ ?_)<;>first|rfl|trivial|(congr 1;done))
  intro c2;have k2:=decide_eq_false c2
  refine oS fun _ hK10=>?_;refine oW J6 ?_;simp only[go_sem];repeat(with_reducible first|refine oA ?_|refine And.intro (by first|exact H2|exact⟨hs0.le (by omega),by simp⟩) ?_)
  refine hK10 _ ?_;refine oC rfl ?_ ?_
  ·
   intro c3;have k3:=decide_eq_true c3
   refine oS fun _ hK11=>?_;rcases hr1:J0 [10,0,100,2147483647] (cd,pt,sd) with⟨v1,u1,p1,q1⟩
   obtain⟨hs1,hm1⟩:=O0 hs0 (by omega) (by simp) hr1
   refine oW J6 ?_;simp only[hr1,go_sem];repeat(with_reducible first|refine oA ?_|refine And.intro (by first|exact H2|exact⟨hs0.le (by omega),by simp⟩) ?_)
   refine hK11 _ ?_;refine A0 ?_;simp only[hres,go_sem]
   first
    | exact oG
    | refine ⟨oG, ?_⟩
      simp only[A1M,k0,k1,k2,k3,hr1];try((repeat' refine And.intro ?_ ?_)<;>first|rfl|trivial|(congr 1;done))
  intro c3;have k3:=decide_eq_false c3
  refine oS fun _ hK12=>?_;refine oW J6 ?_;simp only[go_sem];repeat(with_reducible first|refine oA ?_|refine And.intro (by first|exact H2|exact⟨hs0.le (by omega),by simp⟩) ?_)
  refine hK12 _ ?_;refine oC rfl ?_ ?_
  ·
   intro c4;have k4:=decide_eq_true c4
   refine oS fun _ hK13=>?_;rcases hr1:E5 tb (cd,pt,sd) with⟨v1,u1,p1,q1⟩
   obtain⟨hs1,hv1,hb1,hz1⟩:=I2 hs0 (by omega) hr1
   have hs1:srcOk _ (u1,p1,q1):=hs1
   refine oW J6 ?_;simp only[hr1,go_sem];repeat(with_reducible first|refine oA ?_|refine And.intro (by first|exact H2|exact⟨hs0.le (by omega),by simp⟩) ?_)
   refine hK13 _ ?_;refine A0 ?_;simp only[hres,go_sem]
   first
    | exact oG
    | refine ⟨oG, ?_⟩
      simp only[A1M,k0,k1,k2,k3,k4,hr1];try((repeat' refine And.intro ?_ ?_)<;>first|rfl|trivial|(congr 1;done))
  intro c4;have k4:=decide_eq_false c4
  refine A2 ?_;simp only[go_sem];refine hK2 _ ?_;refine oS fun _ hK14=>?_;refine oS fun _ hK15=>?_;refine oW J6 ?_;simp only[go_sem];repeat(with_reducible first|refine oA ?_|refine And.intro (by first|exact H2|exact⟨hs0.le (by omega),by simp⟩) ?_)
  refine hK15 _ ?_;refine oC rfl ?_ ?_
  ·
   intro c5;refine oS fun _ hK16=>?_;rcases hr1:Y9 (cd,pt,sd) with⟨v1,u1,p1,q1⟩
   have hs1:=(Y3).at hs0 (by omega) hr1
   refine oW J6 ?_;simp only[hr1,go_sem];repeat(with_reducible first|refine oA ?_|refine And.intro (by first|exact H2|exact⟨hs0.le (by omega),by simp⟩) ?_)
   refine hK16 _ ?_;refine A0 ?_;simp only[hres,go_sem]
   first
    | exact oG
    | refine ⟨oG, ?_⟩
      simp only[A1M,k0,k1,k2,k3,k4,c5,hr1];try((repeat' refine And.intro ?_ ?_)<;>first|rfl|trivial|(congr 1;done))
  intro c5;refine A2 ?_;simp only[go_sem];refine hK14 _ ?_;refine oS fun _ hK17=>?_;refine oW J6 ?_;simp only[go_sem];repeat(with_reducible first|refine oA ?_|refine And.intro (by first|exact H2|exact⟨hs0.le (by omega),by simp⟩) ?_)
  refine hK17 _ ?_;refine A0 ?_;simp only[hres,go_sem]
  first
   | exact oG
   | refine ⟨oG, ?_⟩
     simp only[A1M,k0,k1,k2,k3,k4,c5];try((repeat' refine And.intro ?_ ?_)<;>first|rfl|trivial|(congr 1;done))
def A5R:E4:=fun f=>if f=141 then some (.g r5) else B3M f
theorem L1:B4 Tryz.prog A5R:=m8 B4l (B0 Tryz.func141 rfl (by decide)) J6
attribute [go_sem] A5R r5
def A0V:GCon where
  ps:=[.po 0,.val (.int .i64),.val (.int .i64),.val (.int .i64)]
  os:=[.box [.rd ((.row 5 (.int .u8))),.rd (.int .i64),.rd (.int .u64)]]
  c:=fun x=>srcOk 20 (x.2.1.1,x.2.1.2.1,x.2.1.2.2.1)∧J3 x.1.2.1 0 17=true
  r:=fun x=>.agg [.sc (.int .i64 (z6 x.1.2.1 x.1.2.2.1 x.1.2.2.2.1 (x.2.1.1,x.2.1.2.1,x.2.1.2.2.1)).1.1),.sc (.int .i64 (z6 x.1.2.1 x.1.2.2.1 x.1.2.2.2.1 (x.2.1.1,x.2.1.2.1,x.2.1.2.2.1)).1.2.1),.sc (.int .i64 (z6 x.1.2.1 x.1.2.2.1 x.1.2.2.2.1 (x.2.1.1,x.2.1.2.1,x.2.1.2.2.1)).1.2.2.1),.ow 10]
  o:=fun x=>[(30,.box [.rd [] 5 (.int .u8) ((z6 x.1.2.1 x.1.2.2.1 x.1.2.2.2.1 (x.2.1.1,x.2.1.2.1,x.2.1.2.2.1)).2.1),.sc (.int .i64 ((z6 x.1.2.1 x.1.2.2.1 x.1.2.2.2.1 (x.2.1.1,x.2.1.2.1,x.2.1.2.2.1)).2.2.1)),.sc (.int .u64 ((z6 x.1.2.1 x.1.2.2.1 x.1.2.2.2.1 (x.2.1.1,x.2.1.2.1,x.2.1.2.2.1)).2.2.2))]),(10,.row 2 (.int .i64) ((z6 x.1.2.1 x.1.2.2.1 x.1.2.2.2.1 (x.2.1.1,x.2.1.2.1,x.2.1.2.2.1)).1.2.2.2) [])]
  ok:=by
    rintro⟨⟨_,(kd:Int),(tb:Int),(bl:Int),_⟩,⟨⟨(cd:List Int),(pt:Int),(sd:Int),_⟩,_⟩⟩
    exact⟨rfl,rfl,by decide⟩
theorem B6W:Z2 Tryz.prog 115 A0V:=by
  refine E1 Tryz.func115 rfl ?_
  have hres:Tryz.f115.results.toList=[.cell 8 95]:=rfl
  rintro⟨⟨_,(kd:Int),(tb:Int),(bl:Int),_⟩,⟨⟨(cd:List Int),(pt:Int),(sd:Int),_⟩,_⟩⟩ hc hL hO
  simp only[A0V,go_sem] at hL
  simp only[A0V,go_sem] at hO
  simp only[A0V,St.init,St.initG,Tryz.ntmps115,go_sem] 
  obtain⟨hs0,hkr⟩:=(show srcOk 20 (cd,pt,sd)∧J3 kd 0 17=true from hc)
  obtain⟨har1,har2⟩:=A9N kd.toNat
  rcases hr1:A1M kd tb (cd,pt,sd) with⟨v1,u1,p1,q1⟩
  have hs1:=(B0E kd tb).at hs0 (by omega) hr1
  refine oS fun _ hK1=>?_;refine oW L1 ?_;simp only[go_sem];repeat(with_reducible first|refine oA ?_|refine And.intro (by first|exact H2|exact hkr) ?_)
  refine hK1 _ ?_;refine oS fun _ hK2=>?_;refine oW L1 ?_;simp (maxSteps:=2000000)only[List.nodup_cons,List.nodup_nil,List.not_mem_nil,not_false_eq_true,hr1,go_sem];repeat(with_reducible first|refine oA ?_|refine And.intro (by first|exact H2|exact hkr) ?_)
  refine hK2 _ ?_;refine oS fun _ hK3=>?_;refine oS fun _ hK4=>?_;refine oW L1 ?_;simp only[go_sem];repeat(with_reducible first|refine oA ?_|refine And.intro (by first|exact H2|exact hkr) ?_)
  refine hK4 _ ?_;refine A1 ?_;refine A7 (ι:={ k:Nat // k≤(arL.getD kd.toNat 0).toNat }) (fun k=>⟨[.c (.po 30 0),.c (.sc (.int .i64 (kd))),zz,.c (.sc (.int .i64 (bl))),zz,zz,zz,zz,.c (.po 228 0),.c (.po 244 0),.c (.sc (.int .i64 ((arL.getD kd.toNat 0) - (k.1:Int)))),zz,zz,zz,zz,zz,zz,zz,zz,zz,zz,zz,zz,zz,zz,zz,zz,zz,zz,zz,zz,zz,zz,zz,zz,zz,zz,zz,zz],[(30,.box [.rd [] 5 (.int .u8) ((R7 (I8 (E5 bl)) k.1 [] (u1,p1,q1)).2.1),.sc (.int .i64 ((R7 (I8 (E5 bl)) k.1 [] (u1,p1,q1)).2.2.1)),.sc (.int .u64 ((R7 (I8 (E5 bl)) k.1 [] (u1,p1,q1)).2.2.2))]),(228,.box [.sc (.int .i64 (0)),.sc (.int .i64 (0)),.sc (.int .i64 (0)),.sc (.slice none 0 0)]),(244,.box [.sc (.int .i64 (kd)),.sc (.int .i64 (v1)),.sc (.int .i64 (0)),.ow 9001]),(9001,.row 2 (.int .i64) ((R7 (I8 (E5 bl)) k.1 [] (u1,p1,q1)).1) [])]⟩) (fun k=>(arL.getD kd.toNat 0).toNat - k.1) ⟨0,by omega⟩ ?_ ?_
  ·
   refine oK ?_;simp (maxSteps:=2000000)only[go_sem];all_goals((repeat' refine And.intro ?_ ?_)<;>first|rfl|omega|(simp;done)|(congr 1;done))
  rintro⟨k,hk⟩ K5 hL5
  rcases hit:R7 (I8 (E5 bl)) k [] (u1,p1,q1) with⟨v3,u3,p3,q3⟩
  have hs3:=(Cost.it (Q5 (H0 bl)) k []).at hs1 (by omega) hit
  have hlk:v3.length=k:=by have:=A08 (m:=E5 bl) (k:=k) (s:=(u1,p1,q1)) (xs:=[]);rw[hit] at this;simpa using this
  refine oS fun _ hK6=>?_;refine oS fun _ hK7=>?_;refine oW L1 ?_;simp only[hit,go_sem];repeat(with_reducible first|refine oA ?_|refine And.intro (by first|exact H2|exact hkr) ?_)
  refine hK7 _ ?_;refine oC rfl ?_ ?_
  ·
   intro c0;refine A2 ?_;simp only[go_sem];refine hK6 _ ?_;refine oS fun _ hK8=>?_;refine A1 ?_;rcases hr4:E5 bl (u3,p3,q3) with⟨v4,u4,p4,q4⟩
   obtain⟨hs4,hv4,hb4,hz4⟩:=I2 hs3 (by omega) hr4
   have hs4:srcOk _ (u4,p4,q4):=hs4
   have hnx:(R7 (I8 (E5 bl)) (k+1) [] (u1,p1,q1))=(v3++[v4],u4,p4,q4):=(X8 hit).trans (L7 hr4)
   refine oR L1
     [[],[0],[],[],[2,3],[2,3,4],[0,1,2,3,4,5],[0,1,2,3,4,5,6],[0,1,2,3,4,5,6,7]]
     [[30,548,549,550,551,552,553,554,555,556,557,558,559,560,561,562,563,564],[30,548,549,550,551,552,553,554,555,556,557,558,559,560,561,562,563,564],[],[],[],[],[],[],[]]
     [[],[],[],[],[30,548,549,550,551,552,553,554,555,556,557,558,559,560,561,562,563],[30,548,549,550,551,552,553,554,555,556,557,558,559,560,561,562,563,564],[],[],[]] (by kernel_rfl) (by kernel_rfl) (A9 (acc:=[]) ?_)
   simp (maxSteps:=2000000)only[hr4,go_sem];repeat(with_reducible first|refine oD ?_|refine And.intro (by first|exact H2|exact hkr) ?_)
   refine hK8 _ ?_;refine oW L1 ?_;simp only[go_sem];repeat(with_reducible first|refine oA ?_|refine And.intro (by first|exact H2|exact hkr) ?_)
   refine hL5 ⟨k+1,by omega⟩ _ (oK ?_) ?_
   ·
    simp (maxSteps:=2000000)only[go_sem];all_goals(try simp only[hnx])
    all_goals((repeat' refine And.intro ?_ ?_)<;>first|rfl|(rw[F3 (by omega)];omega)|(congr 1;done))
   ·
    first|(simp only[];omega)|omega|(simp;omega)
  intro c0;obtain rfl:k=(arL.getD kd.toNat 0).toNat:=by omega
  refine B6 ?_;simp only[go_sem];refine hK3 _ ?_;refine oS fun _ hK9=>?_;refine oS fun _ hK10=>?_;refine oW L1 ?_;simp only[go_sem];repeat(with_reducible first|refine oA ?_|refine And.intro (by first|exact H2|exact hkr) ?_)
  refine hK10 _ ?_;refine oC rfl ?_ ?_
  ·
   intro c1;have k1:=decide_eq_true c1
   rcases hr5:E5 3 (u3,p3,q3) with⟨v5,u5,p5,q5⟩
   obtain⟨hs5,hv5,hb5,hz5⟩:=I2 hs3 (by omega) hr5
   have hs5:srcOk _ (u5,p5,q5):=hs5
   have hb5:=hb5 (by omega)
   have hw:IntKind.i64.wrap (1+v5)=1+v5:=F3 (by omega)
   refine oW L1 ?_;simp (maxSteps:=2000000)only[hr5,hw,go_sem];repeat(with_reducible first|refine oA ?_|refine And.intro (by first|exact H2|exact hkr) ?_)
   refine hK9 _ ?_;refine oS fun _ hK11=>?_;refine oW L1 ?_;simp only[go_sem];repeat(with_reducible first|refine oA ?_|refine And.intro (by first|exact H2|exact hkr) ?_)
   refine hK11 _ ?_;refine A0 ?_;simp only[hres,go_sem]
   first
    | exact oG
    | refine ⟨oG, ?_⟩
      simp only[z6,bnd,hr1,hit];first|simp only[k1,hr5]|simp only[k1]
      try((repeat' refine And.intro ?_ ?_)<;>first|rfl|trivial|(congr 1;done))
  intro c1;have k1:=decide_eq_false c1
  refine A2 ?_;simp only[go_sem];refine hK9 _ ?_;refine oS fun _ hK12=>?_;refine oW L1 ?_;simp only[go_sem];repeat(with_reducible first|refine oA ?_|refine And.intro (by first|exact H2|exact hkr) ?_)
  refine hK12 _ ?_;refine A0 ?_;simp only[hres,go_sem]
  first
   | exact oG
   | refine ⟨oG, ?_⟩
     simp only[z6,bnd,hr1,hit];first|simp only[k1,hr5]|simp only[k1]
     try((repeat' refine And.intro ?_ ?_)<;>first|rfl|trivial|(congr 1;done))
def A7q:E4:=fun f=>if f=115 then some (.g A0V) else A5R f
theorem G0:B4 Tryz.prog A7q:=m8 B6W (B0 Tryz.func115 rfl (by decide)) L1
attribute [go_sem] A7q A0V
def A0R:GCon where
  ps:=[.po 0,.val (.int .i64)]
  os:=[.box [.rd ((.row 5 (.int .u8))),.rd (.int .i64),.rd (.int .u64)]]
  c:=fun x=>srcOk 26 (x.2.1.1,x.2.1.2.1,x.2.1.2.2.1)
  r:=fun x=>.agg [.sc (.int .i64 (A5i x.1.2.1 (x.2.1.1,x.2.1.2.1,x.2.1.2.2.1)).1.1),.sc (.int .i64 (A5i x.1.2.1 (x.2.1.1,x.2.1.2.1,x.2.1.2.2.1)).1.2.1),.sc (.int .i64 (A5i x.1.2.1 (x.2.1.1,x.2.1.2.1,x.2.1.2.2.1)).1.2.2.1),.ow 10]
  o:=fun x=>[(30,.box [.rd [] 5 (.int .u8) ((A5i x.1.2.1 (x.2.1.1,x.2.1.2.1,x.2.1.2.2.1)).2.1),.sc (.int .i64 ((A5i x.1.2.1 (x.2.1.1,x.2.1.2.1,x.2.1.2.2.1)).2.2.1)),.sc (.int .u64 ((A5i x.1.2.1 (x.2.1.1,x.2.1.2.1,x.2.1.2.2.1)).2.2.2))]),(10,.row 2 (.int .i64) ((A5i x.1.2.1 (x.2.1.1,x.2.1.2.1,x.2.1.2.2.1)).1.2.2.2) [])]
  ok:=by
    rintro⟨⟨_,(tb:Int),_⟩,⟨⟨(cd:List Int),(pt:Int),(sd:Int),_⟩,_⟩⟩
    exact⟨rfl,rfl,by decide⟩
theorem B6Z:Z2 Tryz.prog 62 A0R:=by
  refine E1 Tryz.func62 rfl ?_
  have hres:Tryz.f62.results.toList=[.cell 4 95]:=rfl
  rintro⟨⟨_,(tb:Int),_⟩,⟨⟨(cd:List Int),(pt:Int),(sd:Int),_⟩,_⟩⟩ hc hL hO
  simp only[A0R,go_sem] at hL
  simp only[A0R,go_sem] at hO
  simp only[A0R,St.init,St.initG,Tryz.ntmps62,go_sem] 
  have hs0:srcOk 26 (cd,pt,sd):=hc
  rcases hr1:E5 17 (cd,pt,sd) with⟨v1,u1,p1,q1⟩
  obtain⟨hs1,hv1,hb1,hz1⟩:=I2 hs0 (by omega) hr1
  have hs1:srcOk _ (u1,p1,q1):=hs1
  have hb1:=hb1 (by omega)
  have hw:IntKind.i64.wrap (1+v1)=1+v1:=F3 (by omega)
  have hkr:J3 (1+v1) 0 17=true:=J8 (by omega) (by omega)
  rcases hr2:z6 (1+v1) tb 6 (u1,p1,q1) with⟨⟨nk,na,nb,nf⟩,u2,p2,q2⟩
  have hs2:=(A0H (1+v1) tb 6).at hs1 (by omega) hr2
  have hnl:=(A5z hr2).1
  have har:=A9N (1+v1).toNat
  have hnl2:nf.length≤3:=by simp only at hnl;omega
  refine oS fun _ hK1=>?_;refine oW G0 ?_;simp only[go_sem];repeat(with_reducible first|refine oA ?_|refine And.intro (by first|exact H2|exact⟨hs1.le (by omega),hkr⟩|exact⟨hs3.le (by omega),by simp⟩) ?_)
  refine hK1 _ ?_;refine oS fun _ hK2=>?_;refine oW G0 ?_;simp (maxSteps:=2000000)only[hr1,hw,hr2,go_sem];repeat(with_reducible first|refine oA ?_|refine And.intro (by first|exact H2|exact⟨hs1.le (by omega),hkr⟩|exact⟨hs3.le (by omega),by simp⟩) ?_)
  refine hK2 _ ?_;refine oS fun _ hK3=>?_;refine oS fun _ hK4=>?_;rcases hr3:E5 16 (u2,p2,q2) with⟨v3,u3,p3,q3⟩
  obtain⟨hs3,hv3,hb3,hz3⟩:=I2 hs2 (by omega) hr3
  have hs3:srcOk _ (u3,p3,q3):=hs3
  refine oW G0 ?_;simp only[hr3,go_sem];repeat(with_reducible first|refine oA ?_|refine And.intro (by first|exact H2|exact⟨hs1.le (by omega),hkr⟩|exact⟨hs3.le (by omega),by simp⟩) ?_)
  refine hK4 _ ?_;refine A1 ?_;refine oS fun _ hK5=>?_;refine oW G0 ?_;simp only[go_sem];repeat(with_reducible first|refine oA ?_|refine And.intro (by first|exact H2|exact⟨hs1.le (by omega),hkr⟩|exact⟨hs3.le (by omega),by simp⟩) ?_)
  refine hK5 _ ?_;refine oC rfl ?_ ?_
  ·
   intro c0;have k0:=decide_eq_true c0
   rcases hr4:J0 [0,18,-1] (u3,p3,q3) with⟨v4,u4,p4,q4⟩
   obtain⟨hs4,hm4⟩:=O0 hs3 (by omega) (by simp) hr4
   refine oW G0 ?_;simp (maxSteps:=2000000)only[hr4,go_sem];repeat(with_reducible first|refine oA ?_|refine And.intro (by first|exact H2|exact⟨hs1.le (by omega),hkr⟩|exact⟨hs3.le (by omega),by simp⟩) ?_)
   refine hK3 _ ?_;refine oS fun _ hK6=>?_;refine oW G0 ?_;simp only[go_sem];repeat(with_reducible first|refine oA ?_|refine And.intro (by first|exact H2|exact⟨hs1.le (by omega),hkr⟩|exact⟨hs3.le (by omega),by simp⟩) ?_)
   refine hK6 _ ?_;refine A0 ?_;simp only[hres,go_sem]
   first
    | exact oG
    | refine ⟨oG, ?_⟩
      simp only[A5i,bnd,hr1,hr2,hr3];first|simp only[k0,k1,k2,k3,hr4]|simp only[k0,k1,k2,k3]|simp only[k0,k1,k2,hr4]|simp only[k0,k1,hr4]|simp only[k0,hr4]
      try((repeat' refine And.intro ?_ ?_)<;>first|rfl|trivial|(congr 1;done))
  intro c0;have k0:=decide_eq_false c0
  refine oS fun _ hK7=>?_;refine oW G0 ?_;simp only[go_sem];repeat(with_reducible first|refine oA ?_|refine And.intro (by first|exact H2|exact⟨hs1.le (by omega),hkr⟩|exact⟨hs3.le (by omega),by simp⟩) ?_)
  refine hK7 _ ?_;refine oC rfl ?_ ?_
  ·
   intro c1;have k1:=decide_eq_true c1
   rcases hr4:J0 [2147483648,17,32,-1,4] (u3,p3,q3) with⟨v4,u4,p4,q4⟩
   obtain⟨hs4,hm4⟩:=O0 hs3 (by omega) (by simp) hr4
   refine oW G0 ?_;simp (maxSteps:=2000000)only[hr4,go_sem];repeat(with_reducible first|refine oA ?_|refine And.intro (by first|exact H2|exact⟨hs1.le (by omega),hkr⟩|exact⟨hs3.le (by omega),by simp⟩) ?_)
   refine hK3 _ ?_;refine oS fun _ hK8=>?_;refine oW G0 ?_;simp only[go_sem];repeat(with_reducible first|refine oA ?_|refine And.intro (by first|exact H2|exact⟨hs1.le (by omega),hkr⟩|exact⟨hs3.le (by omega),by simp⟩) ?_)
   refine hK8 _ ?_;refine A0 ?_;simp only[hres,go_sem]
   first
    | exact oG
    | refine ⟨oG, ?_⟩
      simp only[A5i,bnd,hr1,hr2,hr3];first|simp only[k0,k1,k2,k3,hr4]|simp only[k0,k1,k2,k3]|simp only[k0,k1,k2,hr4]|simp only[k0,k1,hr4]|simp only[k0,hr4]
      try((repeat' refine And.intro ?_ ?_)<;>first|rfl|trivial|(congr 1;done))
  intro c1;have k1:=decide_eq_false c1
  refine oS fun _ hK9=>?_;refine oW G0 ?_;simp only[go_sem];repeat(with_reducible first|refine oA ?_|refine And.intro (by first|exact H2|exact⟨hs1.le (by omega),hkr⟩|exact⟨hs3.le (by omega),by simp⟩) ?_)
  refine hK9 _ ?_;refine oC rfl ?_ ?_
  ·
   intro c2;have k2:=decide_eq_true c2
   rcases hr4:J0 [0,1,16,17] (u3,p3,q3) with⟨v4,u4,p4,q4⟩
   obtain⟨hs4,hm4⟩:=O0 hs3 (by omega) (by simp) hr4
   refine oW G0 ?_;simp (maxSteps:=2000000)only[hr4,go_sem];repeat(with_reducible first|refine oA ?_|refine And.intro (by first|exact H2|exact⟨hs1.le (by omega),hkr⟩|exact⟨hs3.le (by omega),by simp⟩) ?_)
   refine hK3 _ ?_;refine oS fun _ hK10=>?_;refine oW G0 ?_;simp only[go_sem];repeat(with_reducible first|refine oA ?_|refine And.intro (by first|exact H2|exact⟨hs1.le (by omega),hkr⟩|exact⟨hs3.le (by omega),by simp⟩) ?_)
   refine hK10 _ ?_;refine A0 ?_;simp only[hres,go_sem]
   first
    | exact oG
    | refine ⟨oG, ?_⟩
      simp only[A5i,bnd,hr1,hr2,hr3];first|simp only[k0,k1,k2,k3,hr4]|simp only[k0,k1,k2,k3]|simp only[k0,k1,k2,hr4]|simp only[k0,k1,hr4]|simp only[k0,hr4]
      try((repeat' refine And.intro ?_ ?_)<;>first|rfl|trivial|(congr 1;done))
  intro c2;have k2:=decide_eq_false c2
  refine oS fun _ hK11=>?_;refine oW G0 ?_;simp only[go_sem];repeat(with_reducible first|refine oA ?_|refine And.intro (by first|exact H2|exact⟨hs1.le (by omega),hkr⟩|exact⟨hs3.le (by omega),by simp⟩) ?_)
  refine hK11 _ ?_;refine oC rfl ?_ ?_
  ·
   intro c3;have k3:=decide_eq_true c3
   rcases hr4:J0 [0,23,24,-1] (u3,p3,q3) with⟨v4,u4,p4,q4⟩
   obtain⟨hs4,hm4⟩:=O0 hs3 (by omega) (by simp) hr4
   refine oR G0
     [[],[0],[],[],[2,3],[2,3,4],[0,1,2,3,4,5],[0,1,2,3,4,5,6],[0,1,2,3,4,5,6,7]]
     [[30,692,708,709,710,711,712,713,714,715,716,717,718,719,720,721,722,723,724],[30,692,708,709,710,711,712,713,714,715,716,717,718,719,720,721,722,723,724],[692],[],[],[],[],[],[]]
     [[],[],[],[692],[30,708,709,710,711,712,713,714,715,716,717,718,719,720,721,722,723],[30,692,708,709,710,711,712,713,714,715,716,717,718,719,720,721,722,723,724],[],[],[]] (by kernel_rfl) (by kernel_rfl) (A9 (acc:=[]) ?_)
   simp (maxSteps:=2000000)only[hr4,go_sem];repeat(with_reducible first|refine oD ?_|refine And.intro (by first|exact H2|exact⟨hs1.le (by omega),hkr⟩|exact⟨hs3.le (by omega),by simp⟩) ?_)
   refine hK3 _ ?_;refine oS fun _ hK12=>?_;refine oW G0 ?_;simp only[go_sem];repeat(with_reducible first|refine oA ?_|refine And.intro (by first|exact H2|exact⟨hs1.le (by omega),hkr⟩|exact⟨hs3.le (by omega),by simp⟩) ?_)
   refine hK12 _ ?_;refine A0 ?_;simp only[hres,go_sem]
   first
    | exact oG
    | refine ⟨oG, ?_⟩
      simp only[A5i,bnd,hr1,hr2,hr3];first|simp only[k0,k1,k2,k3,hr4]|simp only[k0,k1,k2,k3]|simp only[k0,k1,k2,hr4]|simp only[k0,k1,hr4]|simp only[k0,hr4]
      try((repeat' refine And.intro ?_ ?_)<;>first|rfl|trivial|(congr 1;done))
  intro c3;have k3:=decide_eq_false c3
  refine A2 ?_;simp only[go_sem];refine hK3 _ ?_;refine oS fun _ hK13=>?_;refine oW G0 ?_;simp only[go_sem];repeat(with_reducible first|refine oA ?_|refine And.intro (by first|exact H2|exact⟨hs1.le (by omega),hkr⟩|exact⟨hs3.le (by omega),by simp⟩) ?_)
  refine hK13 _ ?_;refine A0 ?_;simp only[hres,go_sem]
  first
   | exact oG
   | refine ⟨oG, ?_⟩
     simp only[A5i,bnd,hr1,hr2,hr3];first|simp only[k0,k1,k2,k3,hr4]|simp only[k0,k1,k2,k3]|simp only[k0,k1,k2,hr4]|simp only[k0,k1,hr4]|simp only[k0,hr4]
     try((repeat' refine And.intro ?_ ?_)<;>first|rfl|trivial|(congr 1;done))
def A7R:E4:=fun f=>if f=62 then some (.g A0R) else A7q f
theorem I9:B4 Tryz.prog A7R:=m8 B6Z (B0 Tryz.func62 rfl (by decide)) G0
attribute [go_sem] A7R A0R
def R9:GCon where
  ps:=[.po 0]
  os:=[.box [.rd ((.row 5 (.int .u8))),.rd (.int .i64),.rd (.int .u64)]]
  c:=fun x=>srcOk 102 (x.2.1.1,x.2.1.2.1,x.2.1.2.2.1)
  r:=fun x=>.c (.ow 10)
  o:=fun x=>[(30,.box [.rd [] 5 (.int .u8) ((B3a (x.2.1.1,x.2.1.2.1,x.2.1.2.2.1)).2.1),.sc (.int .i64 ((B3a (x.2.1.1,x.2.1.2.1,x.2.1.2.2.1)).2.2.1)),.sc (.int .u64 ((B3a (x.2.1.1,x.2.1.2.1,x.2.1.2.2.1)).2.2.2))]),(10,.tree 26 (.row 2 (.int .i64)) ((B3a (x.2.1.1,x.2.1.2.1,x.2.1.2.2.1)).1) none)]
  ok:=by
    rintro⟨⟨_,_⟩,⟨⟨(cd:List Int),(pt:Int),(sd:Int),_⟩,_⟩⟩
    exact⟨rfl,rfl,by decide⟩
theorem A7g:Z2 Tryz.prog 112 R9:=by
  refine E1 Tryz.func112 rfl ?_
  have hres:Tryz.f112.results.toList=[.tmp 2]:=rfl
  rintro⟨⟨_,_⟩,⟨⟨(cd:List Int),(pt:Int),(sd:Int),_⟩,_⟩⟩ hc hL hO
  simp only[R9,go_sem] at hL
  simp only[R9,go_sem] at hO
  simp only[R9,St.init,St.initG,Tryz.ntmps112,go_sem] 
  have hs0:srcOk 102 (cd,pt,sd):=hc
  rcases hr1:E5 2 (cd,pt,sd) with⟨v1,u1,p1,q1⟩
  obtain⟨hs1,hv1,hb1,hz1⟩:=I2 hs0 (by omega) hr1
  have hs1:srcOk _ (u1,p1,q1):=hs1
  have hb1:=hb1 (by omega)
  have hw:IntKind.i64.wrap (1+v1)=1+v1:=F3 (by omega)
  refine oS fun _ hK1=>?_;refine oW I9 ?_;simp only[go_sem];repeat(with_reducible first|refine oA ?_|refine And.intro (by first|exact H2|exact⟨hs3.le (by omega),by simp⟩) ?_)
  refine hK1 _ ?_;refine oS fun _ hK2=>?_;refine oW I9 ?_;simp only[List.nodup_cons,List.nodup_nil,List.not_mem_nil,not_false_eq_true,go_sem];repeat(with_reducible first|refine oA ?_|refine And.intro (by first|exact H2|exact⟨hs3.le (by omega),by simp⟩) ?_)
  refine hK2 _ ?_;refine oS fun _ hK3=>?_;refine oS fun _ hK4=>?_;refine oW I9 ?_;simp only[hr1,hw,go_sem];repeat(with_reducible first|refine oA ?_|refine And.intro (by first|exact H2|exact⟨hs3.le (by omega),by simp⟩) ?_)
  refine hK4 _ ?_;refine A1 ?_;refine A7 (ι:={ k:Nat // k≤(1+v1).toNat }) (fun k=>⟨[.c (.po 30 0),zz,zz,.c (.ow 9001),.c (.sc (.int .i64 (1+v1 - (k.1:Int)))),zz,zz,zz,zz,zz,zz,zz,zz,zz,zz,zz,zz,zz,zz,zz,zz,zz,zz,zz,zz,zz,zz,zz,zz,zz,zz,zz,zz],[(30,.box [.rd [] 5 (.int .u8) ((R7 A8L k.1 [] (u1,p1,q1)).2.1),.sc (.int .i64 ((R7 A8L k.1 [] (u1,p1,q1)).2.2.1)),.sc (.int .u64 ((R7 A8L k.1 [] (u1,p1,q1)).2.2.2))]),(9001,.tree 26 (.row 2 (.int .i64)) ((R7 A8L k.1 [] (u1,p1,q1)).1) none)]⟩) (fun k=>(1+v1).toNat - k.1) ⟨0,by omega⟩ ?_ ?_
  ·
   refine oK ?_;simp (maxSteps:=2000000)only[go_sem];all_goals((repeat' refine And.intro ?_ ?_)<;>first|rfl|omega|(simp;done)|(congr 1;done))
  rintro⟨k,hk⟩ K5 hL5
  rcases hit:R7 A8L k [] (u1,p1,q1) with⟨v3,u3,p3,q3⟩
  have hs3:=(Cost.it B1c k []).at hs1 (by omega) hit
  have hlk:v3.length=k:=by have:=B5d (k:=k) (s:=(u1,p1,q1)) (ts:=[]);rw[hit] at this;simpa using this
  refine oS fun _ hK6=>?_;refine oS fun _ hK7=>?_;refine oW I9 ?_;simp only[hit,go_sem];repeat(with_reducible first|refine oA ?_|refine And.intro (by first|exact H2|exact⟨hs3.le (by omega),by simp⟩) ?_)
  refine hK7 _ ?_;refine oC rfl ?_ ?_
  ·
   intro c0;refine A2 ?_;simp only[go_sem];refine hK6 _ ?_;refine oS fun _ hK8=>?_;refine A1 ?_;refine oS fun _ hK9=>?_;refine oW I9 ?_;simp only[go_sem];repeat(with_reducible first|refine oA ?_|refine And.intro (by first|exact H2|exact⟨hs3.le (by omega),by simp⟩) ?_)
   refine hK9 _ ?_;refine oS fun _ hK10=>?_;refine oS fun _ hK11=>?_;rcases hr4:J0 [2,4,8,4] (u3,p3,q3) with⟨v4,u4,p4,q4⟩
   obtain⟨hs4,hm4⟩:=O0 hs3 (by omega) (by simp) hr4
   have hv4:2≤v4∧v4≤8:=by simp at hm4;omega
   refine oW I9 ?_;simp only[hr4,go_sem];repeat(with_reducible first|refine oA ?_|refine And.intro (by first|exact H2|exact⟨hs3.le (by omega),by simp⟩) ?_)
   refine hK11 _ ?_;refine A1 ?_;refine A7 (ι:={ m:Nat // m≤v4.toNat }) (fun k'=>⟨[.c (.po 30 0),zz,zz,.c (.ow 9001),.c (.sc (.int .i64 (1+v1 - (k:Int)))),.c (.ow 9002),.c (.sc (.int .i64 (v4 - (k'.1:Int)))),zz,zz,zz,zz,zz,zz,zz,zz,zz,zz,zz,zz,zz,zz,zz,zz,zz,zz,zz,zz,zz,zz,zz,zz,zz,zz],[(30,.box [.rd [] 5 (.int .u8) ((R7 (I8 Y9) k'.1 [] (u4,p4,q4)).2.1),.sc (.int .i64 ((R7 (I8 Y9) k'.1 [] (u4,p4,q4)).2.2.1)),.sc (.int .u64 ((R7 (I8 Y9) k'.1 [] (u4,p4,q4)).2.2.2))]),(9001,.tree 26 (.row 2 (.int .i64)) (v3) none),(9002,.row 2 (.int .i64) ((R7 (I8 Y9) k'.1 [] (u4,p4,q4)).1) [])]⟩) (fun k'=>v4.toNat - k'.1) ⟨0,by omega⟩ ?_ ?_
   ·
    refine oK ?_;simp (maxSteps:=2000000)only[go_sem];all_goals((repeat' refine And.intro ?_ ?_)<;>first|rfl|omega|(simp;done)|(congr 1;done))
   rintro⟨m,hm⟩ K12 hL12
   rcases hiu:R7 (I8 Y9) m [] (u4,p4,q4) with⟨v5,u5,p5,q5⟩
   have hs5:=(Cost.it (Q5 Y3) m []).at hs4 (by omega) hiu
   have hlm:v5.length=m:=by have:=A08 (m:=Y9) (k:=m) (s:=(u4,p4,q4)) (xs:=[]);rw[hiu] at this;simpa using this
   refine oS fun _ hK13=>?_;refine oS fun _ hK14=>?_;refine oW I9 ?_;simp only[hiu,go_sem];repeat(with_reducible first|refine oA ?_|refine And.intro (by first|exact H2|exact⟨hs3.le (by omega),by simp⟩) ?_)
   refine hK14 _ ?_;refine oC rfl ?_ ?_
   ·
    intro c1;refine A2 ?_;simp only[go_sem];refine hK13 _ ?_;refine oS fun _ hK15=>?_;refine A1 ?_;rcases hr6:Y9 (u5,p5,q5) with⟨v6,u6,p6,q6⟩
    have hs6:=(Y3).at hs5 (by omega) hr6
    have hnu:(R7 (I8 Y9) (m+1) [] (u4,p4,q4))=(v5++[v6],u6,p6,q6):=(X8 hiu).trans (L7 hr6)
    refine oW I9 ?_;simp (maxSteps:=2000000)only[hr6,go_sem];repeat(with_reducible first|refine oA ?_|refine And.intro (by first|exact H2|exact⟨hs3.le (by omega),by simp⟩) ?_)
    refine hK15 _ ?_;refine oW I9 ?_;simp only[go_sem];repeat(with_reducible first|refine oA ?_|refine And.intro (by first|exact H2|exact⟨hs3.le (by omega),by simp⟩) ?_)
    refine hL12 ⟨m+1,by omega⟩ _ (oK ?_) ?_
    ·
     simp (maxSteps:=2000000)only[go_sem];all_goals(try simp only[hnu])
     all_goals((repeat' refine And.intro ?_ ?_)<;>first|rfl|(rw[F3 (by omega)];omega)|(congr 1;done))
    ·
     first|(simp only[];omega)|omega|(simp;omega)
   intro c1;refine B6 ?_;simp only[go_sem];refine hK10 _ ?_;obtain rfl:m=v4.toNat:=by omega
   have hnx:(R7 A8L (k+1) [] (u1,p1,q1))=(v3++[v5],u5,p5,q5):=(X8 hit).trans (by simp only[A8L,C7A,bnd,hr4,hiu])
   refine oW I9 ?_;simp (maxSteps:=2000000)only[List.nodup_cons,List.nodup_nil,List.not_mem_nil,not_false_eq_true,go_sem];repeat(with_reducible first|refine oA ?_|refine And.intro (by first|exact H2|exact⟨hs3.le (by omega),by simp⟩) ?_)
   refine hK8 _ ?_;refine oW I9 ?_;simp only[go_sem];repeat(with_reducible first|refine oA ?_|refine And.intro (by first|exact H2|exact⟨hs3.le (by omega),by simp⟩) ?_)
   refine hL5 ⟨k+1,by omega⟩ _ (oK ?_) ?_
   ·
    simp (maxSteps:=2000000)only[go_sem];all_goals(try simp only[hnx])
    all_goals((repeat' refine And.intro ?_ ?_)<;>first|rfl|(rw[F3 (by omega)];omega)|(congr 1;done))
   ·
    first|(simp only[];omega)|omega|(simp;omega)
  intro c0;obtain rfl:k=(1+v1).toNat:=by omega
  refine B6 ?_;simp only[go_sem];refine hK3 _ ?_;refine oS fun _ hK16=>?_;refine oW I9 ?_;simp only[go_sem];repeat(with_reducible first|refine oA ?_|refine And.intro (by first|exact H2|exact⟨hs3.le (by omega),by simp⟩) ?_)
  refine hK16 _ ?_;refine A0 ?_;simp only[hres,go_sem]
  first
   | exact oG
   | refine ⟨oG, ?_⟩
     simp only[B3a,bnd,hr1,hit];try((repeat' refine And.intro ?_ ?_)<;>first|rfl|trivial|(congr 1;done))
def A01:E4:=fun f=>if f=112 then some (.g R9) else A7R f
theorem Q3:B4 Tryz.prog A01:=m8 A7g (B0 Tryz.func112 rfl (by decide)) I9
attribute [go_sem] A01 R9
def A1D:Con:=⟨[.val (.bool)],[⟨(.row 2 (.int .i64)),true⟩],fun _=>True,fun x=>z0 x.1⟩
theorem B6E:C9 Tryz.prog 113 A1D:=by
  refine A4 Tryz.func113 rfl ?_
  have hres:Tryz.f113.results.toList=[.tmp 2]:=rfl
  rintro⟨(li:Bool),_⟩ hc hL
  simp only[A1D,go_sem] at hL
  simp only[A1D,St.init,St.initG,Tryz.ntmps113,go_sem] 
  refine oS fun _ hK1=>?_;refine oW Q3 ?_;simp only[go_sem];refine hK1 _ ?_;refine oS fun _ hK2=>?_;refine oS fun _ hK3=>?_;refine oW Q3 ?_;simp only[go_sem];refine hK3 _ ?_;refine oC rfl ?_ ?_
  ·
   intro c0;refine oS fun _ hK4=>?_;refine oW Q3 ?_;simp only[go_sem];repeat(with_reducible refine oA ?_)
   refine hK4 _ ?_;refine A0 ?_;simp only[hres,go_sem];first|exact oF|(refine⟨?_,oF⟩;subst c0;rfl)
  intro c0;refine A2 ?_;simp only[go_sem];refine hK2 _ ?_;refine oS fun _ hK5=>?_;refine oW Q3 ?_;simp only[go_sem];repeat(with_reducible refine oA ?_)
  refine hK5 _ ?_;refine A0 ?_;simp only[hres,go_sem];first|exact oF|(refine⟨?_,oF⟩;subst c0;rfl)
def A59:E4:=fun f=>if f=113 then some (.p A1D) else A01 f
theorem C4:B4 Tryz.prog A59:=E3 B6E (B0 Tryz.func113 rfl (by decide)) Q3
attribute [go_sem] A59 A1D
end Go.Proofs.YtgaogcnfijbahaaGreat
