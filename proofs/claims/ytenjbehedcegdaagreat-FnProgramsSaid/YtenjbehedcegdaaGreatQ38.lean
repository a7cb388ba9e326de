/-
  Texts of this claim, joined (part 38). No condition beyond those of the theorems.
-/
import Derived.Test.YtenjbehedcegdaaGreatQ37
import Derived.Test.YtenjbehedcegdaaGreatQ30
namespace Go.Proofs.YtenjbehedcegdaaGreat
open Go.RowKit
set_option linter.unusedSimpArgs false
set_option linter.unusedVariables false
set_option maxRecDepth 100000
set_option maxHeartbeats 4000000
def A8G:G4:=fun f=>match A4H f with
 | some k=>some k
 | none=>A2u f
theorem I1:B5 Tryz.prog A8G:=W6 A8e G8
attribute [go_sem] A8G T0
def Y9:GCon where
  ps:=[.po 0,.val (.int .i64),.val (.int .i64)]
  os:=[.box [.rd ((.row 5 (.int .u8))),.rd (.int .i64),.rd (.int .u64)]]
  c:=fun x=>srcOk 6 (x.2.1.1,x.2.1.2.1,x.2.1.2.2.1)
  r:=fun x=>.c (.sc (.int .i64 (((y3 x.1.2.1 x.1.2.2.1) (x.2.1.1,x.2.1.2.1,x.2.1.2.2.1)).1)))
  o:=fun x=>[(30,.box [.rd [] 5 (.int .u8) (((y3 x.1.2.1 x.1.2.2.1) (x.2.1.1,x.2.1.2.1,x.2.1.2.2.1)).2.1),.sc (.int .i64 (((y3 x.1.2.1 x.1.2.2.1) (x.2.1.1,x.2.1.2.1,x.2.1.2.2.1)).2.2.1)),.sc (.int .u64 (((y3 x.1.2.1 x.1.2.2.1) (x.2.1.1,x.2.1.2.1,x.2.1.2.2.1)).2.2.2))])]
  ok:=by
    rintro⟨⟨_,(kd:Int),(tb:Int),_⟩,⟨⟨(cd:List Int),(pt:Int),(sd:Int),_⟩,_⟩⟩
    exact⟨rfl,rfl,by decide⟩
theorem A9v:l6 Tryz.prog 93 Y9:=by
  refine F1 Tryz.func93 rfl ?_
  have hres:Tryz.f93.results.toList=[.tmp 6]:=rfl
  rintro⟨⟨_,(kd:Int),(tb:Int),_⟩,⟨⟨(cd:List Int),(pt:Int),(sd:Int),_⟩,_⟩⟩ hc hL hO
  simp only[Y9,go_sem] at hL
  simp only[Y9,go_sem] at hO
  simp only[Y9,St.init,St.initG,Tryz.ntmps93,go_sem] 
  have hs0:srcOk 6 (cd,pt,sd):=hc
  refine oS fun _ hK1=>?_;refine oW I1 ?_;simp only[go_sem];repeat(with_reducible first|refine oA ?_|refine And.intro (by first|exact F5|exact⟨hs0.le (by omega),by simp⟩) ?_)
  refine hK1 _ ?_;refine oS fun _ hK2=>?_;refine oS fun _ hK3=>?_;refine oW I1 ?_;simp only[go_sem];repeat(with_reducible first|refine oA ?_|refine And.intro (by first|exact F5|exact⟨hs0.le (by omega),by simp⟩) ?_)
  refine hK3 _ ?_;refine A3 ?_;refine oS fun _ hK4=>?_;refine oW I1 ?_;simp only[go_sem];repeat(with_reducible first|refine oA ?_|refine And.intro (by first|exact F5|exact⟨hs0.le (by omega),by simp⟩) ?_)
  refine hK4 _ ?_;refine oC rfl ?_ ?_
  ·
   intro c0;have k0:=decide_eq_true c0
   refine oS fun _ hK5=>?_;rcases hr1:D8 2 (cd,pt,sd) with⟨v1,u1,p1,q1⟩
   obtain⟨hs1,hv1,hb1,hz1⟩:=H3 hs0 (by omega) hr1
   have hs1:srcOk _ (u1,p1,q1):=hs1
   refine oW I1 ?_;simp only[hr1,go_sem];repeat(with_reducible first|refine oA ?_|refine And.intro (by first|exact F5|exact⟨hs0.le (by omega),by simp⟩) ?_)
   refine hK5 _ ?_;refine A0 ?_;simp only[hres,go_sem]
   first
    | exact oG
    | refine ⟨oG, ?_⟩
      simp only[y3,k0,hr1];try((repeat' refine And.intro ?_ ?_)<;>first|rfl|trivial|(congr 1;done))
  intro c0;have k0:=decide_eq_false c0
  refine oS fun _ hK6=>?_;refine oW I1 ?_;simp only[go_sem];repeat(with_reducible first|refine oA ?_|refine And.intro (by first|exact F5|exact⟨hs0.le (by omega),by simp⟩) ?_)
  refine hK6 _ ?_;refine oC rfl ?_ ?_
  ·
   intro c1;have k1:=decide_eq_true c1
   refine oS fun _ hK7=>?_;rcases hr1:D8 4 (cd,pt,sd) with⟨v1,u1,p1,q1⟩
   obtain⟨hs1,hv1,hb1,hz1⟩:=H3 hs0 (by omega) hr1
   have hs1:srcOk _ (u1,p1,q1):=hs1
   have hb1:=hb1 (by omega)
   have hw:IntKind.i64.wrap (1+v1)=1+v1:=H4 (by omega)
   refine oW I1 ?_;simp only[hr1,hw,go_sem];repeat(with_reducible first|refine oA ?_|refine And.intro (by first|exact F5|exact⟨hs0.le (by omega),by simp⟩) ?_)
   refine hK7 _ ?_;refine A0 ?_;simp only[hres,go_sem]
   first
    | exact oG
    | refine ⟨oG, ?_⟩
      simp only[y3,bnd,k0,k1,hr1];try((repeat' refine And.intro ?_ ?_)<;>first|rfl|trivial|(congr 1;done))
  intro c1;have k1:=decide_eq_false c1
  refine oS fun _ hK8=>?_;refine oW I1 ?_;simp only[go_sem];repeat(with_reducible first|refine oA ?_|refine And.intro (by first|exact F5|exact⟨hs0.le (by omega),by simp⟩) ?_)
  refine hK8 _ ?_;refine oC rfl ?_ ?_
  ·
   intro c2;have k2:=decide_eq_true c2
   refine oS fun _ hK9=>?_;rcases hr1:H5 [1,2,0,16,31] (cd,pt,sd) with⟨v1,u1,p1,q1⟩
   obtain⟨hs1,hm1⟩:=J9 hs0 (by omega) (by simp) hr1
   refine oW I1 ?_;simp only[hr1,go_sem];repeat(with_reducible first|refine oA ?_|refine And.intro (by first|exact F5|exact⟨hs0.le (by omega),by simp⟩) ?_)
   refine hK9 _ ?_;refine A0 ?_;simp only[hres,go_sem]
   first
    | exact oG
    | refine ⟨oG, ?_⟩
      simp only[y3,k0,k1,k2,hr1];try((repeat' refine And.intro ?_ ?_)<;>first|rfl|trivial|(congr 1;done))
  intro c2;have k2:=decide_eq_false c2
  refine oS fun _ hK10=>?_;refine oW I1 ?_;simp only[go_sem];repeat(with_reducible first|refine oA ?_|refine And.intro (by first|exact F5|exact⟨hs0.le (by omega),by simp⟩) ?_)
  refine hK10 _ ?_;refine oC rfl ?_ ?_
  ·
   intro c3;have k3:=decide_eq_true c3
   refine oS fun _ hK11=>?_;rcases hr1:H5 [10,0,100,2147483647] (cd,pt,sd) with⟨v1,u1,p1,q1⟩
   obtain⟨hs1,hm1⟩:=J9 hs0 (by omega) (by simp) hr1
   refine oW I1 ?_;simp only[hr1,go_sem];repeat(with_reducible first|refine oA ?_|refine And.intro (by first|exact F5|exact⟨hs0.le (by omega),by simp⟩) ?_)
   refine hK11 _ ?_;refine A0 ?_;simp only[hres,go_sem]
   first
    | exact oG
    | refine ⟨oG, ?_⟩
      simp only[y3,k0,k1,k2,k3,hr1];try((repeat' refine And.intro ?_ ?_)<;>first|rfl|trivial|(congr 1;done))
  intro c3;have k3:=decide_eq_false c3
  refine oS fun _ hK12=>?_;refine oW I1 ?_;simp only[go_sem];repeat(with_reducible first|refine oA ?_|refine And.intro (by first|exact F5|exact⟨hs0.le (by omega),by simp⟩) ?_)
  refine hK12 _ ?_;refine oC rfl ?_ ?_
  ·
   intro c4;have k4:=decide_eq_true c4
   refine oS fun _ hK13=>?_;rcases hr1:D8 tb (cd,pt,sd) with⟨v1,u1,p1,q1⟩
   obtain⟨hs1,hv1,hb1,hz1⟩:=H3 hs0 (by omega) hr1
   have hs1:srcOk _ (u1,p1,q1):=hs1
   refine oW I1 ?_;simp only[hr1,go_sem];repeat(with_reducible first|refine oA ?_|refine And.intro (by first|exact F5|exact⟨hs0.le (by omega),by simp⟩) ?_)
   refine hK13 _ ?_;refine A0 ?_;simp only[hres,go_sem]
   first
    | exact oG
    | refine ⟨oG, ?_⟩
      simp only[y3,k0,k1,k2,k3,k4,hr1];try((repeat' refine And.intro ?_ ?_)<;>first|rfl|trivial|(congr 1;done))
  intro c4;have k4:=decide_eq_false c4
  refine A2 ?_;simp only[go_sem];refine hK2 _ ?_;refine oS fun _ hK14=>?_;refine oS fun _ hK15=>?_;refine oW I1 ?_;simp only[go_sem];repeat(with_reducible first|refine oA ?_|refine And.intro (by first|exact F5|exact⟨hs0.le (by omega),by simp⟩) ?_)
  refine hK15 _ ?_;refine oC rfl ?_ ?_
  ·
   intro c5;refine oS fun _ hK16=>?_;rcases hr1:W7 (cd,pt,sd) with⟨v1,u1,p1,q1⟩
   have hs1:=(V8).at hs0 (by omega) hr1
   refine oW I1 ?_;simp only[hr1,go_sem];repeat(with_reducible first|refine oA ?_|refine And.intro (by first|exact F5|exact⟨hs0.le (by omega),by simp⟩) ?_)
   refine hK16 _ ?_;refine A0 ?_;simp only[hres,go_sem]
   first
    | exact oG
    | refine ⟨oG, ?_⟩
      simp only[y3,k0,k1,k2,k3,k4,c5,hr1];try((repeat' refine And.intro ?_ ?_)<;>first|rfl|trivial|(congr 1;done))
  intro c5;refine A2 ?_;simp only[go_sem];refine hK14 _ ?_;refine oS fun _ hK17=>?_;refine oW I1 ?_;simp only[go_sem];repeat(with_reducible first|refine oA ?_|refine And.intro (by first|exact F5|exact⟨hs0.le (by omega),by simp⟩) ?_)
  refine hK17 _ ?_;refine A0 ?_;simp only[hres,go_sem]
  first
   | exact oG
   | refine ⟨oG, ?_⟩
     simp only[y3,k0,k1,k2,k3,k4,c5];try((repeat' refine And.intro ?_ ?_)<;>first|rfl|trivial|(congr 1;done))
def A30:G4:=fun f=>if f=93 then some (.g Y9) else A8G f
theorem I3:B5 Tryz.prog A30:=A0M A9v (B0 Tryz.func93 rfl (by decide)) I1
attribute [go_sem] A30 Y9
def r4:GCon where
  ps:=[.po 0,.val (.int .i64),.val (.int .i64),.val (.int .i64)]
  os:=[.box [.rd ((.row 5 (.int .u8))),.rd (.int .i64),.rd (.int .u64)]]
  c:=fun x=>srcOk 20 (x.2.1.1,x.2.1.2.1,x.2.1.2.2.1)∧I6 x.1.2.1 0 17=true
  r:=fun x=>.agg [.sc (.int .i64 (j8 x.1.2.1 x.1.2.2.1 x.1.2.2.2.1 (x.2.1.1,x.2.1.2.1,x.2.1.2.2.1)).1.1),.sc (.int .i64 (j8 x.1.2.1 x.1.2.2.1 x.1.2.2.2.1 (x.2.1.1,x.2.1.2.1,x.2.1.2.2.1)).1.2.1),.sc (.int .i64 (j8 x.1.2.1 x.1.2.2.1 x.1.2.2.2.1 (x.2.1.1,x.2.1.2.1,x.2.1.2.2.1)).1.2.2.1),.ow 10]
  o:=fun x=>[(30,.box [.rd [] 5 (.int .u8) ((j8 x.1.2.1 x.1.2.2.1 x.1.2.2.2.1 (x.2.1.1,x.2.1.2.1,x.2.1.2.2.1)).2.1),.sc (.int .i64 ((j8 x.1.2.1 x.1.2.2.1 x.1.2.2.2.1 (x.2.1.1,x.2.1.2.1,x.2.1.2.2.1)).2.2.1)),.sc (.int .u64 ((j8 x.1.2.1 x.1.2.2.1 x.1.2.2.2.1 (x.2.1.1,x.2.1.2.1,x.2.1.2.2.1)).2.2.2))]),(10,.row 2 (.int .i64) ((j8 x.1.2.1 x.1.2.2.1 x.1.2.2.2.1 (x.2.1.1,x.2.1.2.1,x.2.1.2.2.1)).1.2.2.2) [])]
  ok:=by
    rintro⟨⟨_,(kd:Int),(tb:Int),(bl:Int),_⟩,⟨⟨(cd:List Int),(pt:Int),(sd:Int),_⟩,_⟩⟩
    exact⟨rfl,rfl,by decide⟩
theorem B1M:l6 Tryz.prog 72 r4:=by
  refine F1 Tryz.func72 rfl ?_
  have hres:Tryz.f72.results.toList=[.cell 8 67]:=rfl
  rintro⟨⟨_,(kd:Int),(tb:Int),(bl:Int),_⟩,⟨⟨(cd:List Int),(pt:Int),(sd:Int),_⟩,_⟩⟩ hc hL hO
  simp only[r4,go_sem] at hL
  simp only[r4,go_sem] at hO
  simp only[r4,St.init,St.initG,Tryz.ntmps72,go_sem] 
  obtain⟨hs0,hkr⟩:=(show srcOk 20 (cd,pt,sd)∧I6 kd 0 17=true from hc)
  obtain⟨har1,har2⟩:=A6c kd.toNat
  rcases hr1:y3 kd tb (cd,pt,sd) with⟨v1,u1,p1,q1⟩
  have hs1:=(A5Z kd tb).at hs0 (by omega) hr1
  refine oS fun _ hK1=>?_;refine oW I3 ?_;simp only[go_sem];repeat(with_reducible first|refine oA ?_|refine And.intro (by first|exact F5|exact hkr) ?_)
  refine hK1 _ ?_;refine oS fun _ hK2=>?_;refine oW I3 ?_;simp (maxSteps:=2000000)only[List.nodup_cons,List.nodup_nil,List.not_mem_nil,not_false_eq_true,hr1,go_sem];repeat(with_reducible first|refine oA ?_|refine And.intro (by first|exact F5|exact hkr) ?_)
  refine hK2 _ ?_;refine oS fun _ hK3=>?_;refine oS fun _ hK4=>?_;refine oW I3 ?_;simp only[go_sem];repeat(with_reducible first|refine oA ?_|refine And.intro (by first|exact F5|exact hkr) ?_)
  refine hK4 _ ?_;refine A3 ?_;refine A8 (ι:={ k:Nat // k≤(arL.getD kd.toNat 0).toNat }) (fun k=>⟨[.c (.po 30 0),.c (.sc (.int .i64 (kd))),zz,.c (.sc (.int .i64 (bl))),zz,zz,zz,zz,.c (.po 228 0),.c (.po 244 0),.c (.sc (.int .i64 ((arL.getD kd.toNat 0) - (k.1:Int)))),zz,zz,zz,zz,zz,zz,zz,zz,zz,zz,zz,zz,zz,zz,zz,zz,zz,zz,zz,zz,zz,zz,zz,zz,zz,zz,zz,zz],[(30,.box [.rd [] 5 (.int .u8) ((P3 (I2 (D8 bl)) k.1 [] (u1,p1,q1)).2.1),.sc (.int .i64 ((P3 (I2 (D8 bl)) k.1 [] (u1,p1,q1)).2.2.1)),.sc (.int .u64 ((P3 (I2 (D8 bl)) k.1 [] (u1,p1,q1)).2.2.2))]),(228,.box [.sc (.int .i64 (0)),.sc (.int .i64 (0)),.sc (.int .i64 (0)),.sc (.slice none 0 0)]),(244,.box [.sc (.int .i64 (kd)),.sc (.int .i64 (v1)),.sc (.int .i64 (0)),.ow 9001]),(9001,.row 2 (.int .i64) ((P3 (I2 (D8 bl)) k.1 [] (u1,p1,q1)).1) [])]⟩) (fun k=>(arL.getD kd.toNat 0).toNat - k.1) ⟨0,by omega⟩ ?_ ?_
  ·
   refine oK ?_;simp (maxSteps:=2000000)only[go_sem];all_goals((repeat' refine And.intro ?_ ?_)<;>first|rfl|omega|(simp;done)|(congr 1;done))
  rintro⟨k,hk⟩ K5 hL5
  rcases hit:P3 (I2 (D8 bl)) k [] (u1,p1,q1) with⟨v3,u3,p3,q3⟩
  have hs3:=(Cost.it (P0 (E9 bl)) k []).at hs1 (by omega) hit
  have hlk:v3.length=k:=by have:=a8 (m:=D8 bl) (k:=k) (s:=(u1,p1,q1)) (xs:=[]);rw[hit] at this;simpa using this
  refine oS fun _ hK6=>?_;refine oS fun _ hK7=>?_;refine oW I3 ?_;simp only[hit,go_sem];repeat(with_reducible first|refine oA ?_|refine And.intro (by first|exact F5|exact hkr) ?_)
  refine hK7 _ ?_;refine oC rfl ?_ ?_
  ·
   intro c0;refine A2 ?_;simp only[go_sem];refine hK6 _ ?_;refine oS fun _ hK8=>?_;refine A3 ?_;rcases hr4:D8 bl (u3,p3,q3) with⟨v4,u4,p4,q4⟩
   obtain⟨hs4,hv4,hb4,hz4⟩:=H3 hs3 (by omega) hr4
   have hs4:srcOk _ (u4,p4,q4):=hs4
   have hnx:(P3 (I2 (D8 bl)) (k+1) [] (u1,p1,q1))=(v3++[v4],u4,p4,q4):=(X0 hit).trans (S9 hr4)
   refine oR I3
     [[],[0],[],[],[2,3],[2,3,4],[0,1,2,3,4,5],[0,1,2,3,4,5,6],[0,1,2,3,4,5,6,7]]
     [[30,548,549,550,551,552,553,554,555,556,557,558,559,560,561,562,563,564],[30,548,549,550,551,552,553,554,555,556,557,558,559,560,561,562,563,564],[],[],[],[],[],[],[]]
     [[],[],[],[],[30,548,549,550,551,552,553,554,555,556,557,558,559,560,561,562,563],[30,548,549,550,551,552,553,554,555,556,557,558,559,560,561,562,563,564],[],[],[]] (by kernel_rfl) (by kernel_rfl) (A7 (acc:=[]) ?_)
   simp (maxSteps:=2000000)only[hr4,go_sem];repeat(with_reducible first|refine oD ?_|refine And.intro (by first|exact F5|exact hkr) ?_)
   refine hK8 _ ?_;refine oW I3 ?_;simp only[go_sem];repeat(with_reducible first|refine oA ?_|refine And.intro (by first|exact F5|exact hkr) ?_)
   refine hL5 ⟨k+1,by omega⟩ _ (oK ?_) ?_
   ·
    simp (maxSteps:=2000000)only[go_sem];all_goals(try simp only[hnx])
    all_goals((repeat' refine And.intro ?_ ?_)<;>first|rfl|(rw[H4 (by omega)];omega)|(congr 1;done))
   ·
    first|(simp only[];omega)|omega|(simp;omega)
  intro c0;obtain rfl:k=(arL.getD kd.toNat 0).toNat:=by omega
  refine B6 ?_;simp only[go_sem];refine hK3 _ ?_;refine oS fun _ hK9=>?_;refine oS fun _ hK10=>?_;refine oW I3 ?_;simp only[go_sem];repeat(with_reducible first|refine oA ?_|refine And.intro (by first|exact F5|exact hkr) ?_)
  refine hK10 _ ?_;refine oC rfl ?_ ?_
  ·
   intro c1;have k1:=decide_eq_true c1
   rcases hr5:D8 3 (u3,p3,q3) with⟨v5,u5,p5,q5⟩
   obtain⟨hs5,hv5,hb5,hz5⟩:=H3 hs3 (by omega) hr5
   have hs5:srcOk _ (u5,p5,q5):=hs5
   have hb5:=hb5 (by omega)
   have hw:IntKind.i64.wrap (1+v5)=1+v5:=H4 (by omega)
   refine oW I3 ?_;simp (maxSteps:=2000000)only[hr5,hw,go_sem];repeat(with_reducible first|refine oA ?_|refine And.intro (by first|exact F5|exact hkr) ?_)
   refine hK9 _ ?_;refine oS fun _ hK11=>?_;refine oW I3 ?_;simp only[go_sem];repeat(with_reducible first|refine oA ?_|refine And.intro (by first|exact F5|exact hkr) ?_)
   refine hK11 _ ?_;refine A0 ?_;simp only[hres,go_sem]
   first
    | exact oG
    | refine ⟨oG, ?_⟩
      simp only[j8,bnd,hr1,hit];first|simp only[k1,hr5]|simp only[k1]
      try((repeat' refine And.intro ?_ ?_)<;>first|rfl|trivial|(congr 1;done))
  intro c1;have k1:=decide_eq_false c1
  refine A2 ?_;simp only[go_sem];refine hK9 _ ?_;refine oS fun _ hK12=>?_;refine oW I3 ?_;simp only[go_sem];repeat(with_reducible first|refine oA ?_|refine And.intro (by first|exact F5|exact hkr) ?_)
  refine hK12 _ ?_;refine A0 ?_;simp only[hres,go_sem]
  first
   | exact oG
   | refine ⟨oG, ?_⟩
     simp only[j8,bnd,hr1,hit];first|simp only[k1,hr5]|simp only[k1]
     try((repeat' refine And.intro ?_ ?_)<;>first|rfl|trivial|(congr 1;done))
def A4C:G4:=fun f=>if f=72 then some (.g r4) else A30 f
theorem G1:B5 Tryz.prog A4C:=A0M B1M (B0 Tryz.func72 rfl (by decide)) I3
attribute [go_sem] A4C r4
def m8:GCon where
  ps:=[.po 0,.val (.int .i64)]
  os:=[.box [.rd ((.row 5 (.int .u8))),.rd (.int .i64),.rd (.int .u64)]]
  c:=fun x=>srcOk 26 (x.2.1.1,x.2.1.2.1,x.2.1.2.2.1)
  r:=fun x=>.agg [.sc (.int .i64 (A2g x.1.2.1 (x.2.1.1,x.2.1.2.1,x.2.1.2.2.1)).1.1),.sc (.int .i64 (A2g x.1.2.1 (x.2.1.1,x.2.1.2.1,x.2.1.2.2.1)).1.2.1),.sc (.int .i64 (A2g x.1.2.1 (x.2.1.1,x.2.1.2.1,x.2.1.2.2.1)).1.2.2.1),.ow 10]
  o:=fun x=>[(30,.box [.rd [] 5 (.int .u8) ((A2g x.1.2.1 (x.2.1.1,x.2.1.2.1,x.2.1.2.2.1)).2.1),.sc (.int .i64 ((A2g x.1.2.1 (x.2.1.1,x.2.1.2.1,x.2.1.2.2.1)).2.2.1)),.sc (.int .u64 ((A2g x.1.2.1 (x.2.1.1,x.2.1.2.1,x.2.1.2.2.1)).2.2.2))]),(10,.row 2 (.int .i64) ((A2g x.1.2.1 (x.2.1.1,x.2.1.2.1,x.2.1.2.2.1)).1.2.2.2) [])]
  ok:=by
    rintro⟨⟨_,(tb:Int),_⟩,⟨⟨(cd:List Int),(pt:Int),(sd:Int),_⟩,_⟩⟩
    exact⟨rfl,rfl,by decide⟩
theorem B1s:l6 Tryz.prog 41 m8:=by
  refine F1 Tryz.func41 rfl ?_
  have hres:Tryz.f41.results.toList=[.cell 4 67]:=rfl
  rintro⟨⟨_,(tb:Int),_⟩,⟨⟨(cd:List Int),(pt:Int),(sd:Int),_⟩,_⟩⟩ hc hL hO
  simp only[m8,go_sem] at hL
  simp only[m8,go_sem] at hO
  simp only[m8,St.init,St.initG,Tryz.ntmps41,go_sem] 
  have hs0:srcOk 26 (cd,pt,sd):=hc
  rcases hr1:D8 17 (cd,pt,sd) with⟨v1,u1,p1,q1⟩
  obtain⟨hs1,hv1,hb1,hz1⟩:=H3 hs0 (by omega) hr1
  have hs1:srcOk _ (u1,p1,q1):=hs1
  have hb1:=hb1 (by omega)
  have hw:IntKind.i64.wrap (1+v1)=1+v1:=H4 (by omega)
  have hkr:I6 (1+v1) 0 17=true:=L8 (by omega) (by omega)
  rcases hr2:j8 (1+v1) tb 6 (u1,p1,q1) with⟨⟨nk,na,nb,nf⟩,u2,p2,q2⟩
  have hs2:=(o9 (1+v1) tb 6).at hs1 (by omega) hr2
  have hnl:=(A3G hr2).1
  have har:=A6c (1+v1).toNat
  have hnl2:nf.length≤3:=by simp only at hnl;omega
  refine oS fun _ hK1=>?_;refine oW G1 ?_;simp only[go_sem];repeat(with_reducible first|refine oA ?_|refine And.intro (by first|exact F5|exact⟨hs1.le (by omega),hkr⟩|exact⟨hs3.le (by omega),by simp⟩) ?_)
  refine hK1 _ ?_;refine oS fun _ hK2=>?_;refine oW G1 ?_;simp (maxSteps:=2000000)only[hr1,hw,hr2,go_sem];repeat(with_reducible first|refine oA ?_|refine And.intro (by first|exact F5|exact⟨hs1.le (by omega),hkr⟩|exact⟨hs3.le (by omega),by simp⟩) ?_)
  refine hK2 _ ?_;refine oS fun _ hK3=>?_;refine oS fun _ hK4=>?_;rcases hr3:D8 16 (u2,p2,q2) with⟨v3,u3,p3,q3⟩
  obtain⟨hs3,hv3,hb3,hz3⟩:=H3 hs2 (by omega) hr3
  have hs3:srcOk _ (u3,p3,q3):=hs3
  refine oW G1 ?_;simp only[hr3,go_sem];repeat(with_reducible first|refine oA ?_|refine And.intro (by first|exact F5|exact⟨hs1.le (by omega),hkr⟩|exact⟨hs3.le (by omega),by simp⟩) ?_)
  refine hK4 _ ?_;refine A3 ?_;refine oS fun _ hK5=>?_;refine oW G1 ?_;simp only[go_sem];repeat(with_reducible first|refine oA ?_|refine And.intro (by first|exact F5|exact⟨hs1.le (by omega),hkr⟩|exact⟨hs3.le (by omega),by simp⟩) ?_)
  refine hK5 _ ?_;refine oC rfl ?_ ?_
  ·
   intro c0;have k0:=decide_eq_true c0
   rcases hr4:H5 [0,18,-1] (u3,p3,q3) with⟨v4,u4,p4,q4⟩
   obtain⟨hs4,hm4⟩:=J9 hs3 (by omega) (by simp) hr4
   refine oW G1 ?_;simp (maxSteps:=2000000)only[hr4,go_sem];repeat(with_reducible first|refine oA ?_|refine And.intro (by first|exact F5|exact⟨hs1.le (by omega),hkr⟩|exact⟨hs3.le (by omega),by simp⟩) ?_)
   refine hK3 _ ?_;refine oS fun _ hK6=>?_;refine oW G1 ?_;simp only[go_sem];repeat(with_reducible first|refine oA ?_|refine And.intro (by first|exact F5|exact⟨hs1.le (by omega),hkr⟩|exact⟨hs3.le (by omega),by simp⟩) ?_)
   refine hK6 _ ?_;refine A0 ?_;simp only[hres,go_sem]
   first
    | exact oG
    | refine ⟨oG, ?_⟩
      simp only[A2g,bnd,hr1,hr2,hr3];first|simp only[k0,k1,k2,k3,hr4]|simp only[k0,k1,k2,k3]|simp only[k0,k1,k2,hr4]|simp only[k0,k1,hr4]|simp only[k0,hr4]
      try((repeat' refine And.intro ?_ ?_)<;>first|rfl|trivial|(congr 1;done))
  intro c0;have k0:=decide_eq_false c0
  refine oS fun _ hK7=>?_;refine oW G1 ?_;simp only[go_sem];repeat(with_reducible first|refine oA ?_|refine And.intro (by first|exact F5|exact⟨hs1.le (by omega),hkr⟩|exact⟨hs3.le (by omega),by simp⟩) ?_)
  refine hK7 _ ?_;refine oC rfl ?_ ?_
  ·
   intro c1;have k1:=decide_eq_true c1
   rcases hr4:H5 [2147483648,17,32,-1,4] (u3,p3,q3) with⟨v4,u4,p4,q4⟩
   obtain⟨hs4,hm4⟩:=J9 hs3 (by omega) (by simp) hr4
   refine oW G1 ?_;simp (maxSteps:=2000000)only[hr4,go_sem];repeat(with_reducible first|refine oA ?_|refine And.intro (by first|exact F5|exact⟨hs1.le (by omega),hkr⟩|exact⟨hs3.le (by omega),by simp⟩) ?_)
   refine hK3 _ ?_;refine oS fun _ hK8=>?_;refine oW G1 ?_;simp only[go_sem];repeat(with_reducible first|refine oA ?_|refine And.intro (by first|exact F5|exact⟨hs1.le (by omega),hkr⟩|exact⟨hs3.le (by omega),by simp⟩) ?_)
   refine hK8 _ ?_;refine A0 ?_;simp only[hres,go_sem]
   first
    | exact oG
    | refine ⟨oG, ?_⟩
      simp only[A2g,bnd,hr1,hr2,hr3];first|simp only[k0,k1,k2,k3,hr4]|simp only[k0,k1,k2,k3]|simp only[k0,k1,k2,hr4]|simp only[k0,k1,hr4]|simp only[k0,hr4]
      try((repeat' refine And.intro ?_ ?_)<;>first|rfl|trivial|(congr 1;done))
  intro c1;have k1:=decide_eq_false c1
  refine oS fun _ hK9=>?_;refine oW G1 ?_;simp only[go_sem];repeat(with_reducible first|refine oA ?_|refine And.intro (by first|exact F5|exact⟨hs1.le (by omega),hkr⟩|exact⟨hs3.le (by omega),by simp⟩) ?_)
  refine hK9 _ ?_;refine oC rfl ?_ ?_
  ·
   intro c2;have k2:=decide_eq_true c2
   rcases hr4:H5 [0,1,16,17] (u3,p3,q3) with⟨v4,u4,p4,q4⟩
   obtain⟨hs4,hm4⟩:=J9 hs3 (by omega) (by simp) hr4
   refine oW G1 ?_;simp (maxSteps:=2000000)only[hr4,go_sem];repeat(with_reducible first|refine oA ?_|refine And.intro (by first|exact F5|exact⟨hs1.le (by omega),hkr⟩|exact⟨hs3.le (by omega),by simp⟩) ?_)
   refine hK3 _ ?_;refine oS fun _ hK10=>?_;refine oW G1 ?_;simp only[go_sem];repeat(with_reducible first|refine oA ?_|refine And.intro (by first|exact F5|exact⟨hs1.le (by omega),hkr⟩|exact⟨hs3.le (by omega),by simp⟩) ?_)
   refine hK10 _ ?_;refine A0 ?_;simp only[hres,go_sem]
   first
    | exact oG
    | refine ⟨oG, ?_⟩
      simp only[A2g,bnd,hr1,hr2,hr3];first|simp only[k0,k1,k2,k3,hr4]|simp only[k0,k1,k2,k3]|simp only[k0,k1,k2,hr4]|simp only[k0,k1,hr4]|simp only[k0,hr4]
      try((repeat' refine And.intro ?_ ?_)<;>first|rfl|trivial|(congr 1;done))
  intro c2;have k2:=decide_eq_false c2
  refine oS fun _ hK11=>?_;refine oW G1 ?_;simp only[go_sem];repeat(with_reducible first|refine oA ?_|refine And.intro (by first|exact F5|exact⟨hs1.le (by omega),hkr⟩|exact⟨hs3.le (by omega),by simp⟩) ?_)
  refine hK11 _ ?_;refine oC rfl ?_ ?_
  ·
   intro c3;have k3:=decide_eq_true c3
   rcases hr4:H5 [0,23,24,-1] (u3,p3,q3) with⟨v4,u4,p4,q4⟩
   obtain⟨hs4,hm4⟩:=J9 hs3 (by omega) (by simp) hr4
   refine oR G1
     [[],[0],[],[],[2,3],[2,3,4],[0,1,2,3,4,5],[0,1,2,3,4,5,6],[0,1,2,3,4,5,6,7]]
     [[30,692,708,709,710,711,712,713,714,715,716,717,718,719,720,721,722,723,724],[30,692,708,709,710,711,712,713,714,715,716,717,718,719,720,721,722,723,724],[692],[],[],[],[],[],[]]
     [[],[],[],[692],[30,708,709,710,711,712,713,714,715,716,717,718,719,720,721,722,723],[30,692,708,709,710,711,712,713,714,715,716,717,718,719,720,721,722,723,724],[],[],[]] (by kernel_rfl) (by kernel_rfl) (A7 (acc:=[]) ?_)
   simp (maxSteps:=2000000)only[hr4,go_sem];repeat(with_reducible first|refine oD ?_|refine And.intro (by first|exact F5|exact⟨hs1.le (by omega),hkr⟩|exact⟨hs3.le (by omega),by simp⟩) ?_)
   refine hK3 _ ?_;refine oS fun _ hK12=>?_;refine oW G1 ?_;simp only[go_sem];repeat(with_reducible first|refine oA ?_|refine And.intro (by first|exact F5|exact⟨hs1.le (by omega),hkr⟩|exact⟨hs3.le (by omega),by simp⟩) ?_)
   refine hK12 _ ?_;refine A0 ?_;simp only[hres,go_sem]
   first
    | exact oG
    | refine ⟨oG, ?_⟩
      simp only[A2g,bnd,hr1,hr2,hr3];first|simp only[k0,k1,k2,k3,hr4]|simp only[k0,k1,k2,k3]|simp only[k0,k1,k2,hr4]|simp only[k0,k1,hr4]|simp only[k0,hr4]
      try((repeat' refine And.intro ?_ ?_)<;>first|rfl|trivial|(congr 1;done))
  intro c3;have k3:=decide_eq_false c3
  refine A2 ?_;simp only[go_sem];refine hK3 _ ?_;refine oS fun _ hK13=>?_;refine oW G1 ?_;simp only[go_sem];repeat(with_reducible first|refine oA ?_|refine And.intro (by first|exact F5|exact⟨hs1.le (by omega),hkr⟩|exact⟨hs3.le (by omega),by simp⟩) ?_)
  refine hK13 _ ?_;refine A0 ?_;simp only[hres,go_sem]
  first
   | exact oG
   | refine ⟨oG, ?_⟩
     simp only[A2g,bnd,hr1,hr2,hr3];first|simp only[k0,k1,k2,k3,hr4]|simp only[k0,k1,k2,k3]|simp only[k0,k1,k2,hr4]|simp only[k0,k1,hr4]|simp only[k0,hr4]
     try((repeat' refine And.intro ?_ ?_)<;>first|rfl|trivial|(congr 1;done))
def A4R:G4:=fun f=>if f=41 then some (.g m8) else A4C f
theorem H9:B5 Tryz.prog A4R:=A0M B1s (B0 Tryz.func41 rfl (by decide)) G1
attribute [go_sem] A4R m8
def N9:GCon where
  ps:=[.po 0]
  os:=[.box [.rd ((.row 5 (.int .u8))),.rd (.int .i64),.rd (.int .u64)]]
  c:=fun x=>srcOk 102 (x.2.1.1,x.2.1.2.1,x.2.1.2.2.1)
  r:=fun x=>.c (.ow 10)
  o:=fun x=>[(30,.box [.rd [] 5 (.int .u8) ((A86 (x.2.1.1,x.2.1.2.1,x.2.1.2.2.1)).2.1),.sc (.int .i64 ((A86 (x.2.1.1,x.2.1.2.1,x.2.1.2.2.1)).2.2.1)),.sc (.int .u64 ((A86 (x.2.1.1,x.2.1.2.1,x.2.1.2.2.1)).2.2.2))]),(10,.tree 26 (.row 2 (.int .i64)) ((A86 (x.2.1.1,x.2.1.2.1,x.2.1.2.2.1)).1) none)]
  ok:=by
    rintro⟨⟨_,_⟩,⟨⟨(cd:List Int),(pt:Int),(sd:Int),_⟩,_⟩⟩
    exact⟨rfl,rfl,by decide⟩
theorem A3x:l6 Tryz.prog 69 N9:=by
  refine F1 Tryz.func69 rfl ?_
  have hres:Tryz.f69.results.toList=[.tmp 2]:=rfl
  rintro⟨⟨_,_⟩,⟨⟨(cd:List Int),(pt:Int),(sd:Int),_⟩,_⟩⟩ hc hL hO
  simp only[N9,go_sem] at hL
  simp only[N9,go_sem] at hO
  simp only[N9,St.init,St.initG,Tryz.ntmps69,go_sem] 
  have hs0:srcOk 102 (cd,pt,sd):=hc
  rcases hr1:D8 2 (cd,pt,sd) with⟨v1,u1,p1,q1⟩
  obtain⟨hs1,hv1,hb1,hz1⟩:=H3 hs0 (by omega) hr1
  have hs1:srcOk _ (u1,p1,q1):=hs1
  have hb1:=hb1 (by omega)
  have hw:IntKind.i64.wrap (1+v1)=1+v1:=H4 (by omega)
  refine oS fun _ hK1=>?_;refine oW H9 ?_;simp only[go_sem];repeat(with_reducible first|refine oA ?_|refine And.intro (by first|exact F5|exact⟨hs3.le (by omega),by simp⟩) ?_)
  refine hK1 _ ?_;refine oS fun _ hK2=>?_;refine oW H9 ?_;simp only[List.nodup_cons,List.nodup_nil,List.not_mem_nil,not_false_eq_true,go_sem];repeat(with_reducible first|refine oA ?_|refine And.intro (by first|exact F5|exact⟨hs3.le (by omega),by simp⟩) ?_)
  refine hK2 _ ?_;refine oS fun _ hK3=>?_;refine oS fun _ hK4=>?_;refine oW H9 ?_;simp only[hr1,hw,go_sem];repeat(with_reducible first|refine oA ?_|refine And.intro (by first|exact F5|exact⟨hs3.le (by omega),by simp⟩) ?_)
  refine hK4 _ ?_;refine A3 ?_;refine A8 (ι:={ k:Nat // k≤(1+v1).toNat }) (fun k=>⟨[.c (.po 30 0),zz,zz,.c (.ow 9001),.c (.sc (.int .i64 (1+v1 - (k.1:Int)))),zz,zz,zz,zz,zz,zz,zz,zz,zz,zz,zz,zz,zz,zz,zz,zz,zz,zz,zz,zz,zz,zz,zz,zz,zz,zz,zz,zz],[(30,.box [.rd [] 5 (.int .u8) ((P3 A54 k.1 [] (u1,p1,q1)).2.1),.sc (.int .i64 ((P3 A54 k.1 [] (u1,p1,q1)).2.2.1)),.sc (.int .u64 ((P3 A54 k.1 [] (u1,p1,q1)).2.2.2))]),(9001,.tree 26 (.row 2 (.int .i64)) ((P3 A54 k.1 [] (u1,p1,q1)).1) none)]⟩) (fun k=>(1+v1).toNat - k.1) ⟨0,by omega⟩ ?_ ?_
  ·
   refine oK ?_;simp (maxSteps:=2000000)only[go_sem];all_goals((repeat' refine And.intro ?_ ?_)<;>first|rfl|omega|(simp;done)|(congr 1;done))
  rintro⟨k,hk⟩ K5 hL5
  rcases hit:P3 A54 k [] (u1,p1,q1) with⟨v3,u3,p3,q3⟩
  have hs3:=(Cost.it A7M k []).at hs1 (by omega) hit
  have hlk:v3.length=k:=by have:=B0z (k:=k) (s:=(u1,p1,q1)) (ts:=[]);rw[hit] at this;simpa using this
  refine oS fun _ hK6=>?_;refine oS fun _ hK7=>?_;refine oW H9 ?_;simp only[hit,go_sem];repeat(with_reducible first|refine oA ?_|refine And.intro (by first|exact F5|exact⟨hs3.le (by omega),by simp⟩) ?_)
  refine hK7 _ ?_;refine oC rfl ?_ ?_
  ·
   intro c0;refine A2 ?_;simp only[go_sem];refine hK6 _ ?_;refine oS fun _ hK8=>?_;refine A3 ?_;refine oS fun _ hK9=>?_;refine oW H9 ?_;simp only[go_sem];repeat(with_reducible first|refine oA ?_|refine And.intro (by first|exact F5|exact⟨hs3.le (by omega),by simp⟩) ?_)
   refine hK9 _ ?_;refine oS fun _ hK10=>?_;refine oS fun _ hK11=>?_;rcases hr4:H5 [2,4,8,4] (u3,p3,q3) with⟨v4,u4,p4,q4⟩
   obtain⟨hs4,hm4⟩:=J9 hs3 (by omega) (by simp) hr4
   have hv4:2≤v4∧v4≤8:=by simp at hm4;omega
   refine oW H9 ?_;simp only[hr4,go_sem];repeat(with_reducible first|refine oA ?_|refine And.intro (by first|exact F5|exact⟨hs3.le (by omega),by simp⟩) ?_)
   refine hK11 _ ?_;refine A3 ?_;refine A8 (ι:={ m:Nat // m≤v4.toNat }) (fun k'=>⟨[.c (.po 30 0),zz,zz,.c (.ow 9001),.c (.sc (.int .i64 (1+v1 - (k:Int)))),.c (.ow 9002),.c (.sc (.int .i64 (v4 - (k'.1:Int)))),zz,zz,zz,zz,zz,zz,zz,zz,zz,zz,zz,zz,zz,zz,zz,zz,zz,zz,zz,zz,zz,zz,zz,zz,zz,zz],[(30,.box [.rd [] 5 (.int .u8) ((P3 (I2 W7) k'.1 [] (u4,p4,q4)).2.1),.sc (.int .i64 ((P3 (I2 W7) k'.1 [] (u4,p4,q4)).2.2.1)),.sc (.int .u64 ((P3 (I2 W7) k'.1 [] (u4,p4,q4)).2.2.2))]),(9001,.tree 26 (.row 2 (.int .i64)) (v3) none),(9002,.row 2 (.int .i64) ((P3 (I2 W7) k'.1 [] (u4,p4,q4)).1) [])]⟩) (fun k'=>v4.toNat - k'.1) ⟨0,by omega⟩ ?_ ?_
   ·
    refine oK ?_;simp (maxSteps:=2000000)only[go_sem];all_goals((repeat' refine And.intro ?_ ?_)<;>first|rfl|omega|(simp;done)|(congr 1;done))
   rintro⟨m,hm⟩ K12 hL12
   rcases hiu:P3 (I2 W7) m [] (u4,p4,q4) with⟨v5,u5,p5,q5⟩
   have hs5:=(Cost.it (P0 V8) m []).at hs4 (by omega) hiu
   have hlm:v5.length=m:=by have:=a8 (m:=W7) (k:=m) (s:=(u4,p4,q4)) (xs:=[]);rw[hiu] at this;simpa using this
   refine oS fun _ hK13=>?_;refine oS fun _ hK14=>?_;refine oW H9 ?_;simp only[hiu,go_sem];repeat(with_reducible first|refine oA ?_|refine And.intro (by first|exact F5|exact⟨hs3.le (by omega),by simp⟩) ?_)
   refine hK14 _ ?_;refine oC rfl ?_ ?_
   ·
    intro c1;refine A2 ?_;simp only[go_sem];refine hK13 _ ?_;refine oS fun _ hK15=>?_;refine A3 ?_;rcases hr6:W7 (u5,p5,q5) with⟨v6,u6,p6,q6⟩
    have hs6:=(V8).at hs5 (by omega) hr6
    have hnu:(P3 (I2 W7) (m+1) [] (u4,p4,q4))=(v5++[v6],u6,p6,q6):=(X0 hiu).trans (S9 hr6)
    refine oW H9 ?_;simp (maxSteps:=2000000)only[hr6,go_sem];repeat(with_reducible first|refine oA ?_|refine And.intro (by first|exact F5|exact⟨hs3.le (by omega),by simp⟩) ?_)
    refine hK15 _ ?_;refine oW H9 ?_;simp only[go_sem];repeat(with_reducible first|refine oA ?_|refine And.intro (by first|exact F5|exact⟨hs3.le (by omega),by simp⟩) ?_)
    refine hL12 ⟨m+1,by omega⟩ _ (oK ?_) ?_
    ·
     simp (maxSteps:=2000000)only[go_sem];all_goals(try simp only[hnu])
     all_goals((repeat' refine And.intro ?_ ?_)<;>first|rfl|(rw[H4 (by omega)];omega)|(congr 1;done))
    ·
     first|(simp only[];omega)|omega|(simp;omega)
   intro c1;refine B6 ?_;simp only[go_sem];refine hK10 _ ?_;obtain rfl:m=v4.toNat:=by omega
   have hnx:(P3 A54 (k+1) [] (u1,p1,q1))=(v3++[v5],u5,p5,q5):=(X0 hit).trans (by simp only[A54,B9B,bnd,hr4,hiu])
   refine oW H9 ?_;simp (maxSteps:=2000000)only[List.nodup_cons,List.nodup_nil,List.not_mem_nil,not_false_eq_true,go_sem];repeat(with_reducible first|refine oA ?_|refine And.intro (by first|exact F5|exact⟨hs3.le (by omega),by simp⟩) ?_)
   refine hK8 _ ?_;refine oW H9 ?_;simp only[go_sem];repeat(with_reducible first|refine oA ?_|refine And.intro (by first|exact F5|exact⟨hs3.le (by omega),by simp⟩) ?_)
   refine hL5 ⟨k+1,by omega⟩ _ (oK ?_) ?_
   ·
    simp (maxSteps:=2000000)only[go_sem];all_goals(try simp only[hnx])
    all_goals((repeat' refine And.intro ?_ ?_)<;>first|rfl|(rw[H4 (by omega)];omega)|(congr 1;done))
   ·
    first|(simp only[];omega)|omega|(simp;omega)
  intro c0;obtain rfl:k=(1+v1).toNat:=by omega
  refine B6 ?_;simp only[go_sem];refine hK3 _ ?_;refine oS fun _ hK16=>?_;refine oW H9 ?_;simp only[go_sem];repeat(with_reducible first|refine oA ?_|refine And.intro (by first|exact F5|exact⟨hs3.le (by omega),by simp⟩) ?_)
  refine hK16 _ ?_;refine A0 ?_;simp only[hres,go_sem]
  first
   | exact oG
   | refine ⟨oG, ?_⟩
     simp only[A86,bnd,hr1,hit];try((repeat' refine And.intro ?_ ?_)<;>first|rfl|trivial|(congr 1;done))
def l4:G4:=fun f=>if f=69 then some (.g N9) else A4R f
theorem N3:B5 Tryz.prog l4:=A0M A3x (B0 Tryz.func69 rfl (by decide)) H9
attribute [go_sem] l4 N9
def s5:Con:=⟨[.val (.bool)],[⟨(.row 2 (.int .i64)),true⟩],fun _=>True,fun x=>l3 x.1⟩
theorem B0Q:C8 Tryz.prog 70 s5:=by
  refine A4 Tryz.func70 rfl ?_
  have hres:Tryz.f70.results.toList=[.tmp 2]:=rfl
  rintro⟨(li:Bool),_⟩ hc hL
  simp only[s5,go_sem] at hL
  simp only[s5,St.init,St.initG,Tryz.ntmps70,go_sem] 
  refine oS fun _ hK1=>?_;refine oW N3 ?_;simp only[go_sem];refine hK1 _ ?_;refine oS fun _ hK2=>?_;refine oS fun _ hK3=>?_;refine oW N3 ?_;simp only[go_sem];refine hK3 _ ?_;refine oC rfl ?_ ?_
  ·
   intro c0;refine oS fun _ hK4=>?_;refine oW N3 ?_;simp only[go_sem];repeat(with_reducible refine oA ?_)
   refine hK4 _ ?_;refine A0 ?_;simp only[hres,go_sem];first|exact oF|(refine⟨?_,oF⟩;subst c0;rfl)
  intro c0;refine A2 ?_;simp only[go_sem];refine hK2 _ ?_;refine oS fun _ hK5=>?_;refine oW N3 ?_;simp only[go_sem];repeat(with_reducible refine oA ?_)
  refine hK5 _ ?_;refine A0 ?_;simp only[hres,go_sem];first|exact oF|(refine⟨?_,oF⟩;subst c0;rfl)
def A0p:G4:=fun f=>if f=70 then some (.p s5) else l4 f
theorem A6:B5 Tryz.prog A0p:=F8 B0Q (B0 Tryz.func70 rfl (by decide)) N3
attribute [go_sem] A0p s5
end Go.Proofs.YtenjbehedcegdaaGreat
