/-
  Texts of this claim, joined (part 26). No condition beyond those of the theorems.
-/
import Derived.Test.YtflobmmbhaofbaaGreatQ09
import Derived.Test.YtflobmmbhaofbaaGreatQ22
import Derived.Test.YtflobmmbhaofbaaGreatQ25
namespace Go.Proofs.YtflobmmbhaofbaaGreat
open Go.RowKit
set_option linter.unusedSimpArgs false
set_option linter.unusedVariables false
set_option maxRecDepth 100000
set_option maxHeartbeats 8000000
def B15:F8:=fun f=>match A2t f with
 | some k=>some k
 | none=>m5 f
theorem A41:B8 Tryz.prog B15:=T3 H0 D3
attribute [go_sem] B15 T0
def A4r:Con:=⟨[.ptr (.prod (.int .i64) (.prod (.row 26 (.row 2 (.int .i64))) (.prod (.row 56 (.prod (.int .i64) (.prod (.int .i64) (.prod (.int .i64) (.row 2 (.int .i64)))))) (.row 2 (.int .i64))))),.val (.int .i64)],[⟨.bool,true⟩],fun x=>0≤x.2.1∧x.2.1 < x.1.2.2.1.length,fun x=>isC x.1 x.2.1⟩
theorem B8p:D4 Tryz.prog 103 A4r:=by
  refine A7 Tryz.func103 rfl ?_
  have hres:Tryz.f103.results.toList=[.tmp 4]:=rfl
  rintro⟨⟨(pi:Int),(ts:List (List Int)),(ns:List A4),(os:List Int)⟩,(nd:Int),_⟩ hc hL
  simp only[A4r,go_sem] at hL
  simp only[A4r,St.init,St.initG,Tryz.ntmps103,go_sem] 
  obtain⟨h0,h1⟩:=(show 0≤nd∧nd < ns.length from hc)
  rcases hx:E8 (pi,ts,ns,os) nd with⟨kd,ka,kb,fr⟩
  have hx':ns.getD nd.toNat ((0,0,0,[]):A4)=(kd,ka,kb,fr):=hx
  refine oS fun _ hK1=>?_;refine oW A41 ?_;simp only[go_sem];refine hK1 _ ?_;refine oS fun _ hK2=>?_;refine oW A41 ?_;simp (maxSteps:=2000000)only[hx',go_sem];repeat(with_reducible first|refine oA ?_|refine And.intro (by first|exact⟨h0,h1⟩|omega) ?_)
  refine hK2 _ ?_;refine A2 ?_;simp only[hres,go_sem]
  first
   | exact oF
   | refine ⟨?_, oF⟩
     unfold isC;rw[hx];first|done|rfl
def B2O:F8:=fun f=>if f=103 then some (.p A4r) else B15 f
theorem A3x:B8 Tryz.prog B2O:=F9 B8p (B6 Tryz.func103 rfl (by decide)) A41
attribute [go_sem] B2O A4r
def A1K:Con:=⟨[.ptr (.prod (.int .i64) (.prod (.row 26 (.row 2 (.int .i64))) (.prod (.row 56 (.prod (.int .i64) (.prod (.int .i64) (.prod (.int .i64) (.row 2 (.int .i64)))))) (.row 2 (.int .i64))))),.val (.int .i64)],[⟨.bool,true⟩],fun x=>0≤x.2.1∧x.2.1 < x.1.2.2.1.length,fun x=>B7u x.1 x.2.1⟩
theorem B50:D4 Tryz.prog 122 A1K:=by
  refine A7 Tryz.func122 rfl ?_
  have hres:Tryz.f122.results.toList=[.tmp 4]:=rfl
  rintro⟨⟨(pi:Int),(ts:List (List Int)),(ns:List A4),(os:List Int)⟩,(nd:Int),_⟩ hc hL
  simp only[A1K,go_sem] at hL
  simp only[A1K,St.init,St.initG,Tryz.ntmps122,go_sem] 
  obtain⟨h0,h1⟩:=(show 0≤nd∧nd < ns.length from hc)
  rcases hx:E8 (pi,ts,ns,os) nd with⟨kd,ka,kb,fr⟩
  have hx':ns.getD nd.toNat ((0,0,0,[]):A4)=(kd,ka,kb,fr):=hx
  refine oS fun _ hK1=>?_;refine oW A3x ?_;simp only[go_sem];refine hK1 _ ?_;refine oS fun _ hK2=>?_;refine oW A3x ?_;simp (maxSteps:=2000000)only[hx',go_sem];repeat' (with_reducible first|refine oA ?_|refine And.intro (by first|exact⟨h0,h1⟩|omega) ?_|refine oT (fun g1=>?_) (fun g1=>?_)|refine oE (fun g1=>?_) (fun g1=>?_))
  all_goals
   refine hK2 _ ?_;refine A2 ?_;simp only[hres,go_sem]
   first
    | exact oF
    | refine ⟨?_, oF⟩
      clear hK1 hK2;unfold B7u;rw[hx];first|done|rfl|(simp_all;done)|(cases hi:isC (pi,ts,ns,os) nd<;>simp_all;done)
def A5u:F8:=fun f=>if f=122 then some (.p A1K) else B2O f
theorem L1:B8 Tryz.prog A5u:=F9 B50 (B6 Tryz.func122 rfl (by decide)) A3x
attribute [go_sem] A5u A1K
def A0c:Con:=⟨[.ptr (.prod (.int .i64) (.prod (.row 26 (.row 2 (.int .i64))) (.prod (.row 56 (.prod (.int .i64) (.prod (.int .i64) (.prod (.int .i64) (.row 2 (.int .i64)))))) (.row 2 (.int .i64))))),.val (.int .i64)],[⟨.bool,true⟩],fun x=>C5 x.1=true∧0≤x.2.1∧x.2.1 < x.1.2.2.1.length,fun x=>A55 x.1 x.2.1⟩
theorem B2m:D4 Tryz.prog 119 A0c:=by
  refine A7 Tryz.func119 rfl ?_
  have hres:Tryz.f119.results.toList=[.tmp 4]:=rfl
  rintro⟨⟨(pi:Int),(ts:List (List Int)),(ns:List A4),(os:List Int)⟩,(nd:Int),_⟩ hc hL
  simp only[A0c,go_sem] at hL
  simp only[A0c,St.init,St.initG,Tryz.ntmps119,go_sem] 
  obtain⟨hF,h0,h1⟩:=(show C5 (pi,ts,ns,os)=true∧0≤nd∧nd < ns.length from hc)
  rcases hx:E8 (pi,ts,ns,os) nd with⟨kd,ka,kb,fr⟩
  have hx':ns.getD nd.toNat ((0,0,0,[]):A4)=(kd,ka,kb,fr):=hx
  have hfr:=fun f h=>O0 (p:=(pi,ts,ns,os)) hF (i:=nd) ⟨h0,h1⟩ (f:=f) h
  have hab:=r6 (p:=(pi,ts,ns,os)) hF (i:=nd) ⟨h0,h1⟩
  have hl3:=((L3 hF).2 (E8 (pi,ts,ns,os) nd) (B9 (show nd.toNat < ns.length by omega))).2.1
  rw[hx] at hfr hab hl3
  simp only at hfr hab hl3
  obtain⟨hA,h6,h2,h1',h3⟩:=hab;have hf0:0 < fr.length→0≤fr.getD 0 0∧fr.getD 0 0 < ns.length:=fun h=>hfr _ (B9 h)
  have hf1:1 < fr.length→0≤fr.getD 1 0∧fr.getD 1 0 < ns.length:=fun h=>hfr _ (B9 h)
  refine oS fun _ hK1=>?_;refine oW L1 ?_;simp only[go_sem];refine hK1 _ ?_;refine oS fun _ hK2=>?_;refine oW L1 ?_;simp (maxSteps:=2000000)only[hx',go_sem];repeat(with_reducible first|refine oA ?_|refine And.intro (by first|exact⟨h0,h1⟩|omega) ?_)
  refine hK2 _ ?_;refine oS fun _ hK3=>?_;refine oW L1 ?_;simp only[go_sem];repeat(with_reducible refine oA ?_)
  refine hK3 _ ?_;refine oS fun _ hK4=>?_;refine oS fun _ hK5=>?_;refine oW L1 ?_;simp (maxSteps:=2000000)only[hx',go_sem];repeat(with_reducible refine oA ?_)
  refine hK5 _ ?_;refine oC rfl ?_ ?_
  ·
   intro c0;refine oS fun _ hK6=>?_;refine oW L1 ?_;simp only[go_sem];refine hK6 _ ?_;refine A2 ?_;simp only[hres,go_sem]
   first
    | exact oF
    | refine ⟨?_, oF⟩
      have hk:A9d.contains kd=false:=by first|assumption|(clear hK1 hK2 hK3 hK4 hK5 hK6;simp_all [A9d];done)
      unfold A55;rw[hx,hk];first|done|rfl
  intro c0;refine A3 ?_;simp only[go_sem];refine hK4 _ ?_;refine oS fun _ hK7=>?_;refine oS fun _ hK8=>?_;refine oW L1 ?_;simp only[go_sem];refine hK8 _ ?_;refine A5 ?_;refine B4 (ι:={ k:Nat // k≤fr.length∧(fr.take k).all (isC (pi,ts,ns,os))=true }) (fun k=>⟨[.c (.pt [] ((.prod (.int .i64) (.prod (.row 26 (.row 2 (.int .i64))) (.prod (.row 56 (.prod (.int .i64) (.prod (.int .i64) (.prod (.int .i64) (.row 2 (.int .i64)))))) (.row 2 (.int .i64)))))) (pi,ts,ns,os) 0),zz,zz,zz,zz,.c (.pt [] ((.prod (.int .i64) (.prod (.int .i64) (.prod (.int .i64) (.row 2 (.int .i64)))))) (kd,ka,kb,fr) 0),zz,.c (.sc (.int .i64 (k.1))),zz,zz,zz,zz,zz,zz,zz,zz,zz,zz,zz,zz,zz,zz,zz,zz,zz,zz,zz,zz,zz,zz,zz,zz,zz,zz,zz,zz,zz,zz,zz,zz,zz],[]⟩) (fun k=>fr.length - k.1) ⟨0,by simp⟩ ?_ ?_
  ·
   refine oK ?_;simp (maxSteps:=2000000)only[go_sem];all_goals(first|rfl|((repeat' refine And.intro ?_ ?_)<;>first|rfl|simp))
  rintro⟨k,hk,hp⟩ K9 hL9
  refine oS fun _ hK10=>?_;refine oS fun _ hK11=>?_;refine oW L1 ?_;simp (maxSteps:=2000000)only[go_sem];repeat(with_reducible refine oA ?_)
  refine hK11 _ ?_;refine oC rfl ?_ ?_
  ·
   intro c1;have hkl:k < fr.length:=by have h:(k:Int) < fr.length:=c1;omega
   refine A3 ?_;simp only[go_sem];refine hK10 _ ?_;refine oS fun _ hK12=>?_;refine A5 ?_;refine oS fun _ hK13=>?_;refine oW L1 ?_;simp (maxSteps:=2000000)only[go_sem];repeat(with_reducible first|refine oA ?_|refine And.intro (by first|omega|exact hfr _ (B9 (by omega))|exact⟨(hfr _ (B9 (by omega))).1,(hfr _ (B9 (by omega))).2⟩) ?_)
   refine hK13 _ ?_;refine oC rfl ?_ ?_
   ·
    intro c2;refine oS fun _ hK14=>?_;refine oW L1 ?_;simp only[go_sem];refine hK14 _ ?_;refine A2 ?_;simp only[hres,go_sem]
    first
     | exact oF
     | refine ⟨?_, oF⟩
       have hk:A9d.contains kd=true:=by first|assumption|(clear hK1 hK2 hK3 hK4 hK5 hK7 hK8 hL9 hK10 hK11 hK12 hK13 hK14;simp_all [A9d];done)
       unfold A55;rw[hx,hk,Bool.true_and];show false=fr.all (isC (pi,ts,ns,os))
       exact(W7 (k:=k) (d:=0) (by omega) (by first|assumption|(clear hp;clear hK1 hK2 hK3 hK4 hK5 hK7 hK8 hL9 hK10 hK11 hK12 hK13 hK14;simp_all))).symm
   intro c2;refine A3 ?_;simp only[go_sem];refine hK12 _ ?_;refine oW L1 ?_;simp only[go_sem];refine hL9 ⟨k+1,by omega,Q8 (d:=0) (by omega) hp (by first|assumption|(clear hK1 hK2 hK3 hK4 hK5 hK7 hK8 hL9 hK10 hK11 hK12 hK13;simp_all))⟩ _ (oK ?_) ?_
   ·
    simp (maxSteps:=2000000)only[go_sem];first|rfl|exact wk (by omega)
   ·
    first|(simp only[];omega)|omega|(simp;omega)
  intro c1;have hkl:fr.length≤k:=by first|(have h:¬(k:Int) < fr.length:=c1;omega)|(have h:(fr.length:Int)≤k:=c1;omega)
  refine C2 ?_;simp only[go_sem];refine hK7 _ ?_;refine oS fun _ hK15=>?_;refine oW L1 ?_;simp only[go_sem];refine hK15 _ ?_;refine A2 ?_;simp only[hres,go_sem]
  first
   | exact oF
   | refine ⟨?_, oF⟩
     have hk:A9d.contains kd=true:=by first|assumption|(clear hK1 hK2 hK3 hK4 hK5 hK7 hK8 hL9 hK10 hK11 hK15;simp_all [A9d];done)
     unfold A55;rw[hx,hk,Bool.true_and];show true=fr.all (isC (pi,ts,ns,os))
     exact(P2 hp (by omega)).symm
def A4H:F8:=fun f=>if f=119 then some (.p A0c) else A5u f
theorem F3:B8 Tryz.prog A4H:=F9 B2m (B6 Tryz.func119 rfl (by decide)) L1
attribute [go_sem] A4H A0c
def b8:Con:=⟨[.ptr (.prod (.int .i64) (.prod (.row 26 (.row 2 (.int .i64))) (.prod (.row 56 (.prod (.int .i64) (.prod (.int .i64) (.prod (.int .i64) (.row 2 (.int .i64)))))) (.row 2 (.int .i64))))),.val (.int .i64)],[⟨.bool,true⟩],fun x=>C5 x.1=true∧0≤x.2.1∧x.2.1 < x.1.2.2.1.length,fun x=>A4x x.1 x.2.1⟩
theorem A9Y:D4 Tryz.prog 120 b8:=by
  refine A7 Tryz.func120 rfl ?_
  have hres:Tryz.f120.results.toList=[.tmp 4]:=rfl
  rintro⟨⟨(pi:Int),(ts:List (List Int)),(ns:List A4),(os:List Int)⟩,(nd:Int),_⟩ hc hL
  simp only[b8,go_sem] at hL
  simp only[b8,St.init,St.initG,Tryz.ntmps120,go_sem] 
  obtain⟨hF,h0,h1⟩:=(show C5 (pi,ts,ns,os)=true∧0≤nd∧nd < ns.length from hc)
  rcases hx:E8 (pi,ts,ns,os) nd with⟨kd,ka,kb,fr⟩
  have hx':ns.getD nd.toNat ((0,0,0,[]):A4)=(kd,ka,kb,fr):=hx
  have hfr:=fun f h=>O0 (p:=(pi,ts,ns,os)) hF (i:=nd) ⟨h0,h1⟩ (f:=f) h
  have hab:=r6 (p:=(pi,ts,ns,os)) hF (i:=nd) ⟨h0,h1⟩
  have hl3:=((L3 hF).2 (E8 (pi,ts,ns,os) nd) (B9 (show nd.toNat < ns.length by omega))).2.1
  rw[hx] at hfr hab hl3
  simp only at hfr hab hl3
  obtain⟨hA,h6,h2,h1',h3⟩:=hab;have hf0:0 < fr.length→0≤fr.getD 0 0∧fr.getD 0 0 < ns.length:=fun h=>hfr _ (B9 h)
  have hf1:1 < fr.length→0≤fr.getD 1 0∧fr.getD 1 0 < ns.length:=fun h=>hfr _ (B9 h)
  refine oS fun _ hK1=>?_;refine oW F3 ?_;simp only[go_sem];refine hK1 _ ?_;refine oS fun _ hK2=>?_;refine oW F3 ?_;simp (maxSteps:=2000000)only[hx',go_sem];repeat(with_reducible first|refine oA ?_|refine And.intro (by first|exact⟨h0,h1⟩|omega) ?_)
  refine hK2 _ ?_;refine oS fun _ hK3=>?_;refine oS fun _ hK4=>?_;refine oW F3 ?_;simp only[go_sem];repeat(with_reducible refine oA ?_)
  refine hK4 _ ?_;refine A5 ?_;refine oS fun _ hK5=>?_;refine oS fun _ hK6=>?_;refine oW F3 ?_;simp only[go_sem];refine hK6 _ ?_;refine oC rfl ?_ ?_
  ·
   intro c0;refine A3 ?_;simp only[go_sem];refine hK5 _ ?_;refine oC rfl ?_ ?_
   ·
    intro c1;refine oS fun _ hK7=>?_;refine oW F3 ?_;simp (maxSteps:=2000000)only[go_sem];repeat(with_reducible refine oA ?_)
    refine hK7 _ ?_;refine A2 ?_;simp only[hres,go_sem]
    first
     | exact oF
     | refine ⟨?_, oF⟩
       clear hK1 hK2 hK3 hK4 hK5 hK6 hK7;clear hc;unfold A4x P4;rw[hx];first|(simp only[*,decide_true,decide_false,Bool.true_or,Bool.or_true,Bool.or_false,Bool.false_or,Bool.true_and,Bool.and_true,Bool.false_and,Bool.and_false,Bool.not_true,Bool.not_false];first|done|rfl)|rfl|(exfalso;omega)
   intro c1
   (exfalso;omega)
  intro c0;refine oW F3 ?_;simp only[go_sem];refine hK5 _ ?_;refine oC rfl ?_ ?_
  ·
   intro c1;refine oS fun _ hK8=>?_;refine oW F3 ?_;simp (maxSteps:=2000000)only[go_sem];repeat(with_reducible refine oA ?_)
   refine hK8 _ ?_;refine A2 ?_;simp only[hres,go_sem]
   first
    | exact oF
    | refine ⟨?_, oF⟩
      clear hK1 hK2 hK3 hK4 hK5 hK6 hK8;clear hc;unfold A4x P4;rw[hx];first|(simp only[*,decide_true,decide_false,Bool.true_or,Bool.or_true,Bool.or_false,Bool.false_or,Bool.true_and,Bool.and_true,Bool.false_and,Bool.and_false,Bool.not_true,Bool.not_false];first|done|rfl)|rfl|(exfalso;omega)
  intro c1;refine oS fun _ hK9=>?_;refine oW F3 ?_;simp only[go_sem];refine hK9 _ ?_;refine oC rfl ?_ ?_
  ·
   intro c2;refine oS fun _ hK10=>?_
   refine oR F3
     [[],[0],[0,1],[0,1,2],[0,1,2,3],[0,1,2,3,4],[],[6],[6,7],[6,7,8],[6,7,8,9],[6,7,8,9,10],[0,1,2,3,4,5,6,7,8,9,10,11],[0,1,2,3,4,5,6,7,8,9,10,11,12]]
     [[],[],[],[],[],[],[],[],[],[],[],[],[],[]]
     [[],[],[],[],[],[],[],[],[],[],[],[],[],[]] (by kernel_rfl) (by kernel_rfl) (B7 (acc:=[]) ?_)
   simp (maxSteps:=2000000)only[go_sem];repeat(with_reducible first|refine oD ?_|refine And.intro (by first|omega) ?_)
   refine hK10 _ ?_;refine A2 ?_;simp only[hres,go_sem]
   first
    | exact oF
    | refine ⟨?_, oF⟩
      clear hK1 hK2 hK3 hK4 hK5 hK6 hK9 hK10;clear hc;unfold A4x P4;rw[hx];first|(simp only[*,decide_true,decide_false,Bool.true_or,Bool.or_true,Bool.or_false,Bool.false_or,Bool.true_and,Bool.and_true,Bool.false_and,Bool.and_false,Bool.not_true,Bool.not_false];first|done|rfl)|rfl|(exfalso;omega)
  intro c2;refine oS fun _ hK11=>?_;refine oS fun _ hK12=>?_;refine oW F3 ?_;simp only[go_sem];refine hK12 _ ?_;refine oC rfl ?_ ?_
  ·
   intro c3;refine A3 ?_;simp only[go_sem];refine hK11 _ ?_;refine oC rfl ?_ ?_
   ·
    intro c6;refine oS fun _ hK13=>?_;refine oW F3 ?_;simp (maxSteps:=2000000)only[go_sem];repeat(with_reducible first|refine oA ?_|refine And.intro (by first|omega|exact hf0 (by omega)|exact hf1 (by omega)|exact⟨(hf0 (by omega)).1,(hf0 (by omega)).2⟩) ?_)
    refine hK13 _ ?_;refine A2 ?_;simp only[hres,go_sem]
    first
     | exact oF
     | refine ⟨?_, oF⟩
       clear hK1 hK2 hK3 hK4 hK5 hK6 hK9 hK11 hK12 hK13;clear hc;unfold A4x P4;rw[hx];first|(simp only[*,decide_true,decide_false,Bool.true_or,Bool.or_true,Bool.or_false,Bool.false_or,Bool.true_and,Bool.and_true,Bool.false_and,Bool.and_false,Bool.not_true,Bool.not_false];first|done|rfl)|rfl|(exfalso;omega)
   intro c6
   (exfalso;omega)
  intro c3;refine oS fun _ hK14=>?_;refine oW F3 ?_;simp only[go_sem];refine hK14 _ ?_;refine oC rfl ?_ ?_
  ·
   intro c4;refine A3 ?_;simp only[go_sem];refine hK11 _ ?_;refine oC rfl ?_ ?_
   ·
    intro c6;refine oS fun _ hK15=>?_;refine oW F3 ?_;simp (maxSteps:=2000000)only[go_sem];repeat(with_reducible first|refine oA ?_|refine And.intro (by first|omega|exact hf0 (by omega)|exact hf1 (by omega)|exact⟨(hf0 (by omega)).1,(hf0 (by omega)).2⟩) ?_)
    refine hK15 _ ?_;refine A2 ?_;simp only[hres,go_sem]
    first
     | exact oF
     | refine ⟨?_, oF⟩
       clear hK1 hK2 hK3 hK4 hK5 hK6 hK9 hK11 hK12 hK14 hK15;clear hc;unfold A4x P4;rw[hx];first|(simp only[*,decide_true,decide_false,Bool.true_or,Bool.or_true,Bool.or_false,Bool.false_or,Bool.true_and,Bool.and_true,Bool.false_and,Bool.and_false,Bool.not_true,Bool.not_false];first|done|rfl)|rfl|(exfalso;omega)
   intro c6
   (exfalso;omega)
  intro c4;refine oS fun _ hK16=>?_;refine oW F3 ?_;simp only[go_sem];refine hK16 _ ?_;refine oC rfl ?_ ?_
  ·
   intro c5;refine A3 ?_;simp only[go_sem];refine hK11 _ ?_;refine oC rfl ?_ ?_
   ·
    intro c6;refine oS fun _ hK17=>?_;refine oW F3 ?_;simp (maxSteps:=2000000)only[go_sem];repeat(with_reducible first|refine oA ?_|refine And.intro (by first|omega|exact hf0 (by omega)|exact hf1 (by omega)|exact⟨(hf0 (by omega)).1,(hf0 (by omega)).2⟩) ?_)
    refine hK17 _ ?_;refine A2 ?_;simp only[hres,go_sem]
    first
     | exact oF
     | refine ⟨?_, oF⟩
       clear hK1 hK2 hK3 hK4 hK5 hK6 hK9 hK11 hK12 hK14 hK16 hK17;clear hc;unfold A4x P4;rw[hx];first|(simp only[*,decide_true,decide_false,Bool.true_or,Bool.or_true,Bool.or_false,Bool.false_or,Bool.true_and,Bool.and_true,Bool.false_and,Bool.and_false,Bool.not_true,Bool.not_false];first|done|rfl)|rfl|(exfalso;omega)
   intro c6
   (exfalso;omega)
  intro c5;refine oW F3 ?_;simp only[go_sem];refine hK11 _ ?_;refine oC rfl ?_ ?_
  ·
   intro c6;refine oS fun _ hK18=>?_;refine oW F3 ?_;simp (maxSteps:=2000000)only[go_sem];repeat(with_reducible first|refine oA ?_|refine And.intro (by first|omega|exact hf0 (by omega)|exact hf1 (by omega)|exact⟨(hf0 (by omega)).1,(hf0 (by omega)).2⟩) ?_)
   refine hK18 _ ?_;refine A2 ?_;simp only[hres,go_sem]
   first
    | exact oF
    | refine ⟨?_, oF⟩
      clear hK1 hK2 hK3 hK4 hK5 hK6 hK9 hK11 hK12 hK14 hK16 hK18;clear hc;unfold A4x P4;rw[hx];first|(simp only[*,decide_true,decide_false,Bool.true_or,Bool.or_true,Bool.or_false,Bool.false_or,Bool.true_and,Bool.and_true,Bool.false_and,Bool.and_false,Bool.not_true,Bool.not_false];first|done|rfl)|rfl|(exfalso;omega)
  intro c6;refine A3 ?_;simp only[go_sem];refine hK3 _ ?_;refine oS fun _ hK19=>?_;refine oW F3 ?_;simp only[go_sem];refine hK19 _ ?_;refine A2 ?_;simp only[hres,go_sem]
  first
   | exact oF
   | refine ⟨?_, oF⟩
     clear hK1 hK2 hK3 hK4 hK5 hK6 hK9 hK11 hK12 hK14 hK16 hK19;clear hc;unfold A4x P4;rw[hx];first|(simp only[*,decide_true,decide_false,Bool.true_or,Bool.or_true,Bool.or_false,Bool.false_or,Bool.true_and,Bool.and_true,Bool.false_and,Bool.and_false,Bool.not_true,Bool.not_false];first|done|rfl)|rfl|(exfalso;omega)
def A29:F8:=fun f=>if f=120 then some (.p b8) else A4H f
theorem L0:B8 Tryz.prog A29:=F9 A9Y (B6 Tryz.func120 rfl (by decide)) F3
attribute [go_sem] A29 b8
def s9:Con:=⟨[.ptr (.prod (.int .i64) (.prod (.row 26 (.row 2 (.int .i64))) (.prod (.row 56 (.prod (.int .i64) (.prod (.int .i64) (.prod (.int .i64) (.row 2 (.int .i64)))))) (.row 2 (.int .i64))))),.ptr (.prod (.int .i64) (.prod (.int .i64) (.prod (.int .i64) (.row 2 (.int .i64)))))],[⟨.int .i64,true⟩],fun x=>x.2.1.2.2.2.length=3∧∀f∈x.2.1.2.2.2,0≤f∧f < x.1.2.2.1.length,fun x=>B5o x.1 x.2.1⟩
theorem B0o:D4 Tryz.prog 123 s9:=by
  refine A7 Tryz.func123 rfl ?_
  have hres:Tryz.f123.results.toList=[.tmp 4]:=rfl
  rintro⟨⟨(pi:Int),(ts:List (List Int)),(ns:List A4),(os:List Int)⟩,⟨(kd:Int),(ka:Int),(kb:Int),(fr:List Int)⟩,_⟩ hc hL
  simp only[s9,go_sem] at hL
  simp only[s9,St.init,St.initG,Tryz.ntmps123,go_sem] 
  obtain⟨hl3,hfr⟩:=(show fr.length=3∧∀f∈fr,0≤f∧f < ns.length from hc)
  obtain⟨q0,q1⟩:=hfr _ (B9 (d:=(0:Int)) (i:=0) (l:=fr) (by omega))
  rcases hy:E8 (pi,ts,ns,os) (fr.getD 0 0) with⟨yk,ya,yb,yf⟩
  have hy':ns.getD (fr.getD 0 0).toNat ((0,0,0,[]):A4)=(yk,ya,yb,yf):=hy
  refine oS fun _ hK1=>?_;refine oW L0 ?_;simp only[go_sem];refine hK1 _ ?_;refine oS fun _ hK2=>?_;refine oS fun _ hK3=>?_;refine oW L0 ?_;simp (maxSteps:=2000000)only[go_sem];repeat(with_reducible first|refine oA ?_|refine And.intro (by first|omega|exact⟨q0,q1⟩) ?_)
  refine hK3 _ ?_;refine oC rfl ?_ ?_
  ·
   intro c0;refine oS fun _ hK4=>?_;refine oS fun _ hK5=>?_
   refine oR L0
     [[],[0],[0,1],[0,1,2],[],[4],[4,5],[4,5,6],[4,5,6,7],[4,5,6,7,8],[0,1,2,3,4,5,6,7,8,9],[0,1,2,3,4,5,6,7,8,9,10],[0,1,2,3,4,5,6,7,8,9,10,11],[0,1,2,3,4,5,6,7,8,9,10,11,12]]
     [[],[],[],[],[],[],[],[],[],[],[],[],[],[]]
     [[],[],[],[],[],[],[],[],[],[],[],[],[],[]] (by kernel_rfl) (by kernel_rfl) (B7 (acc:=[]) ?_)
   simp (maxSteps:=2000000)only[hy',go_sem];repeat(with_reducible first|refine oD ?_|refine And.intro (by first|omega|exact⟨q0,q1⟩) ?_)
   refine hK5 _ ?_;refine oC rfl ?_ ?_
   ·
    intro c1;refine oS fun _ hK6=>?_;refine oW L0 ?_;simp (maxSteps:=2000000)only[go_sem];repeat(with_reducible first|refine oA ?_|refine And.intro (by first|omega) ?_)
    refine hK6 _ ?_;refine A2 ?_;simp only[hres,go_sem]
    first
     | exact oF
     | refine ⟨?_, oF⟩
       clear hK1 hK2 hK3 hK4 hK5 hK6;clear hc;unfold B5o P4;simp only[hy];first|(simp only[*,decide_true,decide_false,Bool.true_or,Bool.or_true,Bool.or_false,Bool.false_or,Bool.true_and,Bool.and_true,Bool.false_and,Bool.and_false,Bool.not_true,Bool.not_false];first|done|rfl)|rfl|(exfalso;omega)
   intro c1;have hya:decide (0≤ya)=false:=decide_eq_false (by omega)
   refine A3 ?_;simp only[go_sem];refine hK4 _ ?_;refine oS fun _ hK7=>?_;refine oW L0 ?_;simp (maxSteps:=2000000)only[go_sem];repeat(with_reducible first|refine oA ?_|refine And.intro (by first|omega) ?_)
   refine hK7 _ ?_;refine A2 ?_;simp only[hres,go_sem]
   first
    | exact oF
    | refine ⟨?_, oF⟩
      clear hK1 hK2 hK3 hK4 hK5 hK7;clear hc;unfold B5o P4;simp only[hy];first|(simp only[*,decide_true,decide_false,Bool.true_or,Bool.or_true,Bool.or_false,Bool.false_or,Bool.true_and,Bool.and_true,Bool.false_and,Bool.and_false,Bool.not_true,Bool.not_false];first|done|rfl)|rfl|(exfalso;omega)
  intro c0;refine A3 ?_;simp only[go_sem];refine hK2 _ ?_;refine oS fun _ hK8=>?_;refine oS fun _ hK9=>?_
  refine oR L0
    [[],[0],[0,1],[0,1,2],[0,1,2,3],[0,1,2,3,4],[],[6],[6,7],[6,7,8],[6,7,8,9],[6,7,8,9,10],[0,1,2,3,4,5,6,7,8,9,10,11]]
    [[],[],[],[],[],[],[],[],[],[],[],[],[]]
    [[],[],[],[],[],[],[],[],[],[],[],[],[]] (by kernel_rfl) (by kernel_rfl) (B7 (acc:=[]) ?_)
  simp (maxSteps:=2000000)only[go_sem];repeat(with_reducible first|refine oD ?_|refine And.intro (by first|omega) ?_)
  refine hK9 _ ?_;refine oC rfl ?_ ?_
  ·
   intro c2;refine oS fun _ hK10=>?_;refine oW L0 ?_;simp (maxSteps:=2000000)only[go_sem];repeat(with_reducible first|refine oA ?_|refine And.intro (by first|omega) ?_)
   refine hK10 _ ?_;refine A2 ?_;simp only[hres,go_sem]
   first
    | exact oF
    | refine ⟨?_, oF⟩
      clear hK1 hK2 hK3 hK8 hK9 hK10;clear hc;unfold B5o P4;simp only[hy];first|(simp only[*,decide_true,decide_false,Bool.true_or,Bool.or_true,Bool.or_false,Bool.false_or,Bool.true_and,Bool.and_true,Bool.false_and,Bool.and_false,Bool.not_true,Bool.not_false];first|done|rfl)|rfl|(exfalso;omega)
  intro c2;refine A3 ?_;simp only[go_sem];refine hK8 _ ?_;refine oS fun _ hK11=>?_;refine oW L0 ?_;simp only[go_sem];refine hK11 _ ?_;refine A2 ?_;simp only[hres,go_sem]
  first
   | exact oF
   | refine ⟨?_, oF⟩
     clear hK1 hK2 hK3 hK8 hK9 hK11;clear hc;unfold B5o P4;simp only[hy];first|(simp only[*,decide_true,decide_false,Bool.true_or,Bool.or_true,Bool.or_false,Bool.false_or,Bool.true_and,Bool.and_true,Bool.false_and,Bool.and_false,Bool.not_true,Bool.not_false];first|done|rfl)|rfl|(exfalso;omega)
def A2Y:F8:=fun f=>if f=123 then some (.p s9) else A29 f
theorem C9:B8 Tryz.prog A2Y:=F9 B0o (B6 Tryz.func123 rfl (by decide)) L0
attribute [go_sem] A2Y s9
def A1J:Con:=⟨[.ptr (.prod (.int .i64) (.prod (.row 26 (.row 2 (.int .i64))) (.prod (.row 56 (.prod (.int .i64) (.prod (.int .i64) (.prod (.int .i64) (.row 2 (.int .i64)))))) (.row 2 (.int .i64))))),.val (.int .i64)],[⟨.int .i64,true⟩],fun x=>C5 x.1=true∧0≤x.2.1∧x.2.1 < x.1.2.2.1.length,fun x=>r4 x.1 x.2.1⟩
theorem B53:D4 Tryz.prog 102 A1J:=by
  refine A7 Tryz.func102 rfl ?_
  have hres:Tryz.f102.results.toList=[.tmp 4]:=rfl
  rintro⟨⟨(pi:Int),(ts:List (List Int)),(ns:List A4),(os:List Int)⟩,(nd:Int),_⟩ hc hL
  simp only[A1J,go_sem] at hL
  simp only[A1J,St.init,St.initG,Tryz.ntmps102,go_sem] 
  obtain⟨hF,h0,h1⟩:=(show C5 (pi,ts,ns,os)=true∧0≤nd∧nd < ns.length from hc)
  rcases hx:E8 (pi,ts,ns,os) nd with⟨kd,ka,kb,fr⟩
  have hx':ns.getD nd.toNat ((0,0,0,[]):A4)=(kd,ka,kb,fr):=hx
  have hfr:=fun f h=>O0 (p:=(pi,ts,ns,os)) hF (i:=nd) ⟨h0,h1⟩ (f:=f) h
  have hab:=r6 (p:=(pi,ts,ns,os)) hF (i:=nd) ⟨h0,h1⟩
  have hl3:=((L3 hF).2 (E8 (pi,ts,ns,os) nd) (B9 (show nd.toNat < ns.length by omega))).2.1
  rw[hx] at hfr hab hl3
  simp only at hfr hab hl3
  obtain⟨hA,h6,h2,h1',h3⟩:=hab;have hf0:0 < fr.length→0≤fr.getD 0 0∧fr.getD 0 0 < ns.length:=fun h=>hfr _ (B9 h)
  have hf1:1 < fr.length→0≤fr.getD 1 0∧fr.getD 1 0 < ns.length:=fun h=>hfr _ (B9 h)
  have hsl:kd=15→fr.length=3∧∀f∈fr,0≤f∧f < ns.length:=fun h=>⟨h3 h,hfr⟩
  rcases hy:E8 (pi,ts,ns,os) (fr.getD 1 0) with⟨yk,ya,yb,yf⟩
  have hy':ns.getD (fr.getD 1 0).toNat ((0,0,0,[]):A4)=(yk,ya,yb,yf):=hy
  refine oS fun _ hK1=>?_;refine oW C9 ?_;simp only[go_sem];refine hK1 _ ?_;refine oS fun _ hK2=>?_;refine oW C9 ?_;simp (maxSteps:=2000000)only[hx',go_sem];repeat(with_reducible first|refine oA ?_|refine And.intro (by first|exact⟨h0,h1⟩|omega) ?_)
  refine hK2 _ ?_;refine oS fun _ hK3=>?_;refine oS fun _ hK4=>?_;refine oW C9 ?_;simp only[go_sem];repeat(with_reducible refine oA ?_)
  refine hK4 _ ?_;refine A5 ?_;refine oS fun _ hK5=>?_;refine oW C9 ?_;simp only[go_sem];refine hK5 _ ?_;refine oC rfl ?_ ?_
  ·
   intro c0;refine oS fun _ hK6=>?_;refine oW C9 ?_;simp (maxSteps:=2000000)only[go_sem];repeat(with_reducible first|refine oA ?_|refine And.intro (by first|omega|omega|exact hf0 (by omega)|exact hf1 (by omega)|exact⟨(hf0 (by omega)).1,(hf0 (by omega)).2⟩) ?_)
   refine hK6 _ ?_;refine oC rfl ?_ ?_
   ·
    intro c1;refine oS fun _ hK7=>?_;refine oW C9 ?_;simp (maxSteps:=2000000)only[go_sem];repeat(with_reducible first|refine oA ?_|refine And.intro (by first|omega|omega|exact hf0 (by omega)|exact hf1 (by omega)|exact⟨(hf0 (by omega)).1,(hf0 (by omega)).2⟩) ?_)
    refine hK7 _ ?_;refine A2 ?_;simp only[hres,go_sem]
    first
     | exact oF
     | refine ⟨?_, oF⟩
       clear hK1 hK2 hK3 hK4 hK5 hK6 hK7;clear hc;unfold r4 Y3 P4;simp only[hx,hy];first|(simp only[*,decide_true,decide_false,Bool.true_or,Bool.or_true,Bool.or_false,Bool.false_or,Bool.true_and,Bool.and_true,Bool.false_and,Bool.and_false,Bool.not_true,Bool.not_false];first|done|rfl)|rfl|(exfalso;omega)
   intro c1;refine A3 ?_;simp only[go_sem];refine hK3 _ ?_;refine oS fun _ hK8=>?_;refine oW C9 ?_;simp only[go_sem];refine hK8 _ ?_;refine A2 ?_;simp only[hres,go_sem]
   first
    | exact oF
    | refine ⟨?_, oF⟩
      clear hK1 hK2 hK3 hK4 hK5 hK6 hK8;clear hc;unfold r4 Y3 P4;simp only[hx,hy];first|(simp only[*,decide_true,decide_false,Bool.true_or,Bool.or_true,Bool.or_false,Bool.false_or,Bool.true_and,Bool.and_true,Bool.false_and,Bool.and_false,Bool.not_true,Bool.not_false];first|done|rfl)|rfl|(exfalso;omega)
  intro c0;refine oS fun _ hK9=>?_;refine oW C9 ?_;simp only[go_sem];repeat(with_reducible first|refine oA ?_|refine And.intro (by first|omega|omega|exact hf0 (by omega)|exact hf1 (by omega)|exact⟨(hf0 (by omega)).1,(hf0 (by omega)).2⟩) ?_)
  refine hK9 _ ?_;refine oC rfl ?_ ?_
  ·
   intro c2;refine oS fun _ hK10=>?_;refine oW C9 ?_;simp (maxSteps:=2000000)only[go_sem];repeat(with_reducible first|refine oA ?_|refine And.intro (by first|omega|omega|exact hf0 (by omega)|exact hf1 (by omega)|exact⟨(hf0 (by omega)).1,(hf0 (by omega)).2⟩) ?_)
   refine hK10 _ ?_;refine oC rfl ?_ ?_
   ·
    intro c3;refine oS fun _ hK11=>?_;refine oW C9 ?_;simp (maxSteps:=2000000)only[go_sem];repeat(with_reducible first|refine oA ?_|refine And.intro (by first|omega|omega|exact hf0 (by omega)|exact hf1 (by omega)|exact⟨(hf0 (by omega)).1,(hf0 (by omega)).2⟩) ?_)
    refine hK11 _ ?_;refine A2 ?_;simp only[hres,go_sem]
    first
     | exact oF
     | refine ⟨?_, oF⟩
       clear hK1 hK2 hK3 hK4 hK5 hK9 hK10 hK11;clear hc;unfold r4 Y3 P4;simp only[hx,hy];first|(simp only[*,decide_true,decide_false,Bool.true_or,Bool.or_true,Bool.or_false,Bool.false_or,Bool.true_and,Bool.and_true,Bool.false_and,Bool.and_false,Bool.not_true,Bool.not_false];first|done|rfl)|rfl|(exfalso;omega)
   intro c3;refine A3 ?_;simp only[go_sem];refine hK3 _ ?_;refine oS fun _ hK12=>?_;refine oW C9 ?_;simp only[go_sem];refine hK12 _ ?_;refine A2 ?_;simp only[hres,go_sem]
   first
    | exact oF
    | refine ⟨?_, oF⟩
      clear hK1 hK2 hK3 hK4 hK5 hK9 hK10 hK12;clear hc;unfold r4 Y3 P4;simp only[hx,hy];first|(simp only[*,decide_true,decide_false,Bool.true_or,Bool.or_true,Bool.or_false,Bool.false_or,Bool.true_and,Bool.and_true,Bool.false_and,Bool.and_false,Bool.not_true,Bool.not_false];first|done|rfl)|rfl|(exfalso;omega)
  intro c2;refine oS fun _ hK13=>?_;refine oW C9 ?_;simp only[go_sem];repeat(with_reducible first|refine oA ?_|refine And.intro (by first|omega|omega|exact hf0 (by omega)|exact hf1 (by omega)|exact⟨(hf0 (by omega)).1,(hf0 (by omega)).2⟩) ?_)
  refine hK13 _ ?_;refine oC rfl ?_ ?_
  ·
   intro c4;refine oS fun _ hK14=>?_;refine oS fun _ hK15=>?_;refine oW C9 ?_;simp (maxSteps:=2000000)only[go_sem];repeat(with_reducible first|refine oA ?_|refine And.intro (by first|omega|omega|exact hf0 (by omega)|exact hf1 (by omega)|exact⟨(hf0 (by omega)).1,(hf0 (by omega)).2⟩) ?_)
   refine hK15 _ ?_;refine oC rfl ?_ ?_
   ·
    intro c5;refine oS fun _ hK16=>?_;refine oW C9 ?_;simp (maxSteps:=2000000)only[go_sem];repeat(with_reducible first|refine oA ?_|refine And.intro (by first|omega|omega|exact hf0 (by omega)|exact hf1 (by omega)|exact⟨(hf0 (by omega)).1,(hf0 (by omega)).2⟩) ?_)
    refine hK16 _ ?_;refine A2 ?_;simp only[hres,go_sem]
    first
     | exact oF
     | refine ⟨?_, oF⟩
       clear hK1 hK2 hK3 hK4 hK5 hK9 hK13 hK14 hK15 hK16;clear hc;unfold r4 Y3 P4;simp only[hx,hy];first|(simp only[*,decide_true,decide_false,Bool.true_or,Bool.or_true,Bool.or_false,Bool.false_or,Bool.true_and,Bool.and_true,Bool.false_and,Bool.and_false,Bool.not_true,Bool.not_false];first|done|rfl)|rfl|(exfalso;omega)
   intro c5;refine A3 ?_;simp only[go_sem];refine hK14 _ ?_;refine oS fun _ hK17=>?_;refine oW C9 ?_;simp (maxSteps:=2000000)only[go_sem];repeat(with_reducible first|refine oA ?_|refine And.intro (by first|omega|omega|exact hf0 (by omega)|exact hf1 (by omega)|exact⟨(hf0 (by omega)).1,(hf0 (by omega)).2⟩) ?_)
   refine hK17 _ ?_;refine oC rfl ?_ ?_
   ·
    intro c6;refine oS fun _ hK18=>?_;refine oW C9 ?_;simp (maxSteps:=2000000)only[go_sem];repeat(with_reducible first|refine oA ?_|refine And.intro (by first|omega|omega|exact hf0 (by omega)|exact hf1 (by omega)|exact⟨(hf0 (by omega)).1,(hf0 (by omega)).2⟩) ?_)
    refine hK18 _ ?_;refine A2 ?_;simp only[hres,go_sem]
    first
     | exact oF
     | refine ⟨?_, oF⟩
       clear hK1 hK2 hK3 hK4 hK5 hK9 hK13 hK14 hK15 hK17 hK18;clear hc;unfold r4 Y3 P4;simp only[hx,hy];first|(simp only[*,decide_true,decide_false,Bool.true_or,Bool.or_true,Bool.or_false,Bool.false_or,Bool.true_and,Bool.and_true,Bool.false_and,Bool.and_false,Bool.not_true,Bool.not_false];first|done|rfl)|rfl|(exfalso;omega)
   intro c6;refine A3 ?_;simp only[go_sem];refine hK3 _ ?_;refine oS fun _ hK19=>?_;refine oW C9 ?_;simp only[go_sem];refine hK19 _ ?_;refine A2 ?_;simp only[hres,go_sem]
   first
    | exact oF
    | refine ⟨?_, oF⟩
      clear hK1 hK2 hK3 hK4 hK5 hK9 hK13 hK14 hK15 hK17 hK19;clear hc;unfold r4 Y3 P4;simp only[hx,hy];first|(simp only[*,decide_true,decide_false,Bool.true_or,Bool.or_true,Bool.or_false,Bool.false_or,Bool.true_and,Bool.and_true,Bool.false_and,Bool.and_false,Bool.not_true,Bool.not_false];first|done|rfl)|rfl|(exfalso;omega)
  intro c4;refine oS fun _ hK20=>?_;refine oW C9 ?_;simp only[go_sem];repeat(with_reducible first|refine oA ?_|refine And.intro (by first|omega|omega|exact hf0 (by omega)|exact hf1 (by omega)|exact⟨(hf0 (by omega)).1,(hf0 (by omega)).2⟩) ?_)
  refine hK20 _ ?_;refine oC rfl ?_ ?_
  ·
   intro c7;refine oS fun _ hK21=>?_;refine oW C9 ?_;simp (maxSteps:=2000000)only[go_sem];repeat(with_reducible first|refine oA ?_|refine And.intro (by first|omega|omega|exact hf0 (by omega)|exact hf1 (by omega)|exact⟨(hf0 (by omega)).1,(hf0 (by omega)).2⟩) ?_)
   refine hK21 _ ?_;refine oC rfl ?_ ?_
   ·
    intro c8;refine oS fun _ hK22=>?_;refine oW C9 ?_;simp (maxSteps:=2000000)only[go_sem];repeat(with_reducible first|refine oA ?_|refine And.intro (by first|omega|omega|exact hf0 (by omega)|exact hf1 (by omega)|exact⟨(hf0 (by omega)).1,(hf0 (by omega)).2⟩) ?_)
    refine hK22 _ ?_;refine A2 ?_;simp only[hres,go_sem]
    first
     | exact oF
     | refine ⟨?_, oF⟩
       clear hK1 hK2 hK3 hK4 hK5 hK9 hK13 hK20 hK21 hK22;clear hc;unfold r4 Y3 P4;simp only[hx,hy];first|(simp only[*,decide_true,decide_false,Bool.true_or,Bool.or_true,Bool.or_false,Bool.false_or,Bool.true_and,Bool.and_true,Bool.false_and,Bool.and_false,Bool.not_true,Bool.not_false];first|done|rfl)|rfl|(exfalso;omega)
   intro c8;refine A3 ?_;simp only[go_sem];refine hK3 _ ?_;refine oS fun _ hK23=>?_;refine oW C9 ?_;simp only[go_sem];refine hK23 _ ?_;refine A2 ?_;simp only[hres,go_sem]
   first
    | exact oF
    | refine ⟨?_, oF⟩
      clear hK1 hK2 hK3 hK4 hK5 hK9 hK13 hK20 hK21 hK23;clear hc;unfold r4 Y3 P4;simp only[hx,hy];first|(simp only[*,decide_true,decide_false,Bool.true_or,Bool.or_true,Bool.or_false,Bool.false_or,Bool.true_and,Bool.and_true,Bool.false_and,Bool.and_false,Bool.not_true,Bool.not_false];first|done|rfl)|rfl|(exfalso;omega)
  intro c7;refine oS fun _ hK24=>?_;refine oW C9 ?_;simp only[go_sem];repeat(with_reducible first|refine oA ?_|refine And.intro (by first|omega|omega|exact hf0 (by omega)|exact hf1 (by omega)|exact⟨(hf0 (by omega)).1,(hf0 (by omega)).2⟩) ?_)
  refine hK24 _ ?_;refine oC rfl ?_ ?_
  ·
   intro c9;refine oS fun _ hK25=>?_
   refine oR C9
     [[],[],[1],[1,2],[1,2,3],[1,2,3,4],[1,2,3,4,5],[0,1,2,3,4,5,6],[0,1,2,3,4,5,6,7],[0,1,2,3,4,5,6,7,8],[0,1,2,3,4,5,6,7,8,9],[0,1,2,3,4,5,6,7,8,9,10],[0,1,2,3,4,5,6,7,8,9,10,11],[0,1,2,3,4,5,6,7,8],[0,1,2,3,4,5,6,7,8,13],[0,1,2,3,4,5,6,7,8,13,14],[0,1,2,3,4,5,6,7,8,13,14,15],[0,1,2,3,4,5,6,7,8,13,14,15,16],[0,1,2,3,4,5,6,7,8,13,14,15,16,17],[0,1,2,3,4,5,6,7,8,9,10,11,12,13,14,15,16,17,18],[0,1,2,3,4,5,6,7,8,9,10,11,12,13,14,15,16,17,18,19],[0,1,2,3,4,5,6,7,8,9,10,11,12,13,14,15,16,17,18,19,20],[0,1,2,3,4,5,6,7,8,9,10,11,12,13,14,15,16,17,18,19,20,21],[0,1,2,3,4,5,6,7,8,9,10,11,12,13,14,15,16,17,18,19,20,21,22]]
     [[],[],[],[],[],[],[],[],[],[],[],[],[],[],[],[],[],[],[],[],[],[],[],[]]
     [[],[],[],[],[],[],[],[],[],[],[],[],[],[],[],[],[],[],[],[],[],[],[],[]] (by kernel_rfl) (by kernel_rfl) (B7 (acc:=[]) ?_)
   simp (maxSteps:=2000000)only[hy',go_sem];repeat' (with_reducible first|refine oD ?_|refine And.intro (by first|omega|omega|exact hf0 (by omega)|exact hf1 (by omega)|exact⟨(hf0 (by omega)).1,(hf0 (by omega)).2⟩) ?_|refine oT (fun g18=>?_) (fun g18=>?_)|refine oE (fun g18=>?_) (fun g18=>?_))
   all_goals
    refine hK25 _ ?_;refine D2 rfl ?_ ?_
    ·
     intro c10;try simp only[zA,zB,zC,zD,zE,zF,zG,zH,zI] at c10
     all_goals
      refine oS fun _ hK26=>?_;refine oW C9 ?_;simp (maxSteps:=2000000)only[go_sem];repeat(with_reducible first|refine oA ?_|refine And.intro (by first|omega|omega|exact hf0 (by omega)|exact hf1 (by omega)|exact⟨(hf0 (by omega)).1,(hf0 (by omega)).2⟩) ?_)
      refine hK26 _ ?_;refine A2 ?_;simp only[hres,go_sem]
      first
       | exact oF
       | refine ⟨?_, oF⟩
         clear hK1 hK2 hK3 hK4 hK5 hK9 hK13 hK20 hK24 hK25 hK26;clear hc;unfold r4 Y3 P4;simp only[hx,hy];first|(simp only[*,decide_true,decide_false,Bool.true_or,Bool.or_true,Bool.or_false,Bool.false_or,Bool.true_and,Bool.and_true,Bool.false_and,Bool.and_false,Bool.not_true,Bool.not_false];first|done|rfl)|rfl|(exfalso;omega)
    ·
     intro c10;try simp only[zA,zB,zC,zD,zE,zF,zG,zH,zI] at c10
     all_goals
      try(have hya:decide (0 < ya)=false:=decide_eq_false (by omega))
      refine A3 ?_;simp only[go_sem];refine hK3 _ ?_;refine oS fun _ hK27=>?_;refine oW C9 ?_;simp only[go_sem];refine hK27 _ ?_;refine A2 ?_;simp only[hres,go_sem]
      first
       | exact oF
       | refine ⟨?_, oF⟩
         clear hK1 hK2 hK3 hK4 hK5 hK9 hK13 hK20 hK24 hK25 hK27;clear hc;unfold r4 Y3 P4;simp only[hx,hy];first|(simp only[*,decide_true,decide_false,Bool.true_or,Bool.or_true,Bool.or_false,Bool.false_or,Bool.true_and,Bool.and_true,Bool.false_and,Bool.and_false,Bool.not_true,Bool.not_false];first|done|rfl)|rfl|(exfalso;omega)
  intro c9;refine oS fun _ hK28=>?_;refine oW C9 ?_;simp only[go_sem];repeat(with_reducible first|refine oA ?_|refine And.intro (by first|omega|omega|exact hf0 (by omega)|exact hf1 (by omega)|exact⟨(hf0 (by omega)).1,(hf0 (by omega)).2⟩) ?_)
  refine hK28 _ ?_;refine oC rfl ?_ ?_
  ·
   intro c11;refine oS fun _ hK29=>?_;refine oW C9 ?_;simp only[go_sem];repeat(with_reducible first|refine oA ?_|refine And.intro (by first|exact hsl (by omega)) ?_)
   refine hK29 _ ?_;refine A2 ?_;simp only[hres,go_sem]
   first
    | exact oF
    | refine ⟨?_, oF⟩
      clear hK1 hK2 hK3 hK4 hK5 hK9 hK13 hK20 hK24 hK28 hK29;clear hc;unfold r4 Y3 P4;simp only[hx,hy];first|(simp only[*,decide_true,decide_false,Bool.true_or,Bool.or_true,Bool.or_false,Bool.false_or,Bool.true_and,Bool.and_true,Bool.false_and,Bool.and_false,Bool.not_true,Bool.not_false];first|done|rfl)|rfl|(exfalso;omega)
  intro c11;refine A3 ?_;simp only[go_sem];refine hK3 _ ?_;refine oS fun _ hK30=>?_;refine oW C9 ?_;simp only[go_sem];refine hK30 _ ?_;refine A2 ?_;simp only[hres,go_sem]
  first
   | exact oF
   | refine ⟨?_, oF⟩
     clear hK1 hK2 hK3 hK4 hK5 hK9 hK13 hK20 hK24 hK28 hK30;clear hc;unfold r4 Y3 P4;simp only[hx,hy];first|(simp only[*,decide_true,decide_false,Bool.true_or,Bool.or_true,Bool.or_false,Bool.false_or,Bool.true_and,Bool.and_true,Bool.false_and,Bool.and_false,Bool.not_true,Bool.not_false];first|done|rfl)|rfl|(exfalso;omega)
def A6R:F8:=fun f=>if f=102 then some (.p A1J) else A2Y f
theorem A1u:B8 Tryz.prog A6R:=F9 B53 (B6 Tryz.func102 rfl (by decide)) C9
attribute [go_sem] A6R A1J
def Y9:Con:=⟨[.ptr (.prod (.int .i64) (.prod (.int .i64) (.prod (.int .i64) (.row 2 (.int .i64))))),.ptr (.prod (.int .i64) (.prod (.int .i64) (.prod (.int .i64) (.row 2 (.int .i64)))))],[⟨.bool,true⟩],fun _=>True,fun x=>A8c x.1 x.2.1⟩
theorem A8t:D4 Tryz.prog 124 Y9:=by
  refine A7 Tryz.func124 rfl ?_
  have hres:Tryz.f124.results.toList=[.tmp 4]:=rfl
  rintro⟨⟨(kd:Int),(ka:Int),(kb:Int),(fr:List Int)⟩,⟨(yk:Int),(ya:Int),(yb:Int),(yf:List Int)⟩,_⟩ hc hL
  simp only[Y9,go_sem] at hL
  simp only[Y9,St.init,St.initG,Tryz.ntmps124,go_sem] 
  refine oS fun _ hK1=>?_;refine oW A1u ?_;simp only[go_sem];refine hK1 _ ?_;refine oS fun _ hK2=>?_
  refine oR A1u
    [[],[0],[0,1],[0,1,2],[],[4],[4,5],[4,5,6],[0,1,2,3,4,5,6,7],[0,1,2,3,4,5,6,7,8],[0,1,2,3,4,5,6,7,8,9],[0,1,2,3,4,5,6,7,8,9,10],[0,1,2,3,4,5,6,7,8,9,10,11],[0,1,2,3,4,5,6,7,8,9,10,11,12],[0,1,2,3,4,5,6,7,8,9],[0,1,2,3,4,5,6,7,8,9,14],[0,1,2,3,4,5,6,7,8,9,14,15],[0,1,2,3,4,5,6,7,8,9,14,15,16],[0,1,2,3,4,5,6,7,8,9,10,11,12,13,14,15,16,17],[0,1,2,3,4,5,6,7,8,9,10,11,12,13,14,15,16,17,18],[0,1,2,3,4,5,6,7,8,9,10,11,12,13,14,15,16,17,18,19],[0,1,2,3,4,5,6,7,8,9,10,11,12,13,14,15,16,17,18,19,20],[0,1,2,3,4,5,6,7,8,9,10,11,12,13,14,15,16,17,18,19,20,21],[0,1,2,3,4,5,6,7,8,9,10,11,12,13,14,15,16,17,18,19,20,21,22],[0,1,2,3,4,5,6,7,8,9,10,11,12,13,14,15,16,17,18,19,20,21,22,23],[0,1,2,3,4,5,6,7,8,9,10,11,12,13,14,15,16,17,18,19,20],[0,1,2,3,4,5,6,7,8,9,10,11,12,13,14,15,16,17,18,19,20,25],[0,1,2,3,4,5,6,7,8,9,10,11,12,13,14,15,16,17,18,19,20,25,26],[0,1,2,3,4,5,6,7,8,9,10,11,12,13,14,15,16,17,18,19,20,25,26,27],[0,1,2,3,4,5,6,7,8,9,10,11,12,13,14,15,16,17,18,19,20,21,22,23,24,25,26,27,28],[0,1,2,3,4,5,6,7,8,9,10,11,12,13,14,15,16,17,18,19,20,21,22,23,24,25,26,27,28,29],[0,1,2,3,4,5,6,7,8,9,10,11,12,13,14,15,16,17,18,19,20,21,22,23,24,25,26,27,28,29,30],[0,1,2,3,4,5,6,7,8,9,10,11,12,13,14,15,16,17,18,19,20,21,22,23,24,25,26,27,28,29,30,31],[0,1,2,3,4,5,6,7,8,9,10,11,12,13,14,15,16,17,18,19,20,21,22,23,24,25,26,27,28,29,30,31,32],[0,1,2,3,4,5,6,7,8,9,10,11,12,13,14,15,16,17,18,19,20,21,22,23,24,25,26,27,28,29,30,31,32,33],[0,1,2,3,4,5,6,7,8,9,10,11,12,13,14,15,16,17,18,19,20,21,22,23,24,25,26,27,28,29,30,31,32,33,34],[0,1,2,3,4,5,6,7,8,9,10,11,12,13,14,15,16,17,18,19,20,21,22,23,24,25,26,27,28,29,30,31],[0,1,2,3,4,5,6,7,8,9,10,11,12,13,14,15,16,17,18,19,20,21,22,23,24,25,26,27,28,29,30,31,36],[0,1,2,3,4,5,6,7,8,9,10,11,12,13,14,15,16,17,18,19,20,21,22,23,24,25,26,27,28,29,30,31,36,37],[0,1,2,3,4,5,6,7,8,9,10,11,12,13,14,15,16,17,18,19,20,21,22,23,24,25,26,27,28,29,30,31,36,37,38],[0,1,2,3,4,5,6,7,8,9,10,11,12,13,14,15,16,17,18,19,20,21,22,23,24,25,26,27,28,29,30,31,32,33,34,35,36,37,38,39],[0,1,2,3,4,5,6,7,8,9,10,11,12,13,14,15,16,17,18,19,20,21,22,23,24,25,26,27,28,29,30,31,32,33,34,35,36,37,38,39,40],[0,1,2,3,4,5,6,7,8,9,10,11,12,13,14,15,16,17,18,19,20,21,22,23,24,25,26,27,28,29,30,31,32,33,34,35,36,37,38,39,40,41]]
    [[],[],[],[],[],[],[],[],[],[],[],[],[],[],[],[],[],[],[],[],[],[],[],[],[],[],[],[],[],[],[],[],[],[],[],[],[],[],[],[],[],[],[]]
    [[],[],[],[],[],[],[],[],[],[],[],[],[],[],[],[],[],[],[],[],[],[],[],[],[],[],[],[],[],[],[],[],[],[],[],[],[],[],[],[],[],[],[]] (by kernel_rfl) (by kernel_rfl) (B7 (acc:=[]) ?_)
  simp (maxSteps:=2000000)only[go_sem];repeat' (with_reducible first|refine oD ?_|refine oT (fun g1=>?_) (fun g1=>?_)|refine oE (fun g1=>?_) (fun g1=>?_))
  all_goals
   refine hK2 _ ?_;refine A2 ?_;simp only[hres,go_sem]
   first
    | exact oF
    | refine ⟨?_, oF⟩
      clear hK1 hK2;clear hc hL;rw[C0O];try unfold eqD
      first|done|rfl|(simp only[*,decide_true,decide_false,Bool.true_and,Bool.and_true,Bool.false_and,Bool.and_false];done)|(simp[*];done)
def A12:F8:=fun f=>if f=124 then some (.p Y9) else A6R f
theorem J2:B8 Tryz.prog A12:=F9 A8t (B6 Tryz.func124 rfl (by decide)) A1u
attribute [go_sem] A12 Y9
def A1m:Con:=⟨[.ptr (.prod (.int .i64) (.prod (.row 26 (.row 2 (.int .i64))) (.prod (.row 56 (.prod (.int .i64) (.prod (.int .i64) (.prod (.int .i64) (.row 2 (.int .i64)))))) (.row 2 (.int .i64))))),.val ((.row 2 (.int .i64))),.val (.int .i64)],[⟨.int .i64,true⟩],fun x=>(∀j∈x.2.1,0≤j∧j < x.1.2.2.1.length)∧0≤x.2.2.1∧x.2.2.1 < x.1.2.2.1.length,fun x=>A2C x.1 x.2.1 x.2.2.1⟩
theorem B5e:D4 Tryz.prog 105 A1m:=by
  refine A7 Tryz.func105 rfl ?_
  have hres:Tryz.f105.results.toList=[.tmp 6]:=rfl
  rintro⟨⟨(pi:Int),(ts:List (List Int)),(ns:List A4),(os:List Int)⟩,(need:List Int),(nd:Int),_⟩ hc hL
  simp only[A1m,go_sem] at hL
  simp only[A1m,St.init,St.initG,Tryz.ntmps105,go_sem] 
  obtain⟨hn,h0,h1⟩:=(show (∀j∈need,0≤j∧j < ns.length)∧0≤nd∧nd < ns.length from hc)
  refine oS fun _ hK1=>?_;refine oW J2 ?_;simp only[go_sem];refine hK1 _ ?_;refine oS fun _ hK2=>?_;refine oS fun _ hK3=>?_;refine oW J2 ?_;simp only[go_sem];refine hK3 _ ?_;refine A5 ?_;refine B4 (ι:={ k:Nat // k≤need.length∧∀j,j < k→A9n (pi,ts,ns,os) nd (need.getD j 0)=false }) (fun k=>⟨[.c (.pt [] ((.prod (.int .i64) (.prod (.row 26 (.row 2 (.int .i64))) (.prod (.row 56 (.prod (.int .i64) (.prod (.int .i64) (.prod (.int .i64) (.row 2 (.int .i64)))))) (.row 2 (.int .i64)))))) (pi,ts,ns,os) 0),.c (.rd [] 2 (.int .i64) (need)),.c (.sc (.int .i64 (nd))),zz,zz,zz,zz,.c (.sc (.int .i64 (k.1))),zz,zz,zz,zz,zz,zz,zz,zz,zz,zz,zz,zz,zz,zz,zz,zz,zz,zz,zz,zz,zz,zz,zz,zz,zz,zz,zz,zz,zz,zz],[]⟩) (fun k=>need.length - k.1) ⟨0,by simp,fun j h=>absurd h (Nat.not_lt_zero _)⟩ ?_ ?_
  ·
   refine oK ?_;simp (maxSteps:=2000000)only[go_sem];all_goals(first|rfl|((repeat' refine And.intro ?_ ?_)<;>first|rfl|simp))
  rintro⟨k,hk,hp⟩ K4 hL4
  refine oS fun _ hK5=>?_;refine oS fun _ hK6=>?_;refine oW J2 ?_;simp only[go_sem];refine hK6 _ ?_;refine oC rfl ?_ ?_
  ·
   intro c0;have hnk:=hn _ (B9 (d:=(0:Int)) (show k < need.length by omega))
   refine A3 ?_;simp only[go_sem];refine hK5 _ ?_;refine oS fun _ hK7=>?_;refine A5 ?_;refine oS fun _ hK8=>?_;refine oW J2 ?_;simp (maxSteps:=2000000)only[go_sem];repeat(with_reducible first|refine oA ?_|refine And.intro (by first|omega) ?_)
   refine hK8 _ ?_;refine oS fun _ hK9=>?_
   refine oR J2
     [[],[],[0,1],[0,1,2],[0,1,2,3],[0,1,2,3,4],[0,1,2,3,4,5],[0,1,2,3,4,5,6],[0,1,2,3],[0,1,2,3,4,5,6,7,8],[0,1,2,3],[0,1,2,3,10],[0,1,2,3,10,11],[0,1,2,3,10,11,12],[0,1,2,3],[0,1,2,3,10,11,12,13,14],[0,1,2,3,4,5,6,7,8,9,10,11,12,13,14,15],[0,1,2,3,4,5,6,7,8,9,10,11,12,13,14,15,16]]
     [[],[],[],[],[],[],[],[],[],[],[],[],[],[],[],[],[],[]]
     [[],[],[],[],[],[],[],[],[],[],[],[],[],[],[],[],[],[]] (by kernel_rfl) (by kernel_rfl) (B7 (acc:=[]) ?_)
   simp (maxSteps:=2000000)only[go_sem];repeat' (with_reducible first|refine oD ?_|refine And.intro (by first|exact hnk|omega|exact⟨h0,h1⟩) ?_|refine oT (fun g5=>?_) (fun g5=>?_)|refine oE (fun g5=>?_) (fun g5=>?_))
   all_goals
    refine hK9 _ ?_;refine D2 rfl ?_ ?_
    ·
     intro c1;try simp only[zA,zB,zC,zD,zE,zF,zG,zH,zI] at c1
     all_goals
      refine oS fun _ hK10=>?_;refine oW J2 ?_;simp only[go_sem];refine hK10 _ ?_;refine A2 ?_;simp only[hres,go_sem]
      first
       | exact oF
       | refine ⟨?_, oF⟩
         have htt:A9n (pi,ts,ns,os) nd (need.getD k 0)=true:=by
           clear hK1 hK2 hK3 hL4 hK5 hK6 hK7 hK8 hK9 hK10;unfold A9n;rw[decide_eq_true (show need.getD k 0 < nd by omega),Bool.true_and]
           exact(by assumption:A8c (ns.getD (need.getD k 0).toNat ((0,0,0,[]):A4)) (ns.getD nd.toNat ((0,0,0,[]):A4))=true)
         exact(C1L (by omega) hp htt).symm
    ·
     intro c1;try simp only[zA,zB,zC,zD,zE,zF,zG,zH,zI] at c1
     all_goals
      have htf:A9n (pi,ts,ns,os) nd (need.getD k 0)=false:=by
        clear hK1 hK2 hK3 hL4 hK5 hK6 hK7 hK8 hK9;unfold A9n;first|(rw[decide_eq_false (show ¬need.getD k 0 < nd by omega)];rfl)|(rw[Bool.and_eq_false_iff];right;exact(by assumption:A8c (ns.getD (need.getD k 0).toNat ((0,0,0,[]):A4)) (ns.getD nd.toNat ((0,0,0,[]):A4))=false))
      refine A3 ?_;simp only[go_sem];refine hK7 _ ?_;refine oW J2 ?_;simp only[go_sem]
      refine hL4 ⟨k+1,by omega,fun j h=>by
        rcases Nat.lt_succ_iff_lt_or_eq.1 h with h|h
        · exact hp j h
        · subst h;exact htf⟩ _ (oK ?_) ?_
      ·
       simp (maxSteps:=2000000)only[go_sem];first|rfl|exact wk (by omega)
      ·
       first|(simp only[];omega)|omega|(simp;omega)
  intro c0;refine C2 ?_;simp only[go_sem];refine hK2 _ ?_;refine oS fun _ hK11=>?_;refine oW J2 ?_;simp only[go_sem];refine hK11 _ ?_;refine A2 ?_;simp only[hres,go_sem];first|exact oF|(refine⟨?_,oF⟩;exact(B9u (k:=k) (by omega) hp).symm)
def A3X:F8:=fun f=>if f=105 then some (.p A1m) else A12 f
theorem E6:B8 Tryz.prog A3X:=F9 B5e (B6 Tryz.func105 rfl (by decide)) J2
attribute [go_sem] A3X A1m
end Go.Proofs.YtflobmmbhaofbaaGreat
