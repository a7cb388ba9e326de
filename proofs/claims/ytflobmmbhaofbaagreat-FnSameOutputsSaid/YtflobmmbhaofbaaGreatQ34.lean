/-
  Texts of this claim, joined (part 34). No condition beyond those of the theorems.
-/
import Derived.Test.YtflobmmbhaofbaaGreatQ26
import Derived.Test.YtflobmmbhaofbaaGreatQ28
import Derived.Test.YtflobmmbhaofbaaGreatQ30
import Derived.Test.YtflobmmbhaofbaaGreatQ18
import Derived.Test.YtflobmmbhaofbaaGreatQ07
import Derived.Test.YtflobmmbhaofbaaGreatQ33
namespace Go.Proofs.YtflobmmbhaofbaaGreat
open Go.RowKit
set_option linter.unusedSimpArgs false
set_option linter.unusedVariables false
set_option maxRecDepth 100000
set_option maxHeartbeats 16000000
def B23:F8:=fun f=>match A3X f with
 | some k=>some k
 | none=>A26 f
theorem B6B:B8 Tryz.prog B23:=T3 E6 A76
attribute [go_sem] B23 T0
def B0n:F8:=fun f=>match B23 f with
 | some k=>some k
 | none=>A3u f
theorem B4y:B8 Tryz.prog B0n:=T3 B6B A9T
attribute [go_sem] B0n T0
def B1l:F8:=fun f=>match B0n f with
 | some k=>some k
 | none=>A0S f
theorem B67:B8 Tryz.prog B1l:=T3 B4y t2
attribute [go_sem] B1l T0
def B2M:F8:=fun f=>match B1l f with
 | some k=>some k
 | none=>A08 f
theorem B4p:B8 Tryz.prog B2M:=T3 B67 G3
attribute [go_sem] B2M T0
def B1p:F8:=fun f=>match B2M f with
 | some k=>some k
 | none=>A8L f
theorem F1:B8 Tryz.prog B1p:=T3 B4p B2u
attribute [go_sem] B1p T0
def A0g:Con:=⟨[.ptr (.prod (.int .i64) (.prod (.row 26 (.row 2 (.int .i64))) (.prod (.row 56 (.prod (.int .i64) (.prod (.int .i64) (.prod (.int .i64) (.row 2 (.int .i64)))))) (.row 2 (.int .i64))))),.val (.int .i64),.val (.int .i64)],[⟨(.prod (.int .i64) (.prod (.row 26 (.row 2 (.int .i64))) (.prod (.row 56 (.prod (.int .i64) (.prod (.int .i64) (.prod (.int .i64) (.row 2 (.int .i64)))))) (.row 2 (.int .i64))))),true⟩],fun x=>C7 x.1=true∧x.2.2.1∈F0 x.1∧RulI x.1 x.2.2.1 x.2.1,fun x=>U7 x.1 x.2.1 x.2.2.1⟩
theorem B3d:D4 Tryz.prog 81 A0g:=by
  refine A7 Tryz.func81 rfl ?_
  have hres:Tryz.f81.results.toList=[.cell 6 28]:=rfl
  rintro⟨⟨(pi:Int),(ts:List (List Int)),(ns:List A4),(os:List Int)⟩,(rl:Int),(nd:Int),_⟩ hc hL
  simp only[A0g,go_sem] at hL
  simp only[A0g,St.init,St.initG,Tryz.ntmps81,go_sem] 
  obtain⟨hP,hm,hR⟩:=(show C7 (pi,ts,ns,os)=true∧nd∈F0 (pi,ts,ns,os)∧RulI (pi,ts,ns,os) nd rl from hc)
  obtain⟨h0,h1⟩:=(show 0≤nd∧nd < ns.length from M7 hm)
  have hF:=(A9 hP).1
  have hfp:=X9 (Z8 (p:=(pi,ts,ns,os)) hP)
  rcases hx:E8 (pi,ts,ns,os) nd with⟨kd,ka,kb,fr⟩
  have hx':ns.getD nd.toNat ((0,0,0,[]):A4)=(kd,ka,kb,fr):=hx
  have hfr:=fun f h=>O0 (p:=(pi,ts,ns,os)) hF (i:=nd) ⟨h0,h1⟩ (f:=f) h
  have hab:=r6 (p:=(pi,ts,ns,os)) hF (i:=nd) ⟨h0,h1⟩
  have hl3:=((L3 hF).2 (E8 (pi,ts,ns,os) nd) (B9 (show nd.toNat < ns.length by omega))).2.1
  rw[hx] at hfr hab hl3
  simp only at hfr hab hl3
  obtain⟨hA,h6,h2,h1',h3⟩:=hab;have hf0:0 < fr.length→0≤fr.getD 0 0∧fr.getD 0 0 < ns.length:=fun h=>hfr _ (B9 h)
  have hf1:1 < fr.length→0≤fr.getD 1 0∧fr.getD 1 0 < ns.length:=fun h=>hfr _ (B9 h)
  have hcr:0≤nd∧nd < ns.length:=⟨h0,h1⟩
  have hcf:C5 (pi,ts,ns,os)=true∧0≤nd∧nd < ns.length:=⟨hF,h0,h1⟩
  have hnr:∀j∈F0 (pi,ts,ns,os),0≤j∧j < ns.length:=fun j h=>M7 h
  have hct:(∀j∈F0 (pi,ts,ns,os),0≤j∧j < ns.length)∧0≤nd∧nd < ns.length:=⟨hnr,h0,h1⟩
  refine oS fun _ hK1=>?_;refine oW F1 ?_;simp only[go_sem];refine hK1 _ ?_;refine oS fun _ hK2=>?_;refine oW F1 ?_;simp only[List.nodup_cons,List.nodup_nil,List.not_mem_nil,not_false_eq_true,go_sem];repeat(with_reducible first|refine oA ?_|refine And.intro (by first|exact hfp) ?_)
  refine hK2 _ ?_;refine oS fun _ hK3=>?_;refine oW F1 ?_;simp (maxSteps:=2000000)only[go_sem];repeat(with_reducible first|refine oA ?_|refine And.intro (by first|omega|exact hcr) ?_)
  refine hK3 _ ?_;refine N9 (True) ⟨[zz,zz,zz,zz,zz,zz,.c (.po 196 0),.c (.po 212 0),zz,zz,zz,zz,zz,zz,zz,zz,zz,zz,zz,zz,zz,zz,zz,zz,zz,zz,zz,zz,zz,zz,zz,zz,zz,zz,zz,zz,zz,zz,zz,zz,zz,zz,zz,zz,zz,zz,zz,zz,zz,zz,zz,zz,zz,zz,zz,zz,zz,zz,zz,zz,zz,zz,zz,zz,zz,zz,zz,zz,zz,zz,zz,zz,zz,zz,zz,zz,zz,zz,zz,zz,zz,zz,zz,zz,zz,zz,zz,zz,zz,zz,zz,zz,zz,zz,zz,zz,zz,zz,zz,zz,zz,zz,zz,zz,zz,zz,zz,zz,zz,zz,zz,zz,zz,zz,zz,zz,zz,zz,zz,zz,zz,zz,zz,zz,zz,zz,zz,zz,zz,zz,zz,zz,zz,zz,zz,zz,zz,zz,zz,zz,zz,zz,zz,zz,zz,zz,zz,zz,zz,zz,zz],[(196,.box [.sc (.int .i64 (0)),.sc (.slice none 0 0),.sc (.slice none 0 0),.sc (.slice none 0 0)]),(212,.box [.sc (.int .i64 (pi)),.ow 9001,.ow 9002,.ow 9003]),(9001,.tree 26 (.row 2 (.int .i64)) (ts) none),(9002,.tree 56 (.prod (.int .i64) (.prod (.int .i64) (.prod (.int .i64) (.row 2 (.int .i64))))) ((U7 (pi,ts,ns,os) rl nd).2.2.1) none),(9003,.row 2 (.int .i64) ((U7 (pi,ts,ns,os) rl nd).2.2.2) [])]⟩ ?_ fun _ hK4=>?_
  ·
   intro hJ;refine oS fun _ hK5=>?_;refine oW F1 ?_;simp only[go_sem];repeat(with_reducible refine oA ?_)
   refine hK5 _ ?_;refine A2 ?_;simp only[hres,go_sem]
   first
    | exact oF
    | refine ⟨?_, oF⟩
      have hpi:(U7 (pi,ts,ns,os) rl nd).1=pi∧(U7 (pi,ts,ns,os) rl nd).2.1=ts:=by cases hR<;>exact⟨rfl,rfl⟩
      first|rfl|(rw[←hpi.1,←hpi.2];done)|(rcases ha:(U7 (pi,ts,ns,os) rl nd) with⟨ai,at',an,ao⟩;rw[ha] at hpi;obtain⟨rfl,rfl⟩:=hpi;rfl)
  refine oS fun _ hK6=>?_;refine oW F1 ?_;simp only[go_sem];refine hK6 _ ?_;refine A5 ?_;refine oS fun _ hK7=>?_;refine oW F1 ?_;simp only[go_sem];refine hK7 _ ?_;refine oC rfl ?_ ?_
  ·
   intro c0;subst c0;have hcv:C5 (pi,ts,ns,os)=true∧(0≤nd∧nd < ns.length)∧A55 (pi,ts,ns,os) nd=true:=⟨hF,hcr,by cases hR;assumption⟩
   refine oW F1 ?_;simp (maxSteps:=2000000)only[List.nodup_cons,List.nodup_nil,List.not_mem_nil,not_false_eq_true,hx',go_sem];repeat(with_reducible first|refine oA ?_|refine And.intro (by first|exact hcv) ?_)
   refine hK4 _ (oK ?_) ?_
   ·
    simp (maxSteps:=2000000)only[go_sem];all_goals((repeat' refine And.intro ?_ ?_)<;>first|rfl|(congr 1;done)|(unfold U7 U3;rw[hfk];rfl)|(show _=(U7 (pi,ts,ns,os) 4 nd).2.2.1;unfold U7 U3;simp only[hfk];rfl)|exact hap|(congr 1;exact hap))
   ·
    trivial
  intro c0;refine oS fun _ hK8=>?_;refine oW F1 ?_;simp only[go_sem];refine hK8 _ ?_;refine oC rfl ?_ ?_
  ·
   intro c1;subst c1;refine oW F1 ?_;simp (maxSteps:=2000000)only[List.nodup_cons,List.nodup_nil,List.not_mem_nil,not_false_eq_true,go_sem];repeat(with_reducible refine oA ?_)
   refine hK4 _ (oK ?_) ?_
   ·
    simp (maxSteps:=2000000)only[go_sem];all_goals((repeat' refine And.intro ?_ ?_)<;>first|rfl|(congr 1;done)|(unfold U7 U3;rw[hfk];rfl)|(show _=(U7 (pi,ts,ns,os) 4 nd).2.2.1;unfold U7 U3;simp only[hfk];rfl)|exact hap|(congr 1;exact hap))
   ·
    trivial
  intro c1;refine oS fun _ hK9=>?_;refine oW F1 ?_;simp only[go_sem];refine hK9 _ ?_;refine oC rfl ?_ ?_
  ·
   intro c2;subst c2;refine oW F1 ?_;simp (maxSteps:=2000000)only[List.nodup_cons,List.nodup_nil,List.not_mem_nil,not_false_eq_true,go_sem];repeat(with_reducible first|refine oA ?_|refine And.intro (by first|exact hcf|exact True.intro) ?_)
   refine hK4 _ (oK ?_) ?_
   ·
    simp (maxSteps:=2000000)only[go_sem];all_goals((repeat' refine And.intro ?_ ?_)<;>first|rfl|(congr 1;done)|(unfold U7 U3;rw[hfk];rfl)|(show _=(U7 (pi,ts,ns,os) 4 nd).2.2.1;unfold U7 U3;simp only[hfk];rfl)|exact hap|(congr 1;exact hap))
   ·
    trivial
  intro c2;refine oS fun _ hK10=>?_;refine oW F1 ?_;simp only[go_sem];refine hK10 _ ?_;refine oC rfl ?_ ?_
  ·
   intro c3;subst c3;have hfk:A9k (pi,ts,ns,os) nd=true:=by cases hR;assumption
   have hk9:kd=9:=by
     unfold A9k at hfk;rw[hx] at hfk;simp only[Bool.and_eq_true,decide_eq_true_eq] at hfk
     exact hfk.1
   have hlf:fr.length=2:=h2 (by omega)
   have hrg:=hf0 (by omega)
   have hrg1:=hf1 (by omega)
   rcases hy:E8 (pi,ts,ns,os) (fr.getD 0 0) with⟨yk,ya,yb,yf⟩
   have hy':ns.getD (fr.getD 0 0).toNat ((0,0,0,[]):A4)=(yk,ya,yb,yf):=hy
   rcases hz:E8 (pi,ts,ns,os) (fr.getD 1 0) with⟨zk,za,zb,zf⟩
   have hz':ns.getD (fr.getD 1 0).toNat ((0,0,0,[]):A4)=(zk,za,zb,zf):=hz
   refine oS fun _ hK11=>?_;refine oW F1 ?_;simp (maxSteps:=2000000)only[hx',go_sem];repeat(with_reducible first|refine oA ?_|refine And.intro (by first|omega) ?_)
   refine hK11 _ ?_;refine oS fun _ hK12=>?_;refine oW F1 ?_;simp (maxSteps:=2000000)only[hx',go_sem];repeat(with_reducible first|refine oA ?_|refine And.intro (by first|omega) ?_)
   refine hK12 _ ?_;refine oS fun _ hK13=>?_;refine oS fun _ hK14=>?_;refine oW F1 ?_;simp (maxSteps:=2000000)only[hx',go_sem];repeat(with_reducible first|refine oA ?_|refine And.intro (by first|omega|exact hrg) ?_)
   refine hK14 _ ?_;refine oC rfl ?_ ?_
   ·
    intro c4;have hfk:B3T (pi,ts,ns,os) nd=(5,ya,0,[fr.getD 1 0]):=by unfold B3T P4;rw[hx];simp only[c4,hy]
    refine oS fun _ hK15=>?_;refine oW F1 ?_;simp (maxSteps:=2000000)only[hx',go_sem];repeat(with_reducible first|refine oA ?_|refine And.intro (by first|omega) ?_)
    refine hK15 _ ?_;refine oW F1 ?_;simp (maxSteps:=2000000)only[hx',go_sem];repeat(with_reducible first|refine oA ?_|refine And.intro (by first|omega) ?_)
    refine hK13 _ ?_;refine oW F1 ?_;simp (maxSteps:=2000000)only[List.nodup_cons,List.nodup_nil,List.not_mem_nil,not_false_eq_true,hy',hz',go_sem];repeat(with_reducible first|refine oA ?_|refine And.intro (by first|omega|exact hrg|exact hrg1) ?_)
    refine hK4 _ (oK ?_) ?_
    ·
     simp (maxSteps:=2000000)only[go_sem];all_goals((repeat' refine And.intro ?_ ?_)<;>first|rfl|(congr 1;done)|(unfold U7 U3;rw[hfk];rfl)|(show _=(U7 (pi,ts,ns,os) 4 nd).2.2.1;unfold U7 U3;simp only[hfk];rfl)|exact hap|(congr 1;exact hap))
    ·
     trivial
   intro c4;have hfk:B3T (pi,ts,ns,os) nd=(5,za,0,[fr.getD 0 0]):=by unfold B3T P4;rw[hx];simp only[c4,hz]
   refine A3 ?_;simp only[go_sem];refine hK13 _ ?_;refine oW F1 ?_;simp (maxSteps:=2000000)only[List.nodup_cons,List.nodup_nil,List.not_mem_nil,not_false_eq_true,hy',hz',go_sem];repeat(with_reducible first|refine oA ?_|refine And.intro (by first|omega|exact hrg|exact hrg1) ?_)
   refine hK4 _ (oK ?_) ?_
   ·
    simp (maxSteps:=2000000)only[go_sem];all_goals((repeat' refine And.intro ?_ ?_)<;>first|rfl|(congr 1;done)|(unfold U7 U3;rw[hfk];rfl)|(show _=(U7 (pi,ts,ns,os) 4 nd).2.2.1;unfold U7 U3;simp only[hfk];rfl)|exact hap|(congr 1;exact hap))
   ·
    trivial
  intro c3;refine oS fun _ hK16=>?_;refine oW F1 ?_;simp only[go_sem];refine hK16 _ ?_;refine oC rfl ?_ ?_
  ·
   intro c5;subst c5;have hgk:A9V (pi,ts,ns,os) nd=true:=by cases hR;assumption
   have hk5:kd=5:=by
     unfold A9V at hgk;rw[hx] at hgk;simp only[Bool.and_eq_true,decide_eq_true_eq] at hgk
     exact hgk.1
   have hlf:fr.length=1:=h1' (by omega)
   have hrg:=hf0 (by omega)
   rcases hy:E8 (pi,ts,ns,os) (fr.getD 0 0) with⟨yk,ya,yb,yf⟩
   have hy':ns.getD ((fr.getD 0 0)).toNat ((0,0,0,[]):A4)=(yk,ya,yb,yf):=hy
   have hfy:=fun f h=>O0 (p:=(pi,ts,ns,os)) hF (i:=(fr.getD 0 0)) hrg (f:=f) h
   have hlyy:=((L3 hF).2 (E8 (pi,ts,ns,os) (fr.getD 0 0)) (B9 (show ((fr.getD 0 0)).toNat < ns.length by omega))).2.1
   rw[hy] at hfy hlyy
   have hly:yf.length≤1099511627776:=by have h:yf.length≤3:=hlyy;omega
   have hap:ns.set nd.toNat (5,wrap32 (ka * ya),0,yf)=(U7 (pi,ts,ns,os) 5 nd).2.2.1:=by
     show _=(U3 (pi,ts,ns,os) nd (5,wrap32 ((E8 (pi,ts,ns,os) nd).2.1 * (E8 (pi,ts,ns,os) (P4 (E8 (pi,ts,ns,os) nd) 0)).2.1),0,(E8 (pi,ts,ns,os) (P4 (E8 (pi,ts,ns,os) nd) 0)).2.2.2)).2.2.1
     rw[hx];show _=(U3 (pi,ts,ns,os) nd (5,wrap32 (ka * (E8 (pi,ts,ns,os) (fr.getD 0 0)).2.1),0,(E8 (pi,ts,ns,os) (fr.getD 0 0)).2.2.2)).2.2.1
     rw[hy];rfl
   refine oS fun _ hK17=>?_
   refine oR F1
     [[],[0],[0,1],[0,1,2],[],[4],[4,5],[4,5,6],[4,5,6,7],[4,5,6,7,8],[0,1,2,3,4,5,6,7,8,9],[0,1,2,3,4,5,6,7,8,9,10],[],[0,1,2,3,4,5,6,7,8,9,10,11,12]]
     [[276],[276],[276],[276],[276],[276],[276],[276],[276],[276],[276],[276],[],[]]
     [[],[],[],[],[],[],[],[],[],[],[],[],[276],[]] (by kernel_rfl) (by kernel_rfl) (B7 (acc:=[]) ?_)
   simp (maxSteps:=2000000)only[hx',hy',go_sem];repeat(with_reducible first|refine oD ?_|refine And.intro (by first|omega|exact hrg) ?_)
   refine hK17 _ ?_
   refine oR F1
     [[],[],[1],[1,2],[1,2,3],[],[5],[1,2,3,4,5,6],[],[8],[1,2,3,4,5,6,7,8,9],[1,2,3,4,5,6,7,8,9,10],[0,1,2,3,4,5,6,7,8,9,10,11],[0,1,2,3,4,5,6,7,8,9,10,11,12]]
     [[2020,2021,2022,2023,2024,2025,2026,2027,2028,2029,2030,2031,2032,2033,2034,2035],[],[],[],[],[],[],[],[],[],[],[],[],[]]
     [[],[],[],[],[],[],[],[],[],[],[2020,2021,2022,2023,2024,2025,2026,2027,2028,2029,2030,2031,2032,2033,2034,2035],[],[],[]] (by kernel_rfl) (by kernel_rfl) (B7 (acc:=[]) ?_)
   simp (maxSteps:=2000000)only[List.nodup_cons,List.nodup_nil,List.not_mem_nil,not_false_eq_true,hx',A52,go_sem];repeat(with_reducible first|refine oD ?_|refine And.intro (by first|exact hly|omega) ?_)
   refine hK4 _ (oK ?_) ?_
   ·
    simp (maxSteps:=2000000)only[go_sem];all_goals((repeat' refine And.intro ?_ ?_)<;>first|rfl|(congr 1;done)|(unfold U7 U3;rw[hfk];rfl)|(show _=(U7 (pi,ts,ns,os) 4 nd).2.2.1;unfold U7 U3;simp only[hfk];rfl)|exact hap|(congr 1;exact hap))
   ·
    trivial
  intro c5;refine oS fun _ hK18=>?_;refine oW F1 ?_;simp only[go_sem];refine hK18 _ ?_;refine oC rfl ?_ ?_
  ·
   intro c6;subst c6;have hgk:A9A (pi,ts,ns,os) nd=true:=by cases hR;assumption
   have hk6:kd=6:=by
     unfold A9A at hgk;rw[hx] at hgk;simp only[Bool.and_eq_true,decide_eq_true_eq] at hgk
     exact hgk.1
   have hlf:fr.length=1:=h1' (by omega)
   have hrg:=hf0 (by omega)
   rcases hy:E8 (pi,ts,ns,os) (fr.getD 0 0) with⟨yk,ya,yb,yf⟩
   have hy':ns.getD ((fr.getD 0 0)).toNat ((0,0,0,[]):A4)=(yk,ya,yb,yf):=hy
   have hfy:=fun f h=>O0 (p:=(pi,ts,ns,os)) hF (i:=(fr.getD 0 0)) hrg (f:=f) h
   have hlyy:=((L3 hF).2 (E8 (pi,ts,ns,os) (fr.getD 0 0)) (B9 (show ((fr.getD 0 0)).toNat < ns.length by omega))).2.1
   rw[hy] at hfy hlyy
   have hly:yf.length≤1099511627776:=by have h:yf.length≤3:=hlyy;omega
   have hsum:ka+ya≤16∧1≤ya:=by
     have hlf2:(E8 (pi,ts,ns,os) nd).2.2.2.length=1:=by rw[hx];exact hlf
     unfold A9A at hgk;rw[B22 hlf2,hx] at hgk;simp only[Bool.and_eq_true,decide_eq_true_eq] at hgk
     have e:E8 (pi,ts,ns,os) (P4 (kd,ka,kb,fr) 0)=(yk,ya,yb,yf):=hy
     rw[e] at hgk;obtain⟨_,q2,_⟩:=r6 (p:=(pi,ts,ns,os)) hF (i:=(fr.getD 0 0)) hrg
     rw[hy] at q2;have q3:=q2 hgk.2.2.1
     exact⟨hgk.2.2.2,q3.1⟩
   have hw:IntKind.i64.wrap (ka+ya)=ka+ya:=G9 (by have:=h6 hk6;omega)
   have hap:ns.set nd.toNat (6,ka+ya,0,yf)=(U7 (pi,ts,ns,os) 6 nd).2.2.1:=by
     show _=(U3 (pi,ts,ns,os) nd (6,(E8 (pi,ts,ns,os) nd).2.1+(E8 (pi,ts,ns,os) (P4 (E8 (pi,ts,ns,os) nd) 0)).2.1,0,(E8 (pi,ts,ns,os) (P4 (E8 (pi,ts,ns,os) nd) 0)).2.2.2)).2.2.1
     rw[hx];show _=(U3 (pi,ts,ns,os) nd (6,ka+(E8 (pi,ts,ns,os) (fr.getD 0 0)).2.1,0,(E8 (pi,ts,ns,os) (fr.getD 0 0)).2.2.2)).2.2.1
     rw[hy];rfl
   refine oS fun _ hK19=>?_
   refine oR F1
     [[],[0],[0,1],[0,1,2],[],[4],[4,5],[4,5,6],[4,5,6,7],[4,5,6,7,8],[0,1,2,3,4,5,6,7,8,9],[0,1,2,3,4,5,6,7,8,9,10],[],[0,1,2,3,4,5,6,7,8,9,10,11,12]]
     [[292],[292],[292],[292],[292],[292],[292],[292],[292],[292],[292],[292],[],[]]
     [[],[],[],[],[],[],[],[],[],[],[],[],[292],[]] (by kernel_rfl) (by kernel_rfl) (B7 (acc:=[]) ?_)
   simp (maxSteps:=2000000)only[hx',hy',go_sem];repeat(with_reducible first|refine oD ?_|refine And.intro (by first|omega|exact hrg) ?_)
   refine hK19 _ ?_
   refine oR F1
     [[],[],[1],[1,2],[1,2,3],[],[5],[1,2,3,4,5,6],[],[8],[8,9],[1,2,3,4,5,6,7,8,9,10],[0,1,2,3,4,5,6,7,8,9,10,11],[0,1,2,3,4,5,6,7,8,9,10,11,12]]
     [[2452,2453,2454,2455,2456,2457,2458,2459,2460,2461,2462,2463,2464,2465,2466,2467],[2452,2453,2454,2455,2456,2457,2458,2459,2460,2461,2462,2463,2464,2465,2466,2467],[2452,2453,2454,2455,2456,2457,2458,2459,2460,2461,2462,2463,2464,2465,2466,2467],[2452,2453,2454,2455,2456,2457,2458,2459,2460,2461,2462,2463,2464,2465,2466,2467],[2452,2453,2454,2455,2456,2457,2458,2459,2460,2461,2462,2463,2464,2465,2466,2467],[2452,2453,2454,2455,2456,2457,2458,2459,2460,2461,2462,2463,2464,2465,2466,2467],[2452,2453,2454,2455,2456,2457,2458,2459,2460,2461,2462,2463,2464,2465,2466,2467],[2452,2453,2454,2455,2456,2457,2458,2459,2460,2461,2462,2463,2464,2465,2466,2467],[],[],[],[],[],[]]
     [[],[],[],[],[],[],[],[],[],[],[2452,2453,2454,2455,2456,2457,2458,2459,2460,2461,2462,2463,2464,2465,2466,2467],[],[],[]] (by kernel_rfl) (by kernel_rfl) (B7 (acc:=[]) ?_)
   simp (maxSteps:=2000000)only[List.nodup_cons,List.nodup_nil,List.not_mem_nil,not_false_eq_true,hx',hw,go_sem];repeat(with_reducible first|refine oD ?_|refine And.intro (by first|exact hly|omega) ?_)
   refine hK4 _ (oK ?_) ?_
   ·
    simp (maxSteps:=2000000)only[go_sem];all_goals((repeat' refine And.intro ?_ ?_)<;>first|rfl|(congr 1;done)|(unfold U7 U3;rw[hfk];rfl)|(show _=(U7 (pi,ts,ns,os) 4 nd).2.2.1;unfold U7 U3;simp only[hfk];rfl)|exact hap|(congr 1;exact hap))
   ·
    trivial
  intro c6;have h7:rl=7:=by cases hR<;>first|rfl|(exfalso;omega)
  subst h7;refine oW F1 ?_;simp (maxSteps:=2000000)only[List.nodup_cons,List.nodup_nil,List.not_mem_nil,not_false_eq_true,go_sem];repeat(with_reducible first|refine oA ?_|refine And.intro (by first|exact hF|exact hct|exact True.intro) ?_)
  refine hK4 _ (oK ?_) ?_
  ·
   simp (maxSteps:=2000000)only[go_sem];all_goals((repeat' refine And.intro ?_ ?_)<;>first|rfl|(congr 1;done)|(unfold U7 U3;rw[hfk];rfl)|(show _=(U7 (pi,ts,ns,os) 4 nd).2.2.1;unfold U7 U3;simp only[hfk];rfl)|exact hap|(congr 1;exact hap))
  ·
   trivial
def A48:F8:=fun f=>if f=81 then some (.p A0g) else B1p f
theorem A9Q:B8 Tryz.prog A48:=F9 B3d (B6 Tryz.func81 rfl (by decide)) F1
attribute [go_sem] A48 A0g
end Go.Proofs.YtflobmmbhaofbaaGreat
