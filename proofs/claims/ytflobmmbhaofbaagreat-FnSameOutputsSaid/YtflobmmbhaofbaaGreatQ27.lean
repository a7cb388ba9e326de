/-
  Texts of this claim, joined (part 27). No condition beyond those of the theorems.
-/
import Derived.Test.YtflobmmbhaofbaaGreatQ26
namespace Go.Proofs.YtflobmmbhaofbaaGreat
open Go.RowKit
set_option linter.unusedSimpArgs false
set_option linter.unusedVariables false
set_option maxRecDepth 100000
set_option maxHeartbeats 8000000
def A1M:Con:=⟨[.ptr (.prod (.int .i64) (.prod (.row 26 (.row 2 (.int .i64))) (.prod (.row 56 (.prod (.int .i64) (.prod (.int .i64) (.prod (.int .i64) (.row 2 (.int .i64)))))) (.row 2 (.int .i64))))),.val ((.row 2 (.int .i64))),.val (.int .i64)],[⟨.int .i64,true⟩],fun x=>C5 x.1=true∧(∀j∈x.2.1,0≤j∧j < x.1.2.2.1.length)∧0≤x.2.2.1∧x.2.2.1 < x.1.2.2.1.length,fun x=>s6 x.1 x.2.1 x.2.2.1⟩
theorem B5h:D4 Tryz.prog 99 A1M:=by
  refine A7 Tryz.func99 rfl ?_
  have hres:Tryz.f99.results.toList=[.tmp 6]:=rfl
  rintro⟨⟨(pi:Int),(ts:List (List Int)),(ns:List A4),(os:List Int)⟩,(need:List Int),(nd:Int),_⟩ hc hL
  simp only[A1M,go_sem] at hL
  simp only[A1M,St.init,St.initG,Tryz.ntmps99,go_sem] 
  obtain⟨hF,hn,h0,h1⟩:=(show C5 (pi,ts,ns,os)=true∧(∀j∈need,0≤j∧j < ns.length)∧0≤nd∧nd < ns.length from hc)
  rcases hx:E8 (pi,ts,ns,os) nd with⟨kd,ka,kb,fr⟩
  have hx':ns.getD nd.toNat ((0,0,0,[]):A4)=(kd,ka,kb,fr):=hx
  have hfr:=fun f h=>O0 (p:=(pi,ts,ns,os)) hF (i:=nd) ⟨h0,h1⟩ (f:=f) h
  have hab:=r6 (p:=(pi,ts,ns,os)) hF (i:=nd) ⟨h0,h1⟩
  have hl3:=((L3 hF).2 (E8 (pi,ts,ns,os) nd) (B9 (show nd.toNat < ns.length by omega))).2.1
  rw[hx] at hfr hab hl3
  simp only at hfr hab hl3
  obtain⟨hA,h6,h2,h1',h3⟩:=hab;have hf0:0 < fr.length→0≤fr.getD 0 0∧fr.getD 0 0 < ns.length:=fun h=>hfr _ (B9 h)
  have hf1:1 < fr.length→0≤fr.getD 1 0∧fr.getD 1 0 < ns.length:=fun h=>hfr _ (B9 h)
  obtain⟨inr,hin⟩:∃inr,(B2Z (pi,ts,ns,os) nd)=inr:=⟨_,rfl⟩
  have hcf:C5 (pi,ts,ns,os)=true∧0≤nd∧nd < ns.length:=⟨hF,h0,h1⟩
  have hct:(∀j∈need,0≤j∧j < ns.length)∧0≤nd∧nd < ns.length:=⟨hn,h0,h1⟩
  have hi1:fr.length=1→fr.getD 0 0=inr:=fun h=>by
    have e:=B22 (p:=(pi,ts,ns,os)) (i:=nd) (by rw[hx];exact h)
    rw[hin,hx] at e;exact e.symm
  have hi0:¬fr.length=1→-1=inr:=fun h=>by
    rw[←hin];unfold B2Z;rw[hx,decide_eq_false h]
  have hi5:kd=5∨kd=6→0≤inr∧inr < ns.length:=fun h=>by
    have hl:fr.length=1:=h1' (by omega)
    rw[←hi1 hl];exact hf0 (by omega)
  rcases hy:E8 (pi,ts,ns,os) inr with⟨yk,ya,yb,yf⟩
  have hy':ns.getD inr.toNat ((0,0,0,[]):A4)=(yk,ya,yb,yf):=hy
  have hya:kd=6∧yk=6→IntKind.i64.wrap (ka+ya)=ka+ya:=fun h=>by
    obtain⟨q1,q2,_⟩:=r6 (p:=(pi,ts,ns,os)) hF (i:=inr) (hi5 (by omega))
    rw[hy] at q1 q2
    have q3:1≤ya∧ya≤16:=q2 h.2
    have q4:=h6 h.1
    exact G9 (by omega)
  refine oS fun _ hK1=>?_;refine oW E6 ?_;simp only[go_sem];refine hK1 _ ?_;refine oS fun _ hK2=>?_;refine oW E6 ?_;simp (maxSteps:=2000000)only[hx',go_sem];repeat(with_reducible first|refine oA ?_|refine And.intro (by first|exact⟨h0,h1⟩|omega) ?_)
  refine hK2 _ ?_;refine oS fun _ hK3=>?_;refine oS fun _ hK4=>?_;refine oW E6 ?_;simp only[go_sem];repeat(with_reducible refine oA ?_)
  refine hK4 _ ?_;refine oC rfl ?_ ?_
  ·
   intro c0;refine oS fun _ hK5=>?_;refine oW E6 ?_;simp only[go_sem];refine hK5 _ ?_;refine A2 ?_;simp only[hres,go_sem]
   first
    | exact oF
    | refine ⟨?_, oF⟩
      clear hK1 hK2 hK3 hK4 hK5;clear hc hcf hct;unfold s6;first|(simp only[*,decide_true,decide_false,Bool.true_or,Bool.or_true,Bool.or_false,Bool.false_or,Bool.true_and,Bool.and_true,Bool.false_and,Bool.and_false,Bool.not_true,Bool.not_false];first|done|rfl)|rfl
  intro c0;refine A3 ?_;simp only[go_sem];refine hK3 _ ?_;refine oS fun _ hK6=>?_;refine oW E6 ?_;simp only[go_sem];refine hK6 _ ?_;refine N9 (True) ⟨[.c (.pt [] ((.prod (.int .i64) (.prod (.row 26 (.row 2 (.int .i64))) (.prod (.row 56 (.prod (.int .i64) (.prod (.int .i64) (.prod (.int .i64) (.row 2 (.int .i64)))))) (.row 2 (.int .i64)))))) (pi,ts,ns,os) 0),.c (.rd [] 2 (.int .i64) (need)),.c (.sc (.int .i64 (nd))),zz,zz,zz,zz,.c (.pt [] ((.prod (.int .i64) (.prod (.int .i64) (.prod (.int .i64) (.row 2 (.int .i64)))))) (kd,ka,kb,fr) 0),.c (.sc (.int .i64 (inr))),zz,zz,zz,zz,zz,zz,zz,zz,zz,zz,zz,zz,zz,zz,zz,zz,zz,zz,zz,zz,zz,zz,zz,zz,zz,zz,zz,zz,zz,zz,zz,zz,zz,zz,zz,zz,zz,zz,zz,zz,zz,zz,zz,zz,zz,zz,zz,zz,zz,zz,zz,zz,zz,zz,zz,zz,zz,zz,zz,zz,zz,zz,zz,zz,zz,zz,zz,zz,zz,zz,zz,zz,zz,zz,zz,zz,zz,zz,zz,zz,zz,zz,zz,zz,zz,zz,zz,zz,zz,zz,zz,zz,zz,zz,zz,zz,zz,zz,zz,zz,zz,zz,zz,zz,zz,zz,zz,zz,zz,zz,zz,zz,zz,zz,zz,zz,zz,zz,zz,zz,zz,zz],[]⟩ ?_ fun _ hK7=>?_
  ·
   intro hJ;refine oS fun _ hK8=>?_;refine A5 ?_;refine oS fun _ hK9=>?_;refine oW E6 ?_;simp only[go_sem];repeat(with_reducible first|refine oA ?_|refine And.intro (by first|exact hcf) ?_)
   refine hK9 _ ?_;refine oC rfl ?_ ?_
   ·
    intro c2;refine oS fun _ hK10=>?_;refine oW E6 ?_;simp only[go_sem];refine hK10 _ ?_;refine A2 ?_;simp only[hres,go_sem]
    first
     | exact oF
     | refine ⟨?_, oF⟩
       clear hK1 hK2 hK3 hK4 hK6 hK8 hK9 hK10;clear hc hcf hct;unfold s6;first|(simp only[*,decide_true,decide_false,Bool.true_or,Bool.or_true,Bool.or_false,Bool.false_or,Bool.true_and,Bool.and_true,Bool.false_and,Bool.and_false,Bool.not_true,Bool.not_false];first|done|rfl)|rfl
   intro c2;refine oS fun _ hK11=>?_;refine oW E6 ?_;simp only[go_sem];repeat(with_reducible first|refine oA ?_|refine And.intro (by first|exact hcf) ?_)
   refine hK11 _ ?_;refine oC rfl ?_ ?_
   ·
    intro c3;refine oS fun _ hK12=>?_;refine oW E6 ?_;simp only[go_sem];refine hK12 _ ?_;refine A2 ?_;simp only[hres,go_sem]
    first
     | exact oF
     | refine ⟨?_, oF⟩
       clear hK1 hK2 hK3 hK4 hK6 hK8 hK9 hK11 hK12;clear hc hcf hct;unfold s6;first|(simp only[*,decide_true,decide_false,Bool.true_or,Bool.or_true,Bool.or_false,Bool.false_or,Bool.true_and,Bool.and_true,Bool.false_and,Bool.and_false,Bool.not_true,Bool.not_false];first|done|rfl)|rfl
   intro c3;refine oS fun _ hK13=>?_;refine oW E6 ?_;simp (maxSteps:=2000000)only[go_sem];repeat(with_reducible first|refine oA ?_|refine And.intro (by first|exact hcf) ?_)
   refine hK13 _ ?_;refine oC rfl ?_ ?_
   ·
    intro c4;have k4:=decide_eq_true (show 0≤r4 (pi,ts,ns,os) nd by omega)
    refine oS fun _ hK14=>?_;refine oW E6 ?_;simp only[go_sem];refine hK14 _ ?_;refine A2 ?_;simp only[hres,go_sem]
    first
     | exact oF
     | refine ⟨?_, oF⟩
       clear hK1 hK2 hK3 hK4 hK6 hK8 hK9 hK11 hK13 hK14;clear hc hcf hct;unfold s6;first|(simp only[*,decide_true,decide_false,Bool.true_or,Bool.or_true,Bool.or_false,Bool.false_or,Bool.true_and,Bool.and_true,Bool.false_and,Bool.and_false,Bool.not_true,Bool.not_false];first|done|rfl)|rfl
   intro c4;have k4:=decide_eq_false (show ¬0≤r4 (pi,ts,ns,os) nd by omega)
   refine N9 True ⟨[.c (.pt [] ((.prod (.int .i64) (.prod (.row 26 (.row 2 (.int .i64))) (.prod (.row 56 (.prod (.int .i64) (.prod (.int .i64) (.prod (.int .i64) (.row 2 (.int .i64)))))) (.row 2 (.int .i64)))))) (pi,ts,ns,os) 0),.c (.rd [] 2 (.int .i64) (need)),.c (.sc (.int .i64 (nd))),zz,zz,zz,zz,.c (.pt [] ((.prod (.int .i64) (.prod (.int .i64) (.prod (.int .i64) (.row 2 (.int .i64)))))) (kd,ka,kb,fr) 0),.c (.sc (.int .i64 (inr))),zz,zz,zz,zz,zz,zz,zz,zz,zz,zz,zz,zz,zz,zz,zz,zz,zz,zz,zz,zz,zz,zz,zz,zz,zz,zz,zz,zz,zz,zz,zz,zz,zz,zz,zz,.c (.sc (.bool (A9k (pi,ts,ns,os) nd))),zz,zz,zz,zz,zz,zz,zz,zz,zz,zz,zz,zz,zz,zz,zz,zz,zz,zz,zz,zz,zz,zz,zz,zz,zz,zz,zz,zz,zz,zz,zz,zz,zz,zz,zz,zz,zz,zz,zz,zz,zz,zz,zz,zz,zz,zz,zz,zz,zz,zz,zz,zz,zz,zz,zz,zz,zz,zz,zz,zz,zz,zz,zz,zz,zz,zz,zz,zz,zz,zz,zz,zz,zz,zz,zz,zz,zz,zz,zz,zz,zz,zz,zz,zz,zz,zz],[]⟩ ?_ fun _ hK15=>?_
   ·
    intro _;refine oC rfl ?_ ?_
    ·
     intro c5;refine oS fun _ hK16=>?_;refine oW E6 ?_;simp only[go_sem];refine hK16 _ ?_;refine A2 ?_;simp only[hres,go_sem]
     first
      | exact oF
      | refine ⟨?_, oF⟩
        clear hK1 hK2 hK3 hK4 hK6 hK8 hK9 hK11 hK13 hK16;clear hc hcf hct;unfold s6;first|(simp only[*,decide_true,decide_false,Bool.true_or,Bool.or_true,Bool.or_false,Bool.false_or,Bool.true_and,Bool.and_true,Bool.false_and,Bool.and_false,Bool.not_true,Bool.not_false];first|done|rfl)|rfl
    intro c5;refine N9 True ⟨[.c (.pt [] ((.prod (.int .i64) (.prod (.row 26 (.row 2 (.int .i64))) (.prod (.row 56 (.prod (.int .i64) (.prod (.int .i64) (.prod (.int .i64) (.row 2 (.int .i64)))))) (.row 2 (.int .i64)))))) (pi,ts,ns,os) 0),.c (.rd [] 2 (.int .i64) (need)),.c (.sc (.int .i64 (nd))),zz,zz,zz,zz,.c (.pt [] ((.prod (.int .i64) (.prod (.int .i64) (.prod (.int .i64) (.row 2 (.int .i64)))))) (kd,ka,kb,fr) 0),.c (.sc (.int .i64 (inr))),zz,zz,zz,zz,zz,zz,zz,zz,zz,zz,zz,zz,zz,zz,zz,zz,zz,zz,zz,zz,zz,zz,zz,zz,zz,zz,zz,zz,zz,zz,zz,zz,zz,zz,zz,zz,zz,zz,zz,zz,zz,zz,zz,zz,zz,zz,zz,zz,zz,zz,zz,zz,zz,zz,zz,zz,zz,zz,zz,zz,zz,.c (.sc (.bool (A9V (pi,ts,ns,os) nd))),zz,zz,zz,zz,zz,zz,zz,zz,zz,zz,zz,zz,zz,zz,zz,zz,zz,zz,zz,zz,zz,zz,zz,zz,zz,zz,zz,zz,zz,zz,zz,zz,zz,zz,zz,zz,zz,zz,zz,zz,zz,zz,zz,zz,zz,zz,zz,zz,zz,zz,zz,zz,zz,zz,zz,zz,zz,zz,zz,zz],[]⟩ ?_ fun _ hK17=>?_
    ·
     intro _;refine oC rfl ?_ ?_
     ·
      intro c6;refine oS fun _ hK18=>?_;refine oW E6 ?_;simp only[go_sem];refine hK18 _ ?_;refine A2 ?_;simp only[hres,go_sem]
      first
       | exact oF
       | refine ⟨?_, oF⟩
         clear hK1 hK2 hK3 hK4 hK6 hK8 hK9 hK11 hK13 hK18;clear hc hcf hct;unfold s6;first|(simp only[*,decide_true,decide_false,Bool.true_or,Bool.or_true,Bool.or_false,Bool.false_or,Bool.true_and,Bool.and_true,Bool.false_and,Bool.and_false,Bool.not_true,Bool.not_false];first|done|rfl)|rfl
     intro c6;refine N9 True ⟨[.c (.pt [] ((.prod (.int .i64) (.prod (.row 26 (.row 2 (.int .i64))) (.prod (.row 56 (.prod (.int .i64) (.prod (.int .i64) (.prod (.int .i64) (.row 2 (.int .i64)))))) (.row 2 (.int .i64)))))) (pi,ts,ns,os) 0),.c (.rd [] 2 (.int .i64) (need)),.c (.sc (.int .i64 (nd))),zz,zz,zz,zz,.c (.pt [] ((.prod (.int .i64) (.prod (.int .i64) (.prod (.int .i64) (.row 2 (.int .i64)))))) (kd,ka,kb,fr) 0),.c (.sc (.int .i64 (inr))),zz,zz,zz,zz,zz,zz,zz,zz,zz,zz,zz,zz,zz,zz,zz,zz,zz,zz,zz,zz,zz,zz,zz,zz,zz,zz,zz,zz,zz,zz,zz,zz,zz,zz,zz,zz,zz,zz,zz,zz,zz,zz,zz,zz,zz,zz,zz,zz,zz,zz,zz,zz,zz,zz,zz,zz,zz,zz,zz,zz,zz,zz,zz,zz,zz,zz,zz,zz,zz,zz,zz,zz,zz,zz,zz,zz,zz,zz,.c (.sc (.bool (A9A (pi,ts,ns,os) nd))),zz,zz,zz,zz,zz,zz,zz,zz,zz,zz,zz,zz,zz,zz,zz,zz,zz,zz,zz,zz,zz,zz,zz,zz,zz,zz,zz,zz,zz,zz,zz,zz,zz,zz,zz,zz,zz,zz,zz,zz,zz,zz,zz],[]⟩ ?_ fun _ hK19=>?_
     ·
      intro _;refine oC rfl ?_ ?_
      ·
       intro c7;refine oS fun _ hK20=>?_;refine oW E6 ?_;simp only[go_sem];refine hK20 _ ?_;refine A2 ?_;simp only[hres,go_sem]
       first
        | exact oF
        | refine ⟨?_, oF⟩
          clear hK1 hK2 hK3 hK4 hK6 hK8 hK9 hK11 hK13 hK20;clear hc hcf hct;unfold s6;first|(simp only[*,decide_true,decide_false,Bool.true_or,Bool.or_true,Bool.or_false,Bool.false_or,Bool.true_and,Bool.and_true,Bool.false_and,Bool.and_false,Bool.not_true,Bool.not_false];first|done|rfl)|rfl
      intro c7;refine oS fun _ hK21=>?_;refine oW E6 ?_;simp (maxSteps:=2000000)only[go_sem];repeat(with_reducible first|refine oA ?_|refine And.intro (by first|exact hct) ?_)
      refine hK21 _ ?_;refine oC rfl ?_ ?_
      ·
       intro c8;have k8:=decide_eq_true (show 0≤A2C (pi,ts,ns,os) need nd by omega)
       refine oS fun _ hK22=>?_;refine oW E6 ?_;simp only[go_sem];refine hK22 _ ?_;refine A2 ?_;simp only[hres,go_sem]
       first
        | exact oF
        | refine ⟨?_, oF⟩
          clear hK1 hK2 hK3 hK4 hK6 hK8 hK9 hK11 hK13 hK21 hK22;clear hc hcf hct;unfold s6;first|(simp only[*,decide_true,decide_false,Bool.true_or,Bool.or_true,Bool.or_false,Bool.false_or,Bool.true_and,Bool.and_true,Bool.false_and,Bool.and_false,Bool.not_true,Bool.not_false];first|done|rfl)|rfl
      intro c8;have k8:=decide_eq_false (show ¬0≤A2C (pi,ts,ns,os) need nd by omega)
      refine A3 ?_;simp only[go_sem];refine hK8 _ ?_;refine oS fun _ hK23=>?_;refine oW E6 ?_;simp only[go_sem];refine hK23 _ ?_;refine A2 ?_;simp only[hres,go_sem]
      first
       | exact oF
       | refine ⟨?_, oF⟩
         clear hK1 hK2 hK3 hK4 hK6 hK8 hK9 hK11 hK13 hK21 hK23;clear hc hcf hct;unfold s6;first|(simp only[*,decide_true,decide_false,Bool.true_or,Bool.or_true,Bool.or_false,Bool.false_or,Bool.true_and,Bool.and_true,Bool.false_and,Bool.and_false,Bool.not_true,Bool.not_false];first|done|rfl)|rfl
     refine oR E6
       [[],[0],[0,1],[0,1,2],[0,1,2,3],[0,1,2,3,4],[0,1,2,3,4,5],[0,1,2,3,4,5],[0,1,2,3,4,5,6,7],[0,1,2,3,4,5,6,7,8],[0,1,2,3,4,5,6,7,8,9],[0,1,2,3,4,5,6,7,8,9,10],[0,1,2,3,4,5,6,7,8,9,10,11],[0,1,2,3,4,5,6,7,8,9,10,11,12],[0,1,2,3,4,5,6,7,8,9,10,11,12,13],[0,1,2,3,4,5,6,7,8,9,10],[0,1,2,3,4,5,6,7,8,9,10,11,12,13,14,15],[0,1,2,3,4,5,6,7,8,9,10,11,12,13,14,15,16],[0,1,2,3,4,5,6,7,8,9,10,11,12,13,14,15,16,17],[0,1,2,3,4,5,6,7,8,9,10,11,12,13,14,15,16,17,18],[0,1,2,3,4,5,6,7,8,9,10,11,12,13,14,15,16,17,18,19],[0,1,2,3,4,5,6,7,8,9,10,11,12,13,14,15,16,17,18,19,20],[0,1,2,3,4,5,6,7,8,9,10,11,12,13,14,15,16,17,18,19,20,21],[0,1,2,3,4,5,6,7,8,9,10,11,12,13,14,15,16,17,18,19,20,21,22],[0,1,2,3,4,5,6,7,8,9,10,11,12,13,14,15,16,17,18,19,20,21,22,23],[0,1,2,3,4,5,6,7,8,9,10,11,12,13,14,15,16,17,18,19,20,21,22,23,24],[0,1,2,3,4,5,6,7,8,9,10,11,12,13,14,15,16,17,18,19,20,21],[0,1,2,3,4,5,6,7,8,9,10,11,12,13,14,15,16,17,18,19,20,21,26],[0,1,2,3,4,5,6,7,8,9,10,11,12,13,14,15,16,17,18,19,20,21,26,27],[0,1,2,3,4,5,6,7,8,9,10,11,12,13,14,15,16,17,18,19,20,21,26,27,28],[0,1,2,3,4,5,6,7,8,9,10,11,12,13,14,15,16,17,18,19,20,21],[0,1,2,3,4,5,6,7,8,9,10,11,12,13,14,15,16,17,18,19,20,21,26,27,28,29,30],[0,1,2,3,4,5,6,7,8,9,10,11,12,13,14,15,16,17,18,19,20,21,26,27,28,29,30,31],[0,1,2,3,4,5,6,7,8,9,10,11,12,13,14,15,16,17,18,19,20,21,26,27,28,29,30,31,32],[0,1,2,3,4,5,6,7,8,9,10,11,12,13,14,15,16,17,18,19,20,21,22,23,24,25,26,27,28,29,30,31,32,33],[0,1,2,3,4,5,6,7,8,9,10,11,12,13,14,15,16,17,18,19,20,21,22,23,24,25,26,27,28,29,30,31,32,33,34],[0,1,2,3,4,5,6,7,8,9,10,11,12,13,14,15,16,17,18,19,20,21,22,23,24,25,26,27,28,29,30,31,32,33,34,35],[0,1,2,3,4,5,6,7,8,9,10,11,12,13,14,15,16,17,18,19,20,21,22,23,24,25,26,27,28,29,30,31,32,33,34,35,36]]
       [[],[],[],[],[],[],[],[],[],[],[],[],[],[],[],[],[],[],[],[],[],[],[],[],[],[],[],[],[],[],[],[],[],[],[],[],[],[]]
       [[],[],[],[],[],[],[],[],[],[],[],[],[],[],[],[],[],[],[],[],[],[],[],[],[],[],[],[],[],[],[],[],[],[],[],[],[],[]] (by kernel_rfl) (by kernel_rfl) (B7 (acc:=[]) ?_)
     simp (maxSteps:=2000000)only[hy',go_sem];repeat' (with_reducible first|refine oD ?_|refine And.intro (by first|exact hi5 (by omega)|omega) ?_|refine oT (fun g17=>?_) (fun g17=>?_)|refine oE (fun g17=>?_) (fun g17=>?_))
     all_goals
      refine hK19 _ (oK ?_) trivial
      simp (maxSteps:=2000000)only[go_sem];all_goals(first|rfl|(have e:A9A (pi,ts,ns,os) nd=(decide (kd=6) && (!decide (inr=nd) && (decide (yk=6) && decide (ka+ya≤16)))):=(by unfold A9A;rw[hin,hx];rw[hy];first|done|rfl);rw[e];first|(rw[hya (by omega),decide_eq_true (show kd=6 by assumption),decide_eq_false (show ¬inr=nd by assumption),decide_eq_true (show yk=6 by assumption)];first|done|rfl)|(symm;simp only[Bool.and_eq_false_iff,decide_eq_false_iff_not,Bool.not_eq_false',decide_eq_true_eq];first|done|omega)))
    refine oW E6 ?_;simp (maxSteps:=2000000)only[hy',go_sem];repeat' (with_reducible first|refine oA ?_|refine And.intro (by first|exact hi5 (by omega)|omega) ?_|refine oT (fun g15=>?_) (fun g15=>?_)|refine oE (fun g15=>?_) (fun g15=>?_))
    all_goals
     refine hK17 _ (oK ?_) trivial
     simp (maxSteps:=2000000)only[go_sem];all_goals(first|rfl|(have e:A9V (pi,ts,ns,os) nd=(decide (kd=5) && decide (yk=5)):=(by unfold A9V;rw[hin,hx];rw[hy];first|done|rfl);rw[e];first|(rw[decide_eq_true (show kd=5 by assumption),Bool.true_and];first|done|rfl)|(rw[decide_eq_false (show ¬kd=5 by assumption)];first|done|rfl)))
   refine oW E6 ?_;simp (maxSteps:=2000000)only[go_sem];repeat' (with_reducible first|refine oA ?_|refine And.intro (by first|omega|exact hf0 (by omega)|exact hf1 (by omega)|exact⟨(hf0 (by omega)).1,(hf0 (by omega)).2⟩) ?_|refine oT (fun g13=>?_) (fun g13=>?_)|refine oE (fun g13=>?_) (fun g13=>?_))
   all_goals
    refine hK15 _ (oK ?_) trivial
    simp (maxSteps:=2000000)only[go_sem];all_goals(first|rfl|(have e:A9k (pi,ts,ns,os) nd=(decide (kd=9) && (isC (pi,ts,ns,os) (fr.getD 0 0) || isC (pi,ts,ns,os) (fr.getD 1 0))):=(by unfold A9k;rw[hx];first|done|rfl);rw[e];first|(rw[decide_eq_true (show kd=9 by assumption),show isC (pi,ts,ns,os) (fr.getD 0 0)=false by assumption];first|done|(simp;done))|(rw[decide_eq_true (show kd=9 by assumption),show isC (pi,ts,ns,os) (fr.getD 0 0)=true by assumption];first|done|rfl)|(rw[decide_eq_false (show ¬kd=9 by assumption)];first|done|rfl)))
  refine oS fun _ hK24=>?_;refine oW E6 ?_;simp (maxSteps:=2000000)only[go_sem];repeat(with_reducible refine oA ?_)
  refine hK24 _ ?_;refine oC rfl ?_ ?_
  ·
   intro c1;have e8:fr.getD 0 0=inr:=hi1 (by first|assumption|omega)
   refine oW E6 ?_;simp (maxSteps:=2000000)only[go_sem];repeat(with_reducible first|refine oA ?_|refine And.intro (by first|omega) ?_)
   refine hK7 _ (oK ?_) ?_
   ·
    simp (maxSteps:=2000000)only[go_sem];all_goals(first|rfl|((repeat' refine And.intro ?_ ?_)<;>first|rfl|exact e8|(congr 1;done)))
   ·
    trivial
  intro c1;have e8:-1=inr:=hi0 (by first|assumption|omega)
  refine A3 ?_;simp only[go_sem];refine hK7 _ (oK ?_) ?_
  ·
   simp (maxSteps:=2000000)only[go_sem];all_goals(first|rfl|((repeat' refine And.intro ?_ ?_)<;>first|rfl|exact e8|(congr 1;done)))
  ·
   trivial
def A66:F8:=fun f=>if f=99 then some (.p A1M) else A3X f
theorem B21:B8 Tryz.prog A66:=F9 B5h (B6 Tryz.func99 rfl (by decide)) E6
attribute [go_sem] A66 A1M
end Go.Proofs.YtflobmmbhaofbaaGreat
