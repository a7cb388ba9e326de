/-
  Texts of this claim, joined (part 46). No condition beyond those of the theorems.
-/
import Derived.Test.YtenjbehedcegdaaGreatQ44
import Derived.Test.YtenjbehedcegdaaGreatQ45
import Derived.Test.YtenjbehedcegdaaGreatQ02
namespace Go.Proofs.YtenjbehedcegdaaGreat
open Go.RowKit
set_option linter.unusedSimpArgs false
set_option linter.unusedVariables false
set_option maxRecDepth 100000
set_option maxHeartbeats 4000000
def u0:Con:=⟨[.ptr (.prod (.int .i64) (.prod (.row 26 (.row 2 (.int .i64))) (.prod (.row 67 (.prod (.int .i64) (.prod (.int .i64) (.prod (.int .i64) (.row 2 (.int .i64)))))) (.row 2 (.int .i64)))))],[⟨(.row 2 (.int .i64)),true⟩,⟨.bool,true⟩],fun x=>E4 x.1=true,fun x=>B0h x.1.2.2.1⟩
theorem B09:C8 Tryz.prog 53 u0:=by
  refine A4 Tryz.func53 rfl ?_
  have hres:Tryz.f53.results.toList=[.tmp 2,.tmp 3]:=rfl
  rintro⟨⟨(pi:Int),(ts:List (List Int)),(ns:List B1),(os:List Int)⟩,_⟩ hc hL
  simp only[u0,go_sem] at hL
  obtain⟨⟨lts,lts2⟩,⟨lns,lns2⟩,los⟩:=hL
  simp only[u0,St.init,St.initG,Tryz.ntmps53,go_sem] 
  have hfm:E4 (pi,ts,ns,os)=true:=hc
  have hn24:ns.length≤24:=(C0 hfm).1
  refine oS fun _ hK1=>?_;refine oW H0 ?_;simp only[go_sem];refine hK1 _ ?_;refine oS fun _ hK2=>?_;refine oW H0 ?_;simp only[go_sem];repeat(with_reducible refine oA ?_)
  refine hK2 _ ?_;refine oS fun _ hK3=>?_;refine A3 ?_;refine A8 (ι:={ out:List Int // A1y ns (ns.length - out.length) out=E3 ns∧out.length≤ns.length }) (fun k=>⟨[.c (.pt [] ((.prod (.int .i64) (.prod (.row 26 (.row 2 (.int .i64))) (.prod (.row 67 (.prod (.int .i64) (.prod (.int .i64) (.prod (.int .i64) (.row 2 (.int .i64)))))) (.row 2 (.int .i64)))))) (pi,ts,ns,os) 0),zz,zz,zz,.c (.ow 9001),zz,zz,zz,zz,zz,zz,zz,zz,zz,zz,zz,zz,zz,zz,zz,zz,zz,zz,zz,zz,zz,zz,zz,zz,zz,zz,zz,zz,zz,zz,zz,zz,zz,zz,zz,zz,zz,zz,zz,zz,zz,zz,zz,zz,zz,zz,zz],[(9001,.row 2 (.int .i64) (k.1) [])]⟩) (fun k=>ns.length - k.1.length) ⟨[],rfl,by simp⟩ ?_ ?_
  ·
   refine oK ?_;simp (maxSteps:=2000000)only[go_sem];all_goals(first|rfl|((repeat' refine And.intro ?_ ?_)<;>first|rfl|simp))
  rintro⟨out,ho1,ho2⟩ K4 hL4
  refine oS fun _ hK5=>?_;refine oS fun _ hK6=>?_;refine oW H0 ?_;simp (maxSteps:=2000000)only[go_sem];repeat(with_reducible refine oA ?_)
  refine hK6 _ ?_;refine oC rfl ?_ ?_
  ·
   intro c0;refine A2 ?_;simp only[go_sem];refine hK5 _ ?_;refine A3 ?_;refine oS fun _ hK7=>?_;refine oW H0 ?_;simp only[go_sem];refine hK7 _ ?_;refine oS fun _ hK8=>?_;refine oS fun _ hK9=>?_;refine oW H0 ?_;simp only[go_sem];refine hK9 _ ?_;refine A3 ?_;refine A8 (ι:={ s:Nat × Int // s.1≤ns.length∧-1≤s.2∧(s.2 < 0→∀j,j < s.1→P7 ns out j=false)∧(0≤s.2→∃i,i < ns.length∧s.2=(i:Int)∧(∀j,j < i→P7 ns out j=false)∧P7 ns out i=true) }) (fun k=>⟨[.c (.pt [] ((.prod (.int .i64) (.prod (.row 26 (.row 2 (.int .i64))) (.prod (.row 67 (.prod (.int .i64) (.prod (.int .i64) (.prod (.int .i64) (.row 2 (.int .i64)))))) (.row 2 (.int .i64)))))) (pi,ts,ns,os) 0),zz,zz,zz,.c (.ow 9001),.c (.sc (.int .i64 (k.1.2))),.c (.sc (.int .i64 (k.1.1))),zz,zz,zz,zz,zz,zz,zz,zz,zz,zz,zz,zz,zz,zz,zz,zz,zz,zz,zz,zz,zz,zz,zz,zz,zz,zz,zz,zz,zz,zz,zz,zz,zz,zz,zz,zz,zz,zz,zz,zz,zz,zz,zz,zz,zz],[(9001,.row 2 (.int .i64) (out) [])]⟩) (fun k=>ns.length - k.1.1) ⟨(0,-1),by simp,by simp,by simp,by simp⟩ ?_ ?_
   ·
    refine oK ?_;simp (maxSteps:=2000000)only[go_sem];all_goals(first|rfl|((repeat' refine And.intro ?_ ?_)<;>first|rfl|simp))
   rintro⟨⟨i,nx⟩,hi,hn1,hn2,hn3⟩ K10 hL10
   simp only at hi hn1 hn2 hn3
   refine oS fun _ hK11=>?_;refine oS fun _ hK12=>?_;refine oW H0 ?_;simp (maxSteps:=2000000)only[go_sem];repeat' (with_reducible first|refine oA ?_|refine oT (fun g5=>?_) (fun g5=>?_)|refine oE (fun g5=>?_) (fun g5=>?_))
   all_goals
    refine hK12 _ ?_;refine D5 rfl ?_ ?_
    ·
     intro c1;try simp only[zA,zB,zC,zD,zE,zF,zG,zH,zI] at c1
     all_goals
      refine A2 ?_;simp only[go_sem];refine hK11 _ ?_;refine oS fun _ hK13=>?_;refine A3 ?_;refine oS fun _ hK14=>?_;refine oW H0 ?_;simp (maxSteps:=2000000)only[go_sem];repeat' (with_reducible first|refine oA ?_|refine oT (fun g7=>?_) (fun g7=>?_)|refine oE (fun g7=>?_) (fun g7=>?_))
      all_goals
       refine hK14 _ ?_;refine D5 rfl ?_ ?_
       ·
        intro c2;try simp only[zA,zB,zC,zD,zE,zF,zG,zH,zI] at c2
        all_goals
         have hRt:P7 ns out i=true:=by unfold P7;clear hK1 hK2 hK3 hL4 hK5 hK6 hK7 hK8 hK9 hL10 hK11 hK12 hK13 hK14;simp_all
         refine oW H0 ?_;simp only[go_sem];refine hK13 _ ?_;refine oW H0 ?_;simp only[go_sem];first|(refine hL10 ⟨(i+1,(i:Int)),by omega,by omega,by omega,fun _=>⟨i,by omega,rfl,hn2 (by omega),hRt⟩⟩ _ (oK ?_) ?_)|(refine hL10 ⟨(i+1,nx),by omega,by omega,fun h j hj=>by rcases Nat.lt_succ_iff_lt_or_eq.1 hj with h'|h';exact hn2 h j h';subst h';exact hR,hn3⟩ _ (oK ?_) ?_)
         ·
          simp (maxSteps:=2000000)only[go_sem];all_goals((repeat' refine And.intro ?_ ?_)<;>first|rfl|exact wk (by omega)|simp)
         ·
          simp only[];omega
       ·
        intro c2;try simp only[zA,zB,zC,zD,zE,zF,zG,zH,zI] at c2
        all_goals
         have hR:P7 ns out i=false:=by unfold P7;clear hK1 hK2 hK3 hL4 hK5 hK6 hK7 hK8 hK9 hL10 hK11 hK12 hK13 hK14;simp_all
         refine A2 ?_;simp only[go_sem];refine hK13 _ ?_;refine oW H0 ?_;simp only[go_sem];first|(refine hL10 ⟨(i+1,(i:Int)),by omega,by omega,by omega,fun _=>⟨i,by omega,rfl,hn2 (by omega),hRt⟩⟩ _ (oK ?_) ?_)|(refine hL10 ⟨(i+1,nx),by omega,by omega,fun h j hj=>by rcases Nat.lt_succ_iff_lt_or_eq.1 hj with h'|h';exact hn2 h j h';subst h';exact hR,hn3⟩ _ (oK ?_) ?_)
         ·
          simp (maxSteps:=2000000)only[go_sem];all_goals((repeat' refine And.intro ?_ ?_)<;>first|rfl|exact wk (by omega)|simp)
         ·
          simp only[];omega
    ·
     intro c1;try simp only[zA,zB,zC,zD,zE,zF,zG,zH,zI] at c1
     all_goals
      have hs0:nx < 0→A18 ns out=none:=fun h=>A2x fun j hj=>hn2 h j (by omega)
      have hs1:=hn3
      refine B6 ?_;simp only[go_sem];refine hK8 _ ?_;refine oS fun _ hK15=>?_;refine oS fun _ hK16=>?_;refine oW H0 ?_;simp only[go_sem];refine hK16 _ ?_;refine D5 rfl ?_ ?_
      ·
       intro c3;try simp only[zA,zB,zC,zD,zE,zF,zG,zH,zI] at c3
       all_goals
        have hnx:A18 ns out=none:=hs0 (by omega)
        refine oS fun _ hK17=>?_;refine oW H0 ?_;simp only[go_sem];refine hK17 _ ?_;refine A0 ?_;simp only[hres,go_sem]
        first
         | exact oF
         | refine ⟨?_, oF⟩
           unfold B0h;rw[decide_eq_false (by rw[←ho1,A6j _ hnx];omega)]
      ·
       intro c3;try simp only[zA,zB,zC,zD,zE,zF,zG,zH,zI] at c3
       all_goals
        obtain⟨i,hi,hst,hno,hR⟩:=hs1 (by omega)
        have hnx:A18 ns out=some i:=A5k hi hno hR
        refine A2 ?_;simp only[go_sem];refine hK15 _ ?_;refine oW H0 ?_;simp (maxSteps:=2000000)only[go_sem];repeat(with_reducible refine oA ?_)
        refine hL4 ⟨out++[(i:Int)],by rw[←ho1,show ns.length - out.length=(ns.length - out.length - 1)+1 by omega,A6e hnx,List.length_append];rfl,by simp;omega⟩ _ (oK ?_) ?_
        ·
         simp (maxSteps:=2000000)only[go_sem];all_goals((repeat' refine And.intro ?_ ?_)<;>first|rfl|(rw[hst];rfl)|simp[hst])
        ·
         simp only[List.length_append,List.length_cons,List.length_nil];omega
  intro c0;refine B6 ?_;simp only[go_sem];refine hK3 _ ?_;refine oS fun _ hK18=>?_;refine oW H0 ?_;simp only[go_sem];refine hK18 _ ?_;refine A0 ?_;simp only[hres,go_sem]
  first
   | exact oF
   | refine ⟨?_, oF⟩
     have he:E3 ns=out:=by rw[←ho1,show ns.length - out.length=0 by omega];rfl
     unfold B0h;rw[decide_eq_true (by rw[he];omega),he]
def A2y:G4:=fun f=>if f=53 then some (.p u0) else A1a f
theorem A7C:B5 Tryz.prog A2y:=F8 B09 (B0 Tryz.func53 rfl (by decide)) H0
attribute [go_sem] A2y u0
set_option maxRecDepth 100000
set_option maxHeartbeats 1000000
def A8E:G4:=fun f=>match A1b f with
 | some k=>some k
 | none=>A2y f
theorem Z2:B5 Tryz.prog A8E:=W6 A6C A7C
attribute [go_sem] A8E T0
def A3I:Con:=⟨[.ptr (.prod (.int .i64) (.prod (.row 26 (.row 2 (.int .i64))) (.prod (.row 67 (.prod (.int .i64) (.prod (.int .i64) (.prod (.int .i64) (.row 2 (.int .i64)))))) (.row 2 (.int .i64)))))],[⟨.bool,true⟩],fun _=>True,fun x=>G3 x.1⟩
theorem B6l:C8 Tryz.prog 19 A3I:=by
  refine A4 Tryz.func19 rfl ?_
  have hres:Tryz.f19.results.toList=[.tmp 2]:=rfl
  rintro⟨⟨(pi:Int),(ts:List (List Int)),(ns:List B1),(os:List Int)⟩,_⟩ hc hL
  simp only[A3I,go_sem] at hL
  obtain⟨⟨lts,lts2⟩,⟨lns,lns2⟩,los⟩:=hL
  simp only[A3I,St.init,St.initG,Tryz.ntmps19,go_sem] 
  refine oS fun _ hK1=>?_;refine oW Z2 ?_;simp only[go_sem];repeat(with_reducible first|refine oA ?_|refine And.intro (by first|assumption) ?_)
  refine hK1 _ ?_;refine oS fun _ hK2=>?_;refine oS fun _ hK3=>?_;refine oW Z2 ?_;simp only[go_sem];repeat(with_reducible first|refine oA ?_|refine And.intro (by first|assumption) ?_)
  refine hK3 _ ?_;refine oC rfl ?_ ?_
  ·
   intro c0;refine oS fun _ hK4=>?_;refine oW Z2 ?_;simp only[go_sem];repeat(with_reducible first|refine oA ?_|refine And.intro (by first|assumption) ?_)
   refine hK4 _ ?_;refine A0 ?_;simp only[hres,go_sem];first|exact oF|(refine⟨?_,oF⟩;clear hK1 hK2 hK3 hK4;unfold G3;simp_all [B0h]<;>(split<;>simp_all))
  intro c0;refine A2 ?_;simp only[go_sem];refine hK2 _ ?_;refine oS fun _ hK5=>?_;refine oW Z2 ?_;simp (maxSteps:=2000000)only[go_sem];repeat(with_reducible first|refine oA ?_|refine And.intro (by first|assumption) ?_)
  refine hK5 _ ?_;refine oS fun _ hK6=>?_;refine oW Z2 ?_;simp only[go_sem];repeat(with_reducible first|refine oA ?_|refine And.intro (by first|assumption) ?_)
  refine hK6 _ ?_;refine A0 ?_;simp only[hres,go_sem];first|exact oF|(refine⟨?_,oF⟩;clear hK1 hK2 hK3 hK5 hK6;unfold G3;simp_all [B0h]<;>(split<;>simp_all))
def A7v:G4:=fun f=>if f=19 then some (.p A3I) else A8E f
theorem B1j:B5 Tryz.prog A7v:=F8 B6l (B0 Tryz.func19 rfl (by decide)) Z2
attribute [go_sem] A7v A3I
def A3p:G4:=A7v
theorem z7:B5 Tryz.prog A3p:=B1j
attribute [go_sem] A3p
set_option maxRecDepth 100000
set_option maxHeartbeats 1000000
def A0T:Con:=⟨[.val ((.row 5 (.int .u8)))],[⟨.bool,true⟩],fun _=>True,fun x=>decide (1048576 < (x.1.length:Int))⟩
theorem B1Q:C8 Tryz.prog 4 A0T:=by
  refine A4 Tryz.func4 rfl ?_
  have hres:Tryz.f4.results.toList=[.tmp 2]:=rfl
  rintro⟨(cd:List Int),_⟩ hc hL
  simp only[A0T,go_sem] at hL
  simp only[A0T,St.init,St.initG,Tryz.ntmps4,go_sem] 
  refine oS fun _ hK1=>?_;refine oW z7 ?_;simp only[go_sem];refine hK1 _ ?_;refine oS fun _ hK2=>?_;refine oW z7 ?_;simp only[go_sem];refine hK2 _ ?_;refine A0 ?_;simp only[hres,go_sem];first|exact oF|exact oFr
def A40:G4:=fun f=>if f=4 then some (.p A0T) else A3p f
theorem L1:B5 Tryz.prog A40:=F8 B1Q (B0 Tryz.func4 rfl (by decide)) z7
attribute [go_sem] A40 A0T
def A0Y:Con:=⟨[.val ((.row 2 (.int .i64))),.val ((.row 2 (.int .i64)))],[⟨.bool,true⟩],fun _=>True,fun x=>eqD (x.1:List Int) (x.2.1:List Int)⟩
theorem B1W:C8 Tryz.prog 34 A0Y:=by
  refine A4 Tryz.func34 rfl ?_
  have hres:Tryz.f34.results.toList=[.tmp 4]:=rfl
  rintro⟨(xs:List Int),(ys:List Int),_⟩ hc hL
  simp only[A0Y,go_sem] at hL
  obtain⟨lxs,lys⟩:=hL;simp only[A0Y,St.init,St.initG,Tryz.ntmps34,go_sem] 
  refine oS fun _ hK1=>?_;refine oW L1 ?_;simp only[go_sem];refine hK1 _ ?_;refine oS fun _ hK2=>?_;refine oS fun _ hK3=>?_;refine oW L1 ?_;simp (maxSteps:=2000000)only[go_sem];refine hK3 _ ?_;refine oC rfl ?_ ?_
  ·
   intro c0;refine oS fun _ hK4=>?_;refine oW L1 ?_;simp only[go_sem];refine hK4 _ ?_;refine A0 ?_;simp only[hres,go_sem];first|exact oF|(refine⟨?_,oF⟩;exact(B5U (by omega)).symm)
  intro c0;refine A2 ?_;simp only[go_sem];refine hK2 _ ?_;refine oS fun _ hK5=>?_;refine oS fun _ hK6=>?_;refine oW L1 ?_;simp only[go_sem];refine hK6 _ ?_;refine A3 ?_;refine A8 (ι:={ k:Nat // k≤xs.length∧xs.take k=ys.take k }) (fun k=>⟨[.c (.rd [] 2 (.int .i64) (xs)),.c (.rd [] 2 (.int .i64) (ys)),zz,zz,zz,.c (.sc (.int .i64 (k.1))),zz,zz,zz,zz,zz,zz,zz,zz,zz,zz,zz,zz,zz,zz,zz,zz,zz,zz,zz,zz],[]⟩) (fun k=>xs.length - k.1) ⟨0,by simp,by simp⟩ ?_ ?_
  ·
   refine oK ?_;simp (maxSteps:=2000000)only[go_sem];all_goals(first|rfl|((repeat' refine And.intro ?_ ?_)<;>first|rfl|simp))
  rintro⟨k,hk,hp⟩ K7 hL7
  refine oS fun _ hK8=>?_;refine oS fun _ hK9=>?_;refine oW L1 ?_;simp only[go_sem];refine hK9 _ ?_;refine oC rfl ?_ ?_
  ·
   intro c1;refine A2 ?_;simp only[go_sem];refine hK8 _ ?_;refine oS fun _ hK10=>?_;refine A3 ?_;refine oS fun _ hK11=>?_
   refine oR L1
     [[],[],[0,1],[0,1,2],[],[],[4,5],[4,5,6],[0,1,2,3,4,5,6,7]]
     [[],[],[],[],[],[],[],[],[]]
     [[],[],[],[],[],[],[],[],[]] (by kernel_rfl) (by kernel_rfl) (A7 (acc:=[]) ?_)
   simp (maxSteps:=2000000)only[go_sem];repeat(with_reducible refine oD ?_)
   refine hK11 _ ?_;refine oC rfl ?_ ?_
   ·
    intro c2;refine oS fun _ hK12=>?_;refine oW L1 ?_;simp only[go_sem];refine hK12 _ ?_;refine A0 ?_;simp only[hres,go_sem];first|exact oF|(refine⟨?_,oF⟩;exact(B3A (0:Int) (m:=k) (by first|assumption|exact decide_eq_false (by assumption))).symm)
   intro c2;refine A2 ?_;simp only[go_sem];refine hK10 _ ?_;refine oW L1 ?_;simp only[go_sem];refine hL7 ⟨k+1,by omega,B2q (d:=(0:Int)) (by omega) (by omega) hp (by first|assumption|exact decide_eq_true (by assumption))⟩ _ (oK ?_) ?_
   ·
    simp (maxSteps:=2000000)only[go_sem];all_goals(first|rfl|((repeat' refine And.intro ?_ ?_)<;>first|rfl|exact wk (by omega)|simp))
   ·
    first|(simp only[];omega)|omega|(simp;omega)
  intro c1;refine B6 ?_;simp only[go_sem];refine hK5 _ ?_;refine oS fun _ hK13=>?_;refine oW L1 ?_;simp only[go_sem];refine hK13 _ ?_;refine A0 ?_;simp only[hres,go_sem];first|exact oF|(refine⟨?_,oF⟩;exact(B3G (m:=k) (by omega) (by omega) hp).symm)
def A49:G4:=fun f=>if f=34 then some (.p A0Y) else A40 f
theorem L4:B5 Tryz.prog A49:=F8 B1W (B0 Tryz.func34 rfl (by decide)) L1
attribute [go_sem] A49 A0Y
def w8:Con:=⟨[.val ((.row 26 (.row 2 (.int .i64)))),.val ((.row 26 (.row 2 (.int .i64))))],[⟨.bool,true⟩],fun _=>True,fun x=>eqD (x.1:List (List Int)) (x.2.1:List (List Int))⟩
theorem B0J:C8 Tryz.prog 11 w8:=by
  refine A4 Tryz.func11 rfl ?_
  have hres:Tryz.f11.results.toList=[.tmp 4]:=rfl
  rintro⟨(xs:List (List Int)),(ys:List (List Int)),_⟩ hc hL
  simp only[w8,go_sem] at hL
  obtain⟨lxs,lys⟩:=hL;simp only[w8,St.init,St.initG,Tryz.ntmps11,go_sem] 
  refine oS fun _ hK1=>?_;refine oW L4 ?_;simp only[go_sem];refine hK1 _ ?_;refine oS fun _ hK2=>?_;refine oS fun _ hK3=>?_;refine oW L4 ?_;simp (maxSteps:=2000000)only[go_sem];refine hK3 _ ?_;refine oC rfl ?_ ?_
  ·
   intro c0;refine oS fun _ hK4=>?_;refine oW L4 ?_;simp only[go_sem];refine hK4 _ ?_;refine A0 ?_;simp only[hres,go_sem];first|exact oF|(refine⟨?_,oF⟩;exact(B5U (by omega)).symm)
  intro c0;refine A2 ?_;simp only[go_sem];refine hK2 _ ?_;refine oS fun _ hK5=>?_;refine oS fun _ hK6=>?_;refine oW L4 ?_;simp only[go_sem];refine hK6 _ ?_;refine A3 ?_;refine A8 (ι:={ k:Nat // k≤xs.length∧xs.take k=ys.take k }) (fun k=>⟨[.c (.rd [] 26 (.row 2 (.int .i64)) (xs)),.c (.rd [] 26 (.row 2 (.int .i64)) (ys)),zz,zz,zz,.c (.sc (.int .i64 (k.1))),zz,zz,zz,zz,zz,zz,zz,zz,zz,zz,zz,zz,zz,zz,zz,zz,zz,zz,zz,zz,zz],[]⟩) (fun k=>xs.length - k.1) ⟨0,by simp,by simp⟩ ?_ ?_
  ·
   refine oK ?_;simp (maxSteps:=2000000)only[go_sem];all_goals(first|rfl|((repeat' refine And.intro ?_ ?_)<;>first|rfl|simp))
  rintro⟨k,hk,hp⟩ K7 hL7
  refine oS fun _ hK8=>?_;refine oS fun _ hK9=>?_;refine oW L4 ?_;simp only[go_sem];refine hK9 _ ?_;refine oC rfl ?_ ?_
  ·
   intro c1;refine A2 ?_;simp only[go_sem];refine hK8 _ ?_;refine oS fun _ hK10=>?_;refine A3 ?_;refine oS fun _ hK11=>?_
   refine oR L4
     [[],[],[0,1],[0,1,2],[],[],[4,5],[4,5,6],[0,1,2,3,4,5,6,7],[0,1,2,3,4,5,6,7,8]]
     [[],[],[],[],[],[],[],[],[],[]]
     [[],[],[],[],[],[],[],[],[],[]] (by kernel_rfl) (by kernel_rfl) (A7 (acc:=[]) ?_)
   simp (maxSteps:=2000000)only[go_sem];repeat(with_reducible refine oD ?_)
   refine hK11 _ ?_;refine oC rfl ?_ ?_
   ·
    intro c2;refine oS fun _ hK12=>?_;refine oW L4 ?_;simp only[go_sem];refine hK12 _ ?_;refine A0 ?_;simp only[hres,go_sem];first|exact oF|(refine⟨?_,oF⟩;exact(B3A ([]:List Int) (m:=k) (by first|assumption|exact decide_eq_false (by assumption))).symm)
   intro c2;refine A2 ?_;simp only[go_sem];refine hK10 _ ?_;refine oW L4 ?_;simp only[go_sem];refine hL7 ⟨k+1,by omega,B2q (d:=([]:List Int)) (by omega) (by omega) hp (by first|assumption|exact decide_eq_true (by assumption))⟩ _ (oK ?_) ?_
   ·
    simp (maxSteps:=2000000)only[go_sem];all_goals(first|rfl|((repeat' refine And.intro ?_ ?_)<;>first|rfl|exact wk (by omega)|simp))
   ·
    first|(simp only[];omega)|omega|(simp;omega)
  intro c1;refine B6 ?_;simp only[go_sem];refine hK5 _ ?_;refine oS fun _ hK13=>?_;refine oW L4 ?_;simp only[go_sem];refine hK13 _ ?_;refine A0 ?_;simp only[hres,go_sem];first|exact oF|(refine⟨?_,oF⟩;exact(B3G (m:=k) (by omega) (by omega) hp).symm)
def A2l:G4:=fun f=>if f=11 then some (.p w8) else A49 f
theorem A09:B5 Tryz.prog A2l:=F8 B0J (B0 Tryz.func11 rfl (by decide)) L4
attribute [go_sem] A2l w8
def A1z:Con:=⟨[.val ((.prod (.int .i64) (.prod (.row 26 (.row 2 (.int .i64))) (.prod (.row 67 (.prod (.int .i64) (.prod (.int .i64) (.prod (.int .i64) (.row 2 (.int .i64)))))) (.row 2 (.int .i64))))))],[⟨.bool,true⟩],fun _=>True,fun x=>G3 x.1⟩
theorem B48:C8 Tryz.prog 7 A1z:=by
  refine A4 Tryz.func7 rfl ?_
  have hres:Tryz.f7.results.toList=[.tmp 2]:=rfl
  rintro⟨⟨(pi:Int),(ts:List (List Int)),(ns:List B1),(os:List Int)⟩,_⟩ hc hL
  simp only[A1z,go_sem] at hL
  simp only[A1z,St.init,St.initG,Tryz.ntmps7,go_sem] 
  refine oS fun _ hK1=>?_;refine oW A09 ?_;simp only[go_sem];refine hK1 _ ?_;refine oS fun _ hK2=>?_;refine oW A09 ?_;simp only[go_sem];repeat(with_reducible refine oA ?_)
  refine hK2 _ ?_;refine A0 ?_;simp only[hres,go_sem];first|exact oF|exact oFr
def A6S:G4:=fun f=>if f=7 then some (.p A1z) else A2l f
theorem B0x:B5 Tryz.prog A6S:=F8 B48 (B0 Tryz.func7 rfl (by decide)) A09
attribute [go_sem] A6S A1z
end Go.Proofs.YtenjbehedcegdaaGreat
