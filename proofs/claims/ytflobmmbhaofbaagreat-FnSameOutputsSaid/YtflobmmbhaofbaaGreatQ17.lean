/-
  Texts of this claim, joined (part 17). No condition beyond those of the theorems.
-/
import Derived.Test.YtflobmmbhaofbaaGreatQ15
import Derived.Test.YtflobmmbhaofbaaGreatQ16
namespace Go.Proofs.YtflobmmbhaofbaaGreat
open Go.RowKit
set_option linter.unusedSimpArgs false
set_option linter.unusedVariables false
set_option maxRecDepth 100000
set_option maxHeartbeats 4000000
def A0d:Con:=⟨[.ptr (.prod (.int .i64) (.prod (.row 26 (.row 2 (.int .i64))) (.prod (.row 56 (.prod (.int .i64) (.prod (.int .i64) (.prod (.int .i64) (.row 2 (.int .i64)))))) (.row 2 (.int .i64)))))],[⟨(.row 2 (.int .i64)),true⟩,⟨.bool,true⟩],fun x=>C5 x.1=true,fun x=>B4I x.1.2.2.1⟩
theorem B4B:D4 Tryz.prog 42 A0d:=by
  refine A7 Tryz.func42 rfl ?_
  have hres:Tryz.f42.results.toList=[.tmp 2,.tmp 3]:=rfl
  rintro⟨⟨(pi:Int),(ts:List (List Int)),(ns:List A4),(os:List Int)⟩,_⟩ hc hL
  simp only[A0d,go_sem] at hL
  obtain⟨⟨lts,lts2⟩,⟨lns,lns2⟩,los⟩:=hL
  simp only[A0d,St.init,St.initG,Tryz.ntmps42,go_sem] 
  have hfm:C5 (pi,ts,ns,os)=true:=hc
  have hn24:ns.length≤24:=(A8 hfm).1
  refine oS fun _ hK1=>?_;refine oW I2 ?_;simp only[go_sem];refine hK1 _ ?_;refine oS fun _ hK2=>?_;refine oW I2 ?_;simp only[go_sem];repeat(with_reducible refine oA ?_)
  refine hK2 _ ?_;refine oS fun _ hK3=>?_;refine A5 ?_;refine B4 (ι:={ out:List Int // A0u ns (ns.length - out.length) out=O4 ns∧out.length≤ns.length }) (fun k=>⟨[.c (.pt [] ((.prod (.int .i64) (.prod (.row 26 (.row 2 (.int .i64))) (.prod (.row 56 (.prod (.int .i64) (.prod (.int .i64) (.prod (.int .i64) (.row 2 (.int .i64)))))) (.row 2 (.int .i64)))))) (pi,ts,ns,os) 0),zz,zz,zz,.c (.ow 9001),zz,zz,zz,zz,zz,zz,zz,zz,zz,zz,zz,zz,zz,zz,zz,zz,zz,zz,zz,zz,zz,zz,zz,zz,zz,zz,zz,zz,zz,zz,zz,zz,zz,zz,zz,zz,zz,zz,zz,zz,zz,zz,zz,zz,zz,zz,zz],[(9001,.row 2 (.int .i64) (k.1) [])]⟩) (fun k=>ns.length - k.1.length) ⟨[],rfl,by simp⟩ ?_ ?_
  ·
   refine oK ?_;simp (maxSteps:=2000000)only[go_sem];all_goals(first|rfl|((repeat' refine And.intro ?_ ?_)<;>first|rfl|simp))
  rintro⟨out,ho1,ho2⟩ K4 hL4
  refine oS fun _ hK5=>?_;refine oS fun _ hK6=>?_;refine oW I2 ?_;simp (maxSteps:=2000000)only[go_sem];repeat(with_reducible refine oA ?_)
  refine hK6 _ ?_;refine oC rfl ?_ ?_
  ·
   intro c0;refine A3 ?_;simp only[go_sem];refine hK5 _ ?_;refine A5 ?_;refine oS fun _ hK7=>?_;refine oW I2 ?_;simp only[go_sem];refine hK7 _ ?_;refine oS fun _ hK8=>?_;refine oS fun _ hK9=>?_;refine oW I2 ?_;simp only[go_sem];refine hK9 _ ?_;refine A5 ?_;refine B4 (ι:={ s:Nat × Int // s.1≤ns.length∧-1≤s.2∧(s.2 < 0→∀j,j < s.1→R5 ns out j=false)∧(0≤s.2→∃i,i < ns.length∧s.2=(i:Int)∧(∀j,j < i→R5 ns out j=false)∧R5 ns out i=true) }) (fun k=>⟨[.c (.pt [] ((.prod (.int .i64) (.prod (.row 26 (.row 2 (.int .i64))) (.prod (.row 56 (.prod (.int .i64) (.prod (.int .i64) (.prod (.int .i64) (.row 2 (.int .i64)))))) (.row 2 (.int .i64)))))) (pi,ts,ns,os) 0),zz,zz,zz,.c (.ow 9001),.c (.sc (.int .i64 (k.1.2))),.c (.sc (.int .i64 (k.1.1))),zz,zz,zz,zz,zz,zz,zz,zz,zz,zz,zz,zz,zz,zz,zz,zz,zz,zz,zz,zz,zz,zz,zz,zz,zz,zz,zz,zz,zz,zz,zz,zz,zz,zz,zz,zz,zz,zz,zz,zz,zz,zz,zz,zz,zz],[(9001,.row 2 (.int .i64) (out) [])]⟩) (fun k=>ns.length - k.1.1) ⟨(0,-1),by simp,by simp,by simp,by simp⟩ ?_ ?_
   ·
    refine oK ?_;simp (maxSteps:=2000000)only[go_sem];all_goals(first|rfl|((repeat' refine And.intro ?_ ?_)<;>first|rfl|simp))
   rintro⟨⟨i,nx⟩,hi,hn1,hn2,hn3⟩ K10 hL10
   simp only at hi hn1 hn2 hn3
   refine oS fun _ hK11=>?_;refine oS fun _ hK12=>?_;refine oW I2 ?_;simp (maxSteps:=2000000)only[go_sem];repeat' (with_reducible first|refine oA ?_|refine oT (fun g5=>?_) (fun g5=>?_)|refine oE (fun g5=>?_) (fun g5=>?_))
   all_goals
    refine hK12 _ ?_;refine D2 rfl ?_ ?_
    ·
     intro c1;try simp only[zA,zB,zC,zD,zE,zF,zG,zH,zI] at c1
     all_goals
      refine A3 ?_;simp only[go_sem];refine hK11 _ ?_;refine oS fun _ hK13=>?_;refine A5 ?_;refine oS fun _ hK14=>?_;refine oW I2 ?_;simp (maxSteps:=2000000)only[go_sem];repeat' (with_reducible first|refine oA ?_|refine oT (fun g7=>?_) (fun g7=>?_)|refine oE (fun g7=>?_) (fun g7=>?_))
      all_goals
       refine hK14 _ ?_;refine D2 rfl ?_ ?_
       ·
        intro c2;try simp only[zA,zB,zC,zD,zE,zF,zG,zH,zI] at c2
        all_goals
         have hRt:R5 ns out i=true:=by unfold R5;clear hK1 hK2 hK3 hL4 hK5 hK6 hK7 hK8 hK9 hL10 hK11 hK12 hK13 hK14;simp_all
         refine oW I2 ?_;simp only[go_sem];refine hK13 _ ?_;refine oW I2 ?_;simp only[go_sem];first|(refine hL10 ⟨(i+1,(i:Int)),by omega,by omega,by omega,fun _=>⟨i,by omega,rfl,hn2 (by omega),hRt⟩⟩ _ (oK ?_) ?_)|(refine hL10 ⟨(i+1,nx),by omega,by omega,fun h j hj=>by rcases Nat.lt_succ_iff_lt_or_eq.1 hj with h'|h';exact hn2 h j h';subst h';exact hR,hn3⟩ _ (oK ?_) ?_)
         ·
          simp (maxSteps:=2000000)only[go_sem];all_goals((repeat' refine And.intro ?_ ?_)<;>first|rfl|exact wk (by omega)|simp)
         ·
          simp only[];omega
       ·
        intro c2;try simp only[zA,zB,zC,zD,zE,zF,zG,zH,zI] at c2
        all_goals
         have hR:R5 ns out i=false:=by unfold R5;clear hK1 hK2 hK3 hL4 hK5 hK6 hK7 hK8 hK9 hL10 hK11 hK12 hK13 hK14;simp_all
         refine A3 ?_;simp only[go_sem];refine hK13 _ ?_;refine oW I2 ?_;simp only[go_sem];first|(refine hL10 ⟨(i+1,(i:Int)),by omega,by omega,by omega,fun _=>⟨i,by omega,rfl,hn2 (by omega),hRt⟩⟩ _ (oK ?_) ?_)|(refine hL10 ⟨(i+1,nx),by omega,by omega,fun h j hj=>by rcases Nat.lt_succ_iff_lt_or_eq.1 hj with h'|h';exact hn2 h j h';subst h';exact hR,hn3⟩ _ (oK ?_) ?_)
         ·
          simp (maxSteps:=2000000)only[go_sem];all_goals((repeat' refine And.intro ?_ ?_)<;>first|rfl|exact wk (by omega)|simp)
         ·
          simp only[];omega
    ·
     intro c1;try simp only[zA,zB,zC,zD,zE,zF,zG,zH,zI] at c1
     all_goals
      have hs0:nx < 0→A2L ns out=none:=fun h=>A3v fun j hj=>hn2 h j (by omega)
      have hs1:=hn3
      refine C2 ?_;simp only[go_sem];refine hK8 _ ?_;refine oS fun _ hK15=>?_;refine oS fun _ hK16=>?_;refine oW I2 ?_;simp only[go_sem];refine hK16 _ ?_;refine D2 rfl ?_ ?_
      ·
       intro c3;try simp only[zA,zB,zC,zD,zE,zF,zG,zH,zI] at c3
       all_goals
        have hnx:A2L ns out=none:=hs0 (by omega)
        refine oS fun _ hK17=>?_;refine oW I2 ?_;simp only[go_sem];refine hK17 _ ?_;refine A2 ?_;simp only[hres,go_sem]
        first
         | exact oF
         | refine ⟨?_, oF⟩
           unfold B4I;rw[decide_eq_false (by rw[←ho1,A8X _ hnx];omega)]
      ·
       intro c3;try simp only[zA,zB,zC,zD,zE,zF,zG,zH,zI] at c3
       all_goals
        obtain⟨i,hi,hst,hno,hR⟩:=hs1 (by omega)
        have hnx:A2L ns out=some i:=A9N hi hno hR
        refine A3 ?_;simp only[go_sem];refine hK15 _ ?_;refine oW I2 ?_;simp (maxSteps:=2000000)only[go_sem];repeat(with_reducible refine oA ?_)
        refine hL4 ⟨out++[(i:Int)],by rw[←ho1,show ns.length - out.length=(ns.length - out.length - 1)+1 by omega,A8E hnx,List.length_append];rfl,by simp;omega⟩ _ (oK ?_) ?_
        ·
         simp (maxSteps:=2000000)only[go_sem];all_goals((repeat' refine And.intro ?_ ?_)<;>first|rfl|(rw[hst];rfl)|simp[hst])
        ·
         simp only[List.length_append,List.length_cons,List.length_nil];omega
  intro c0;refine C2 ?_;simp only[go_sem];refine hK3 _ ?_;refine oS fun _ hK18=>?_;refine oW I2 ?_;simp only[go_sem];refine hK18 _ ?_;refine A2 ?_;simp only[hres,go_sem]
  first
   | exact oF
   | refine ⟨?_, oF⟩
     have he:O4 ns=out:=by rw[←ho1,show ns.length - out.length=0 by omega];rfl
     unfold B4I;rw[decide_eq_true (by rw[he];omega),he]
def A4K:F8:=fun f=>if f=42 then some (.p A0d) else A4w f
theorem A9f:B8 Tryz.prog A4K:=F9 B4B (B6 Tryz.func42 rfl (by decide)) I2
attribute [go_sem] A4K A0d
set_option maxRecDepth 100000
set_option maxHeartbeats 1000000
def B1J:F8:=fun f=>match A3B f with
 | some k=>some k
 | none=>A4K f
theorem l7:B8 Tryz.prog B1J:=T3 A7W A9f
attribute [go_sem] B1J T0
def A5U:Con:=⟨[.ptr (.prod (.int .i64) (.prod (.row 26 (.row 2 (.int .i64))) (.prod (.row 56 (.prod (.int .i64) (.prod (.int .i64) (.prod (.int .i64) (.row 2 (.int .i64)))))) (.row 2 (.int .i64)))))],[⟨.bool,true⟩],fun _=>True,fun x=>C7 x.1⟩
theorem B8i:D4 Tryz.prog 18 A5U:=by
  refine A7 Tryz.func18 rfl ?_
  have hres:Tryz.f18.results.toList=[.tmp 2]:=rfl
  rintro⟨⟨(pi:Int),(ts:List (List Int)),(ns:List A4),(os:List Int)⟩,_⟩ hc hL
  simp only[A5U,go_sem] at hL
  obtain⟨⟨lts,lts2⟩,⟨lns,lns2⟩,los⟩:=hL
  simp only[A5U,St.init,St.initG,Tryz.ntmps18,go_sem] 
  refine oS fun _ hK1=>?_;refine oW l7 ?_;simp only[go_sem];repeat(with_reducible first|refine oA ?_|refine And.intro (by first|assumption) ?_)
  refine hK1 _ ?_;refine oS fun _ hK2=>?_;refine oS fun _ hK3=>?_;refine oW l7 ?_;simp only[go_sem];repeat(with_reducible first|refine oA ?_|refine And.intro (by first|assumption) ?_)
  refine hK3 _ ?_;refine oC rfl ?_ ?_
  ·
   intro c0;refine oS fun _ hK4=>?_;refine oW l7 ?_;simp only[go_sem];repeat(with_reducible first|refine oA ?_|refine And.intro (by first|assumption) ?_)
   refine hK4 _ ?_;refine A2 ?_;simp only[hres,go_sem];first|exact oF|(refine⟨?_,oF⟩;clear hK1 hK2 hK3 hK4;unfold C7;simp_all [B4I]<;>(split<;>simp_all))
  intro c0;refine A3 ?_;simp only[go_sem];refine hK2 _ ?_;refine oS fun _ hK5=>?_;refine oW l7 ?_;simp (maxSteps:=2000000)only[go_sem];repeat(with_reducible first|refine oA ?_|refine And.intro (by first|assumption) ?_)
  refine hK5 _ ?_;refine oS fun _ hK6=>?_;refine oW l7 ?_;simp only[go_sem];repeat(with_reducible first|refine oA ?_|refine And.intro (by first|assumption) ?_)
  refine hK6 _ ?_;refine A2 ?_;simp only[hres,go_sem];first|exact oF|(refine⟨?_,oF⟩;clear hK1 hK2 hK3 hK5 hK6;unfold C7;simp_all [B4I]<;>(split<;>simp_all))
def A7H:F8:=fun f=>if f=18 then some (.p A5U) else B1J f
theorem A7g:B8 Tryz.prog A7H:=F9 B8i (B6 Tryz.func18 rfl (by decide)) l7
attribute [go_sem] A7H A5U
def A3D:F8:=A7H
theorem A2R:B8 Tryz.prog A3D:=A7g
attribute [go_sem] A3D
end Go.Proofs.YtflobmmbhaofbaaGreat
