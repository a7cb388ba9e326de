/-
  Texts of this claim, joined (part 8). No condition beyond those of the theorems.
-/
import Derived.Test.YtenjbehedcegdaaGreatQ04
import Derived.Test.YtenjbehedcegdaaGreatQ06
import Derived.Test.YtenjbehedcegdaaGreatQ07
import Derived.Test.YtenjbehedcegdaaGreatQ05
namespace Go.Proofs.YtenjbehedcegdaaGreat
open Go.RowKit
set_option linter.unusedSimpArgs false
set_option linter.unusedVariables false
set_option maxRecDepth 100000
set_option maxHeartbeats 4000000
def A3o:Con:=⟨[.val ((.prod (.int .i64) (.prod (.row 26 (.row 2 (.int .i64))) (.prod (.row 67 (.prod (.int .i64) (.prod (.int .i64) (.prod (.int .i64) (.row 2 (.int .i64)))))) (.row 2 (.int .i64))))))],[⟨(.row 2 (.int .i64)),true⟩],fun x=>E4 x.1=true,fun x=>E3 x.1.2.2.1⟩
theorem B6o:C8 Tryz.prog 46 A3o:=by
  refine A4 Tryz.func46 rfl ?_
  have hres:Tryz.f46.results.toList=[.tmp 2]:=rfl
  rintro⟨⟨(pi:Int),(ts:List (List Int)),(ns:List B1),(os:List Int)⟩,_⟩ hc hL
  simp only[A3o,go_sem] at hL
  obtain⟨⟨lts,lts2⟩,⟨lns,lns2⟩,los⟩:=hL
  simp only[A3o,St.init,St.initG,Tryz.ntmps46,go_sem] 
  have hfm:E4 (pi,ts,ns,os)=true:=hc
  have hn24:ns.length≤24:=(C0 hfm).1
  refine oS fun _ hK1=>?_;refine oW D6 ?_;simp only[go_sem];refine hK1 _ ?_;refine oS fun _ hK2=>?_;refine oW D6 ?_;simp (maxSteps:=2000000)only[go_sem];repeat(with_reducible refine oA ?_)
  refine hK2 _ ?_;refine oS fun _ hK3=>?_;refine oW D6 ?_;simp only[go_sem];repeat(with_reducible refine oA ?_)
  refine hK3 _ ?_;refine oS fun _ hK4=>?_;refine oS fun _ hK5=>?_;refine oW D6 ?_;simp only[go_sem];refine hK5 _ ?_;refine A3 ?_;refine A8 (ι:={ s:List Bool × List Int × Bool // OrdI ns s.1 s.2.1∧(s.2.2=false→A18 ns s.2.1=none) }) (fun k=>⟨[zz,.c (.po 116 0),zz,.c (.ow 9001),.c (.ow 9002),.c (.sc (.bool (k.1.2.2))),zz,zz,zz,zz,zz,zz,zz,zz,zz,zz,zz,zz,zz,zz,zz,zz,zz,zz,zz,zz,zz,zz,zz,zz,zz,zz,zz,zz,zz,zz,zz,zz,zz,zz,zz,zz,zz,zz,zz,zz,zz,zz,zz,zz,zz,zz,zz,zz,zz],[(116,.box [.sc (.int .i64 (pi)),.rd [] 26 ((.row 2 (.int .i64))) (ts),.rd [] 67 ((.prod (.int .i64) (.prod (.int .i64) (.prod (.int .i64) (.row 2 (.int .i64)))))) (ns),.rd [] 2 (.int .i64) (os)]),(9001,.row 4 (.bool) (k.1.1) []),(9002,.row 2 (.int .i64) (k.1.2.1) [])]⟩) (fun k=>2 * k.1.1.count false+(if k.1.2.2=true then 1 else 0)) ⟨(List.replicate ns.length false,[],true),B29 ns,by simp⟩ ?_ ?_
  ·
   refine oK ?_;simp (maxSteps:=2000000)only[go_sem];all_goals(first|rfl|((repeat' refine And.intro ?_ ?_)<;>first|rfl|simp))
  rintro⟨⟨tk,out,fd⟩,hI,hfin⟩ K6 hL6
  simp only at hI hfin
  have hl1:=hI.1
  have hl2:=B6I hI
  refine oS fun _ hK7=>?_;refine oS fun _ hK8=>?_;refine oW D6 ?_;simp only[go_sem];refine hK8 _ ?_;refine oC rfl ?_ ?_
  ·
   intro c0;refine A2 ?_;simp only[go_sem];refine hK7 _ ?_;refine A3 ?_;refine oS fun _ hK9=>?_;refine oW D6 ?_;simp only[go_sem];refine hK9 _ ?_;refine oS fun _ hK10=>?_;refine oW D6 ?_;simp only[go_sem];repeat(with_reducible refine oA ?_)
   refine hK10 _ ?_;refine A3 ?_;refine A8 (ι:={ i:Nat // i≤ns.length∧∀j,j < i→P7 ns out j=false }) (fun k=>⟨[zz,.c (.po 116 0),zz,.c (.ow 9001),.c (.ow 9002),.c (.sc (.bool (false))),zz,zz,zz,zz,zz,zz,zz,zz,zz,zz,zz,zz,.c (.rd [] 67 ((.prod (.int .i64) (.prod (.int .i64) (.prod (.int .i64) (.row 2 (.int .i64)))))) (ns)),.c (.sc (.int .i64 (ns.length))),.c (.sc (.int .i64 (k.1))),zz,zz,zz,zz,zz,zz,zz,zz,zz,zz,zz,zz,zz,zz,zz,zz,zz,zz,zz,zz,zz,zz,zz,zz,zz,zz,zz,zz,zz,zz,zz,zz,zz,zz],[(116,.box [.sc (.int .i64 (pi)),.rd [] 26 ((.row 2 (.int .i64))) (ts),.rd [] 67 ((.prod (.int .i64) (.prod (.int .i64) (.prod (.int .i64) (.row 2 (.int .i64)))))) (ns),.rd [] 2 (.int .i64) (os)]),(9001,.row 4 (.bool) (tk) []),(9002,.row 2 (.int .i64) (out) [])]⟩) (fun k=>ns.length - k.1) ⟨0,by simp,by simp⟩ ?_ ?_
   ·
    refine oK ?_;simp (maxSteps:=2000000)only[go_sem];all_goals(first|rfl|((repeat' refine And.intro ?_ ?_)<;>first|rfl|simp))
   rintro⟨i,hi,hno⟩ K11 hL11
   refine oS fun _ hK12=>?_;refine oW D6 ?_;simp only[go_sem];refine hK12 _ ?_;refine oS fun _ hK13=>?_;refine oC rfl ?_ ?_
   ·
    intro c1;refine A2 ?_;simp only[go_sem];refine hK13 _ ?_;refine oS fun _ hK14=>?_;refine A3 ?_;refine oS fun _ hK15=>?_;refine oW D6 ?_;simp (maxSteps:=2000000)only[go_sem];repeat(with_reducible refine oA ?_)
    refine hK15 _ ?_;refine oS fun _ hK16=>?_;refine oW D6 ?_;simp (maxSteps:=2000000)only[go_sem];repeat(with_reducible refine oA ?_)
    refine hK16 _ ?_;refine oS fun _ hK17=>?_;refine oS fun _ hK18=>?_;refine oW D6 ?_;simp only[go_sem];repeat(with_reducible refine oA ?_)
    refine hK18 _ ?_;refine A3 ?_;refine A8 (ι:={ m:Nat // m≤(G9 (ns.getD i n0)).length }) (fun k=>⟨[zz,.c (.po 116 0),zz,.c (.ow 9001),.c (.ow 9002),.c (.sc (.bool (false))),.c (.sc (.int .i64 (i))),zz,.c (.sc (.bool (!tk.getD i false && ((G9 (ns.getD i n0)).take k.1).all (fun f=>out.contains f)))),zz,zz,zz,zz,zz,zz,zz,zz,zz,.c (.rd [] 67 ((.prod (.int .i64) (.prod (.int .i64) (.prod (.int .i64) (.row 2 (.int .i64)))))) (ns)),.c (.sc (.int .i64 (ns.length))),.c (.sc (.int .i64 (i))),zz,zz,zz,zz,zz,zz,zz,zz,zz,zz,.c (.rd [] 2 (.int .i64) (G9 (ns.getD i n0))),.c (.sc (.int .i64 ((G9 (ns.getD i n0)).length))),.c (.sc (.int .i64 (k.1))),zz,zz,zz,zz,zz,zz,zz,zz,zz,zz,zz,zz,zz,zz,zz,zz,zz,zz,zz,zz,zz],[(116,.box [.sc (.int .i64 (pi)),.rd [] 26 ((.row 2 (.int .i64))) (ts),.rd [] 67 ((.prod (.int .i64) (.prod (.int .i64) (.prod (.int .i64) (.row 2 (.int .i64)))))) (ns),.rd [] 2 (.int .i64) (os)]),(9001,.row 4 (.bool) (tk) []),(9002,.row 2 (.int .i64) (out) [])]⟩) (fun k=>(G9 (ns.getD i n0)).length - k.1) ⟨0,by simp⟩ ?_ ?_
    ·
     refine oK ?_;simp (maxSteps:=2000000)only[go_sem];all_goals(first|rfl|((repeat' refine And.intro ?_ ?_)<;>first|rfl|simp))
    rintro⟨m,hm⟩ K19 hL19
    have hwb:(G9 (ns.getD i n0)).length≤9223372036854775807:=Nat.le_trans (A0n _) (lns2 _ (C6 (by omega)))
    refine oS fun _ hK20=>?_;refine oW D6 ?_;simp only[go_sem];refine hK20 _ ?_;refine oS fun _ hK21=>?_;refine oC rfl ?_ ?_
    ·
     intro c2;refine A2 ?_;simp only[go_sem];refine hK21 _ ?_;refine oS fun _ hK22=>?_;refine A3 ?_;refine oS fun _ hK23=>?_;refine oW D6 ?_;simp only[go_sem];repeat(with_reducible refine oA ?_)
     refine hK23 _ ?_;have hwl:m < (G9 (ns.getD i n0)).length:=by omega
     obtain⟨hf1,hf2⟩:=A98 hfm (i:=i) (by show i < ns.length;omega) (C6 (d:=0) hwl)
     have hf1':(0:Int)≤(G9 (ns.getD i n0)).getD m 0:=hf1
     have hf2':((G9 (ns.getD i n0)).getD m 0:Int) < ns.length:=hf2
     have hq:tk.getD ((G9 (ns.getD i n0)).getD m 0).toNat false=out.contains ((G9 (ns.getD i n0)).getD m 0):=by rw[hI.2.1 _ (by omega),Int.toNat_of_nonneg hf1]
     refine oW D6 ?_;simp (maxSteps:=2000000)only[go_sem];repeat' (with_reducible first|refine oA ?_|refine oT (fun g13=>?_) (fun g13=>?_)|refine oE (fun g13=>?_) (fun g13=>?_))
     all_goals
      refine hK22 _ ?_;refine oW D6 ?_;simp only[go_sem];refine hL19 ⟨m+1,by omega⟩ _ (oK ?_) ?_
      ·
       simp (maxSteps:=2000000)only[go_sem];all_goals((repeat' refine And.intro ?_ ?_)<;>first|rfl|exact wk (by omega)|(rw[A7F (d:=0) (by omega),←Bool.and_assoc,g13];first|rfl|(rw[Bool.true_and];exact hq)))
      ·
       first|(simp only[];omega)|omega|(simp;omega)
    intro c2;refine B6 ?_;simp only[go_sem];refine hK17 _ ?_;refine oS fun _ hK24=>?_;refine oW D6 ?_;simp only[go_sem];refine hK24 _ ?_;refine oC rfl ?_ ?_
    ·
     intro c3;have hR:P7 ns out i=true:=by rw[A7p hI (by omega)];rw[List.take_of_length_le (by omega)] at c3;exact c3
     obtain⟨hI2,hC2⟩:=hI.next (by omega) hno hR
     refine oS fun _ hK25=>?_;refine oW D6 ?_;simp (maxSteps:=2000000)only[go_sem];repeat(with_reducible refine oA ?_)
     refine hK25 _ ?_;refine oS fun _ hK26=>?_;refine oW D6 ?_;simp (maxSteps:=2000000)only[go_sem];repeat(with_reducible refine oA ?_)
     refine hK26 _ ?_;refine B6 ?_;simp only[go_sem];first|(refine hL6 ⟨(tk.set i true,out++[(i:Int)],true),hI2,by simp⟩ _ (oK ?_) ?_)|(refine hL6 ⟨(tk,out,false),hI,fun _=>A2x fun j hj=>hno j (by omega)⟩ _ (oK ?_) ?_)
     ·
      simp (maxSteps:=2000000)only[go_sem];all_goals(first|rfl|((repeat' refine And.intro ?_ ?_)<;>first|rfl|exact wk (by omega)|simp))
     ·
      simp only[c0,if_true,Bool.false_eq_true,if_false];omega
    intro c3;have hR0:P7 ns out i=false:=by rw[A7p hI (by omega)];rw[List.take_of_length_le (by omega)] at c3;exact c3
    refine A2 ?_;simp only[go_sem];refine hK14 _ ?_;refine oW D6 ?_;simp only[go_sem];refine hL11 ⟨i+1,by omega,fun j hj=>by rcases Nat.lt_succ_iff_lt_or_eq.1 hj with h|h;exact hno j h;subst h;exact hR0⟩ _ (oK ?_) ?_
    ·
     simp (maxSteps:=2000000)only[go_sem];all_goals first|rfl|exact wk (by omega)
    ·
     first|(simp only[];omega)|omega|(simp;omega)
   intro c1;refine B6 ?_;simp only[go_sem];first|(refine hL6 ⟨(tk.set i true,out++[(i:Int)],true),hI2,by simp⟩ _ (oK ?_) ?_)|(refine hL6 ⟨(tk,out,false),hI,fun _=>A2x fun j hj=>hno j (by omega)⟩ _ (oK ?_) ?_)
   ·
    simp (maxSteps:=2000000)only[go_sem];all_goals(first|rfl|((repeat' refine And.intro ?_ ?_)<;>first|rfl|exact wk (by omega)|simp))
   ·
    simp only[c0,if_true,Bool.false_eq_true,if_false];omega
  intro c0;refine B6 ?_;simp only[go_sem];refine hK4 _ ?_;refine oS fun _ hK27=>?_;refine oW D6 ?_;simp only[go_sem];refine hK27 _ ?_;refine A0 ?_;simp only[hres,go_sem];first|exact oF|(refine⟨?_,oF⟩;exact(A6j _ (hfin (by simpa using c0))).symm.trans hI.2.2.1)
def A9J:G4:=fun f=>if f=46 then some (.p A3o) else t4 f
theorem B1R:B5 Tryz.prog A9J:=F8 B6o (B0 Tryz.func46 rfl (by decide)) D6
attribute [go_sem] A9J A3o
set_option maxRecDepth 100000
set_option maxHeartbeats 1000000
def A8V:G4:=fun f=>match x5 f with
 | some k=>some k
 | none=>A9J f
theorem A2s:B5 Tryz.prog A8V:=W6 A3g B1R
attribute [go_sem] A8V T0
def A0P:Con:=⟨[.val ((.prod (.int .i64) (.prod (.row 26 (.row 2 (.int .i64))) (.prod (.row 67 (.prod (.int .i64) (.prod (.int .i64) (.prod (.int .i64) (.row 2 (.int .i64)))))) (.row 2 (.int .i64))))))],[⟨.bool,true⟩],fun _=>True,fun x=>G3 x.1⟩
theorem B2A:C8 Tryz.prog 17 A0P:=by
  refine A4 Tryz.func17 rfl ?_
  have hres:Tryz.f17.results.toList=[.tmp 2]:=rfl
  rintro⟨⟨(pi:Int),(ts:List (List Int)),(ns:List B1),(os:List Int)⟩,_⟩ hc hL
  simp only[A0P,go_sem] at hL
  obtain⟨⟨lts,lts2⟩,⟨lns,lns2⟩,los⟩:=hL
  simp only[A0P,St.init,St.initG,Tryz.ntmps17,go_sem] 
  refine oS fun _ hK1=>?_;refine oW A2s ?_;simp only[go_sem];repeat(with_reducible first|refine oA ?_|refine And.intro (by first|clear hK1;simp_all) ?_)
  refine hK1 _ ?_;refine oS fun _ hK2=>?_
  refine oR A2s
    [[],[0],[0,1],[0,1,2],[0,1,2,3],[0,1,2,3,4],[0,1,2],[0,1,2,6],[0,1,2,6,7],[0,1,2,3,4,5,6,7,8],[0,1,2,3,4,5,6,7,8,9],[0,1,2,3,4,5,6,7,8,9,10]]
    [[],[],[],[],[],[],[212,213,214,215,216,217,218,219,220,221,222,223,224,225,226,227],[212,213,214,215,216,217,218,219,220,221,222,223,224,225,226,227],[212,213,214,215,216,217,218,219,220,221,222,223,224,225,226,227],[],[],[]]
    [[],[],[],[],[212,213,214,215,216,217,218,219,220,221,222,223,224,225,226,227],[],[],[],[],[],[],[]] (by kernel_rfl) (by kernel_rfl) (A7 (acc:=[]) ?_)
  simp (maxSteps:=2000000)only[go_sem];repeat' (with_reducible first|refine oD ?_|refine And.intro (by first|clear hK1 hK2;simp_all) ?_|refine oT (fun g1=>?_) (fun g1=>?_)|refine oE (fun g1=>?_) (fun g1=>?_))
  all_goals
   refine hK2 _ ?_;refine A0 ?_;simp only[hres,go_sem];first|exact oF|(refine⟨?_,oF⟩;clear hK1 hK2;simp_all [G3]<;>first|rfl|exact decide_eq_decide.2 (by omega))
def A2I:G4:=fun f=>if f=17 then some (.p A0P) else A8V f
theorem A8h:B5 Tryz.prog A2I:=F8 B2A (B0 Tryz.func17 rfl (by decide)) A2s
attribute [go_sem] A2I A0P
def B13:G4:=A2I
attribute [go_sem] B13
set_option maxRecDepth 100000
set_option maxHeartbeats 1000000
def A3T:Con:=⟨[.val ((.row 2 (.int .i64)))],[⟨(.row 2 (.int .i64)),true⟩],fun x=>x.1.length≤1099511627776,fun x=>x.1⟩
theorem B5o:C8 Tryz.prog 63 A3T:=by
  refine A4 Tryz.func63 rfl ?_
  have hres:Tryz.f63.results.toList=[.tmp 2]:=rfl
  rintro⟨(xs:List Int),_⟩ hc hL
  simp only[A3T,go_sem] at hL
  simp only[A3T,St.init,St.initG,Tryz.ntmps63,go_sem] 
  have hx:xs.length≤1099511627776:=hc
  refine oS fun _ hK1=>?_;refine oW C4 ?_;simp only[go_sem];refine hK1 _ ?_;refine oS fun _ hK2=>?_;refine oW C4 ?_;simp only[go_sem];repeat(with_reducible refine oA ?_)
  refine hK2 _ ?_;refine A0 ?_;simp only[hres,go_sem];first|exact oF|exact oFr
def A8v:G4:=fun f=>if f=63 then some (.p A3T) else m7 f
theorem Q8:B5 Tryz.prog A8v:=F8 B5o (B0 Tryz.func63 rfl (by decide)) C4
attribute [go_sem] A8v A3T
def A1X:Con:=⟨[.val ((.row 26 (.row 2 (.int .i64))))],[⟨(.row 26 (.row 2 (.int .i64))),true⟩],fun x=>B35 x.1,fun x=>x.1⟩
theorem B3l:C8 Tryz.prog 47 A1X:=by
  refine A4 Tryz.func47 rfl ?_
  have hres:Tryz.f47.results.toList=[.tmp 2]:=rfl
  rintro⟨(xs:List (List Int)),_⟩ hc hL
  simp only[A1X,go_sem] at hL
  simp only[A1X,St.init,St.initG,Tryz.ntmps47,go_sem] 
  obtain⟨hx,hy⟩:=(show B35 xs from hc)
  refine oS fun _ hK1=>?_;refine oW Q8 ?_;simp only[go_sem];refine hK1 _ ?_;refine oS fun _ hK2=>?_;refine oW Q8 ?_;simp only[List.nodup_nil,go_sem];repeat(with_reducible refine oA ?_)
  refine hK2 _ ?_;refine oS fun _ hK3=>?_;refine oS fun _ hK4=>?_;refine oW Q8 ?_;simp only[go_sem];refine hK4 _ ?_;refine A3 ?_;refine A8 (ι:={ k:Nat // k≤xs.length }) (fun k=>⟨[zz,zz,zz,.c (.ow 9001),zz,zz,zz,.c (.rd [] 26 (.row 2 (.int .i64)) (xs)),.c (.sc (.int .i64 (xs.length))),.c (.sc (.int .i64 (k.1))),zz,zz,zz,zz,zz,zz,zz,zz,zz,zz],[(9001,.tree 26 (.row 2 (.int .i64)) (xs.take k.1) none)]⟩) (fun k=>xs.length - k.1) ⟨0,by simp⟩ ?_ ?_
  ·
   refine oK ?_;simp (maxSteps:=2000000)only[go_sem];all_goals(first|rfl|((repeat' refine And.intro ?_ ?_)<;>first|rfl|simp))
  rintro⟨k,hk⟩ K5 hL5
  have htk:(List.take k xs).length≤1099511627776:=by rw[List.length_take];omega
  have hyk:k < xs.length→(xs.getD k []).length≤1099511627776:=fun h=>hy _ (C6 h)
  refine oS fun _ hK6=>?_;refine oW Q8 ?_;simp only[go_sem];refine hK6 _ ?_;refine oS fun _ hK7=>?_;refine oC rfl ?_ ?_
  ·
   intro c0;refine A2 ?_;simp only[go_sem];refine hK7 _ ?_;refine oS fun _ hK8=>?_;refine A3 ?_;refine oS fun _ hK9=>?_;refine oW Q8 ?_;simp only[go_sem];repeat(with_reducible refine oA ?_)
   refine hK9 _ ?_;refine oW Q8 ?_;simp (maxSteps:=2000000)only[List.nodup_cons,List.nodup_nil,List.not_mem_nil,not_false_eq_true,go_sem];repeat(with_reducible first|refine oA ?_|refine And.intro (by first|omega) ?_)
   refine hK8 _ ?_;refine oW Q8 ?_;simp only[go_sem];refine hL5 ⟨k+1,by omega⟩ _ (oK ?_) ?_
   ·
    simp (maxSteps:=2000000)only[go_sem];all_goals first|rfl|exact wk (by omega)|exact⟨wk (by omega),by rw[J8 (xs:=xs) (k:=k) (d:=[]) (by omega)]⟩
   ·
    first|(simp only[];omega)|omega|(simp;omega)
  intro c0;refine B6 ?_;simp only[go_sem];refine hK3 _ ?_;refine oS fun _ hK10=>?_;refine oW Q8 ?_;simp only[go_sem];refine hK10 _ ?_;refine A0 ?_;simp only[hres,go_sem];first|exact oF|(refine⟨?_,oF⟩;exact List.take_of_length_le (by omega))
def A0A:G4:=fun f=>if f=47 then some (.p A1X) else A8v f
theorem A1m:B5 Tryz.prog A0A:=F8 B3l (B0 Tryz.func47 rfl (by decide)) Q8
attribute [go_sem] A0A A1X
def A71:G4:=A0A
attribute [go_sem] A71
end Go.Proofs.YtenjbehedcegdaaGreat
