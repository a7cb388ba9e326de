/-
  Texts of this claim, joined (part 43). No condition beyond those of the theorems.
-/
import Derived.Test.YtflobmmbhaofbaaGreatQ04
import Derived.Test.YtflobmmbhaofbaaGreatQ42
namespace Go.Proofs.YtflobmmbhaofbaaGreat
open Go.RowKit
set_option linter.unusedSimpArgs false
set_option linter.unusedVariables false
set_option maxRecDepth 100000
set_option maxHeartbeats 4000000
def A4n:Con:=⟨[.val ((.prod (.int .i64) (.prod (.row 26 (.row 2 (.int .i64))) (.prod (.row 56 (.prod (.int .i64) (.prod (.int .i64) (.prod (.int .i64) (.row 2 (.int .i64)))))) (.row 2 (.int .i64))))))],[⟨(.row 2 (.int .i64)),true⟩],fun x=>C5 x.1=true,fun x=>O4 x.1.2.2.1⟩
theorem B9C:D4 Tryz.prog 56 A4n:=by
  refine A7 Tryz.func56 rfl ?_
  have hres:Tryz.f56.results.toList=[.tmp 2]:=rfl
  rintro⟨⟨(pi:Int),(ts:List (List Int)),(ns:List A4),(os:List Int)⟩,_⟩ hc hL
  simp only[A4n,go_sem] at hL
  obtain⟨⟨lts,lts2⟩,⟨lns,lns2⟩,los⟩:=hL
  simp only[A4n,St.init,St.initG,Tryz.ntmps56,go_sem] 
  have hfm:C5 (pi,ts,ns,os)=true:=hc
  have hn24:ns.length≤24:=(A8 hfm).1
  refine oS fun _ hK1=>?_;refine oW E5 ?_;simp only[go_sem];refine hK1 _ ?_;refine oS fun _ hK2=>?_;refine oW E5 ?_;simp (maxSteps:=2000000)only[go_sem];repeat(with_reducible refine oA ?_)
  refine hK2 _ ?_;refine oS fun _ hK3=>?_;refine oW E5 ?_;simp only[go_sem];repeat(with_reducible refine oA ?_)
  refine hK3 _ ?_;refine oS fun _ hK4=>?_;refine oS fun _ hK5=>?_;refine oW E5 ?_;simp only[go_sem];refine hK5 _ ?_;refine A5 ?_;refine B4 (ι:={ s:List Bool × List Int × Bool // OrdI ns s.1 s.2.1∧(s.2.2=false→A2L ns s.2.1=none) }) (fun k=>⟨[zz,.c (.po 116 0),zz,.c (.ow 9001),.c (.ow 9002),.c (.sc (.bool (k.1.2.2))),zz,zz,zz,zz,zz,zz,zz,zz,zz,zz,zz,zz,zz,zz,zz,zz,zz,zz,zz,zz,zz,zz,zz,zz,zz,zz,zz,zz,zz,zz,zz,zz,zz,zz,zz,zz,zz,zz,zz,zz,zz,zz,zz,zz,zz,zz,zz,zz,zz],[(116,.box [.sc (.int .i64 (pi)),.rd [] 26 ((.row 2 (.int .i64))) (ts),.rd [] 56 ((.prod (.int .i64) (.prod (.int .i64) (.prod (.int .i64) (.row 2 (.int .i64)))))) (ns),.rd [] 2 (.int .i64) (os)]),(9001,.row 4 (.bool) (k.1.1) []),(9002,.row 2 (.int .i64) (k.1.2.1) [])]⟩) (fun k=>2 * k.1.1.count false+(if k.1.2.2=true then 1 else 0)) ⟨(List.replicate ns.length false,[],true),B4x ns,by simp⟩ ?_ ?_
  ·
   refine oK ?_;simp (maxSteps:=2000000)only[go_sem];all_goals(first|rfl|((repeat' refine And.intro ?_ ?_)<;>first|rfl|simp))
  rintro⟨⟨tk,out,fd⟩,hI,hfin⟩ K6 hL6
  simp only at hI hfin
  have hl1:=hI.1
  have hl2:=C02 hI
  refine oS fun _ hK7=>?_;refine oS fun _ hK8=>?_;refine oW E5 ?_;simp only[go_sem];refine hK8 _ ?_;refine oC rfl ?_ ?_
  ·
   intro c0;refine A3 ?_;simp only[go_sem];refine hK7 _ ?_;refine A5 ?_;refine oS fun _ hK9=>?_;refine oW E5 ?_;simp only[go_sem];refine hK9 _ ?_;refine oS fun _ hK10=>?_;refine oW E5 ?_;simp only[go_sem];repeat(with_reducible refine oA ?_)
   refine hK10 _ ?_;refine A5 ?_;refine B4 (ι:={ i:Nat // i≤ns.length∧∀j,j < i→R5 ns out j=false }) (fun k=>⟨[zz,.c (.po 116 0),zz,.c (.ow 9001),.c (.ow 9002),.c (.sc (.bool (false))),zz,zz,zz,zz,zz,zz,zz,zz,zz,zz,zz,zz,.c (.rd [] 56 ((.prod (.int .i64) (.prod (.int .i64) (.prod (.int .i64) (.row 2 (.int .i64)))))) (ns)),.c (.sc (.int .i64 (ns.length))),.c (.sc (.int .i64 (k.1))),zz,zz,zz,zz,zz,zz,zz,zz,zz,zz,zz,zz,zz,zz,zz,zz,zz,zz,zz,zz,zz,zz,zz,zz,zz,zz,zz,zz,zz,zz,zz,zz,zz,zz],[(116,.box [.sc (.int .i64 (pi)),.rd [] 26 ((.row 2 (.int .i64))) (ts),.rd [] 56 ((.prod (.int .i64) (.prod (.int .i64) (.prod (.int .i64) (.row 2 (.int .i64)))))) (ns),.rd [] 2 (.int .i64) (os)]),(9001,.row 4 (.bool) (tk) []),(9002,.row 2 (.int .i64) (out) [])]⟩) (fun k=>ns.length - k.1) ⟨0,by simp,by simp⟩ ?_ ?_
   ·
    refine oK ?_;simp (maxSteps:=2000000)only[go_sem];all_goals(first|rfl|((repeat' refine And.intro ?_ ?_)<;>first|rfl|simp))
   rintro⟨i,hi,hno⟩ K11 hL11
   refine oS fun _ hK12=>?_;refine oW E5 ?_;simp only[go_sem];refine hK12 _ ?_;refine oS fun _ hK13=>?_;refine oC rfl ?_ ?_
   ·
    intro c1;refine A3 ?_;simp only[go_sem];refine hK13 _ ?_;refine oS fun _ hK14=>?_;refine A5 ?_;refine oS fun _ hK15=>?_;refine oW E5 ?_;simp (maxSteps:=2000000)only[go_sem];repeat(with_reducible refine oA ?_)
    refine hK15 _ ?_;refine oS fun _ hK16=>?_;refine oW E5 ?_;simp (maxSteps:=2000000)only[go_sem];repeat(with_reducible refine oA ?_)
    refine hK16 _ ?_;refine oS fun _ hK17=>?_;refine oS fun _ hK18=>?_;refine oW E5 ?_;simp only[go_sem];repeat(with_reducible refine oA ?_)
    refine hK18 _ ?_;refine A5 ?_;refine B4 (ι:={ m:Nat // m≤(D9 (ns.getD i n0)).length }) (fun k=>⟨[zz,.c (.po 116 0),zz,.c (.ow 9001),.c (.ow 9002),.c (.sc (.bool (false))),.c (.sc (.int .i64 (i))),zz,.c (.sc (.bool (!tk.getD i false && ((D9 (ns.getD i n0)).take k.1).all (fun f=>out.contains f)))),zz,zz,zz,zz,zz,zz,zz,zz,zz,.c (.rd [] 56 ((.prod (.int .i64) (.prod (.int .i64) (.prod (.int .i64) (.row 2 (.int .i64)))))) (ns)),.c (.sc (.int .i64 (ns.length))),.c (.sc (.int .i64 (i))),zz,zz,zz,zz,zz,zz,zz,zz,zz,zz,.c (.rd [] 2 (.int .i64) (D9 (ns.getD i n0))),.c (.sc (.int .i64 ((D9 (ns.getD i n0)).length))),.c (.sc (.int .i64 (k.1))),zz,zz,zz,zz,zz,zz,zz,zz,zz,zz,zz,zz,zz,zz,zz,zz,zz,zz,zz,zz,zz],[(116,.box [.sc (.int .i64 (pi)),.rd [] 26 ((.row 2 (.int .i64))) (ts),.rd [] 56 ((.prod (.int .i64) (.prod (.int .i64) (.prod (.int .i64) (.row 2 (.int .i64)))))) (ns),.rd [] 2 (.int .i64) (os)]),(9001,.row 4 (.bool) (tk) []),(9002,.row 2 (.int .i64) (out) [])]⟩) (fun k=>(D9 (ns.getD i n0)).length - k.1) ⟨0,by simp⟩ ?_ ?_
    ·
     refine oK ?_;simp (maxSteps:=2000000)only[go_sem];all_goals(first|rfl|((repeat' refine And.intro ?_ ?_)<;>first|rfl|simp))
    rintro⟨m,hm⟩ K19 hL19
    have hwb:(D9 (ns.getD i n0)).length≤9223372036854775807:=Nat.le_trans (B5u _) (lns2 _ (B9 (by omega)))
    refine oS fun _ hK20=>?_;refine oW E5 ?_;simp only[go_sem];refine hK20 _ ?_;refine oS fun _ hK21=>?_;refine oC rfl ?_ ?_
    ·
     intro c2;refine A3 ?_;simp only[go_sem];refine hK21 _ ?_;refine oS fun _ hK22=>?_;refine A5 ?_;refine oS fun _ hK23=>?_;refine oW E5 ?_;simp only[go_sem];repeat(with_reducible refine oA ?_)
     refine hK23 _ ?_;have hwl:m < (D9 (ns.getD i n0)).length:=by omega
     obtain⟨hf1,hf2⟩:=A54 hfm (i:=i) (by show i < ns.length;omega) (B9 (d:=0) hwl)
     have hf1':(0:Int)≤(D9 (ns.getD i n0)).getD m 0:=hf1
     have hf2':((D9 (ns.getD i n0)).getD m 0:Int) < ns.length:=hf2
     have hq:tk.getD ((D9 (ns.getD i n0)).getD m 0).toNat false=out.contains ((D9 (ns.getD i n0)).getD m 0):=by rw[hI.2.1 _ (by omega),Int.toNat_of_nonneg hf1]
     refine oW E5 ?_;simp (maxSteps:=2000000)only[go_sem];repeat' (with_reducible first|refine oA ?_|refine oT (fun g13=>?_) (fun g13=>?_)|refine oE (fun g13=>?_) (fun g13=>?_))
     all_goals
      refine hK22 _ ?_;refine oW E5 ?_;simp only[go_sem];refine hL19 ⟨m+1,by omega⟩ _ (oK ?_) ?_
      ·
       simp (maxSteps:=2000000)only[go_sem];all_goals((repeat' refine And.intro ?_ ?_)<;>first|rfl|exact wk (by omega)|(rw[A9j (d:=0) (by omega),←Bool.and_assoc,g13];first|rfl|(rw[Bool.true_and];exact hq)))
      ·
       first|(simp only[];omega)|omega|(simp;omega)
    intro c2;refine C2 ?_;simp only[go_sem];refine hK17 _ ?_;refine oS fun _ hK24=>?_;refine oW E5 ?_;simp only[go_sem];refine hK24 _ ?_;refine oC rfl ?_ ?_
    ·
     intro c3;have hR:R5 ns out i=true:=by rw[B0R hI (by omega)];rw[List.take_of_length_le (by omega)] at c3;exact c3
     obtain⟨hI2,hC2⟩:=hI.next (by omega) hno hR
     refine oS fun _ hK25=>?_;refine oW E5 ?_;simp (maxSteps:=2000000)only[go_sem];repeat(with_reducible refine oA ?_)
     refine hK25 _ ?_;refine oS fun _ hK26=>?_;refine oW E5 ?_;simp (maxSteps:=2000000)only[go_sem];repeat(with_reducible refine oA ?_)
     refine hK26 _ ?_;refine C2 ?_;simp only[go_sem];first|(refine hL6 ⟨(tk.set i true,out++[(i:Int)],true),hI2,by simp⟩ _ (oK ?_) ?_)|(refine hL6 ⟨(tk,out,false),hI,fun _=>A3v fun j hj=>hno j (by omega)⟩ _ (oK ?_) ?_)
     ·
      simp (maxSteps:=2000000)only[go_sem];all_goals(first|rfl|((repeat' refine And.intro ?_ ?_)<;>first|rfl|exact wk (by omega)|simp))
     ·
      simp only[c0,if_true,Bool.false_eq_true,if_false];omega
    intro c3;have hR0:R5 ns out i=false:=by rw[B0R hI (by omega)];rw[List.take_of_length_le (by omega)] at c3;exact c3
    refine A3 ?_;simp only[go_sem];refine hK14 _ ?_;refine oW E5 ?_;simp only[go_sem];refine hL11 ⟨i+1,by omega,fun j hj=>by rcases Nat.lt_succ_iff_lt_or_eq.1 hj with h|h;exact hno j h;subst h;exact hR0⟩ _ (oK ?_) ?_
    ·
     simp (maxSteps:=2000000)only[go_sem];all_goals first|rfl|exact wk (by omega)
    ·
     first|(simp only[];omega)|omega|(simp;omega)
   intro c1;refine C2 ?_;simp only[go_sem];first|(refine hL6 ⟨(tk.set i true,out++[(i:Int)],true),hI2,by simp⟩ _ (oK ?_) ?_)|(refine hL6 ⟨(tk,out,false),hI,fun _=>A3v fun j hj=>hno j (by omega)⟩ _ (oK ?_) ?_)
   ·
    simp (maxSteps:=2000000)only[go_sem];all_goals(first|rfl|((repeat' refine And.intro ?_ ?_)<;>first|rfl|exact wk (by omega)|simp))
   ·
    simp only[c0,if_true,Bool.false_eq_true,if_false];omega
  intro c0;refine C2 ?_;simp only[go_sem];refine hK4 _ ?_;refine oS fun _ hK27=>?_;refine oW E5 ?_;simp only[go_sem];refine hK27 _ ?_;refine A2 ?_;simp only[hres,go_sem];first|exact oF|(refine⟨?_,oF⟩;exact(A8X _ (hfin (by simpa using c0))).symm.trans hI.2.2.1)
def B2H:F8:=fun f=>if f=56 then some (.p A4n) else A20 f
theorem B4w:B8 Tryz.prog B2H:=F9 B9C (B6 Tryz.func56 rfl (by decide)) E5
attribute [go_sem] B2H A4n
end Go.Proofs.YtflobmmbhaofbaaGreat
