/-
  Texts of this claim, joined (part 43). No condition beyond those of the theorems.
-/
import Derived.Test.YtgmabhkmiokiaaaGreatVa41
import Derived.Test.YtgmabhkmiokiaaaGreatVa42
namespace Go.Proofs.YtgmabhkmiokiaaaGreat
open Go.RowKit
set_option linter.unusedSimpArgs false
set_option linter.unusedVariables false
set_option maxRecDepth 100000
set_option maxHeartbeats 4000000
def K_l07Order:Con:=⟨[.ptr (.prod (.int .i64) (.prod (.row 26 (.row 2 (.int .i64))) (.prod (.row 93 (.prod (.int .i64) (.prod (.int .i64) (.prod (.int .i64) (.row 2 (.int .i64)))))) (.row 2 (.int .i64)))))],[⟨(.row 2 (.int .i64)),true⟩,⟨.bool,true⟩],fun x=>formedB x.1=true,fun x=>ordR x.1.2.2.1⟩
theorem l07Order_ok:PureT Tryz.prog 53 K_l07Order:=by
  refine pure_of_body Tryz.func53 rfl ?_
  have hres:Tryz.f53.results.toList=[.tmp 2,.tmp 3]:=rfl
  rintro ⟨⟨(pi:Int),(ts:List (List Int)),(ns:List NodeD),(os:List Int)⟩,_⟩ hc hL
  simp only[K_l07Order,go_sem] at hL
  obtain ⟨⟨lts,lts2⟩,⟨lns,lns2⟩,los⟩:=hL
  simp only[K_l07Order,St.init,St.initG,Tryz.ntmps53,go_sem] 
  have hfm:formedB (pi,ts,ns,os)=true:=hc
  have hn24:ns.length≤24:=(formedB_parts hfm).1
  refine oS fun _ hK1=>?_;refine oW T_l07All_ok ?_;simp only[go_sem];refine hK1 _ ?_;refine oS fun _ hK2=>?_;refine oW T_l07All_ok ?_;simp only[go_sem];repeat (with_reducible refine oA ?_)
  refine hK2 _ ?_;refine oS fun _ hK3=>?_;refine AWP_block ?_;refine AWP_loop_k (ι:={ out:List Int // ordGo ns (ns.length - out.length) out=ordL ns∧out.length≤ns.length }) (fun k=>⟨[.c (.pt [] ((.prod (.int .i64) (.prod (.row 26 (.row 2 (.int .i64))) (.prod (.row 93 (.prod (.int .i64) (.prod (.int .i64) (.prod (.int .i64) (.row 2 (.int .i64)))))) (.row 2 (.int .i64)))))) (pi,ts,ns,os) 0),zz,zz,zz,.c (.ow 9001),zz,zz,zz,zz,zz,zz,zz,zz,zz,zz,zz,zz,zz,zz,zz,zz,zz,zz,zz,zz,zz,zz,zz,zz,zz,zz,zz,zz,zz,zz,zz,zz,zz,zz,zz,zz,zz,zz,zz,zz,zz,zz,zz,zz,zz,zz,zz],[(9001,.row 2 (.int .i64) (k.1) [])]⟩) (fun k=>ns.length - k.1.length) ⟨[],rfl,by simp⟩ ?_ ?_
  ·
   refine oK ?_;simp (maxSteps:=2000000)only[go_sem];all_goals (first | rfl | ((repeat' refine And.intro ?_ ?_)<;>first | rfl | simp))
  rintro ⟨out,ho1,ho2⟩ K4 hL4
  refine oS fun _ hK5=>?_;refine oS fun _ hK6=>?_;refine oW T_l07All_ok ?_;simp (maxSteps:=2000000)only[go_sem];repeat (with_reducible refine oA ?_)
  refine hK6 _ ?_;refine oC rfl ?_ ?_
  ·
   intro c0;refine AWP_skip ?_;simp only[go_sem];refine hK5 _ ?_;refine AWP_block ?_;refine oS fun _ hK7=>?_;refine oW T_l07All_ok ?_;simp only[go_sem];refine hK7 _ ?_;refine oS fun _ hK8=>?_;refine oS fun _ hK9=>?_;refine oW T_l07All_ok ?_;simp only[go_sem];refine hK9 _ ?_;refine AWP_block ?_;refine AWP_loop_k (ι:={ s:Nat × Int // s.1≤ns.length∧-1≤s.2∧(s.2 < 0→∀ j,j < s.1→readyB ns out j=false)∧(0≤s.2→∃ i,i < ns.length∧s.2=(i:Int)∧(∀ j,j < i→readyB ns out j=false)∧readyB ns out i=true) }) (fun k=>⟨[.c (.pt [] ((.prod (.int .i64) (.prod (.row 26 (.row 2 (.int .i64))) (.prod (.row 93 (.prod (.int .i64) (.prod (.int .i64) (.prod (.int .i64) (.row 2 (.int .i64)))))) (.row 2 (.int .i64)))))) (pi,ts,ns,os) 0),zz,zz,zz,.c (.ow 9001),.c (.sc (.int .i64 (k.1.2))),.c (.sc (.int .i64 (k.1.1))),zz,zz,zz,zz,zz,zz,zz,zz,zz,zz,zz,zz,zz,zz,zz,zz,zz,zz,zz,zz,zz,zz,zz,zz,zz,zz,zz,zz,zz,zz,zz,zz,zz,zz,zz,zz,zz,zz,zz,zz,zz,zz,zz,zz,zz],[(9001,.row 2 (.int .i64) (out) [])]⟩) (fun k=>ns.length - k.1.1) ⟨(0,-1),by simp,by simp,by simp,by simp⟩ ?_ ?_
   ·
    refine oK ?_;simp (maxSteps:=2000000)only[go_sem];all_goals (first | rfl | ((repeat' refine And.intro ?_ ?_)<;>first | rfl | simp))
   rintro ⟨⟨i,nx⟩,hi,hn1,hn2,hn3⟩ K10 hL10
   simp only at hi hn1 hn2 hn3
   refine oS fun _ hK11=>?_;refine oS fun _ hK12=>?_;refine oW T_l07All_ok ?_;simp (maxSteps:=2000000)only[go_sem];repeat' (with_reducible first | refine oA ?_ | refine oT (fun g5=>?_) (fun g5=>?_) | refine oE (fun g5=>?_) (fun g5=>?_))
   all_goals
    refine hK12 _ ?_;refine AWP_cond rfl ?_ ?_
    ·
     intro c1;try simp only[zA,zB,zC,zD,zE,zF,zG,zH,zI] at c1
     all_goals
      refine AWP_skip ?_;simp only[go_sem];refine hK11 _ ?_;refine oS fun _ hK13=>?_;refine AWP_block ?_;refine oS fun _ hK14=>?_;refine oW T_l07All_ok ?_;simp (maxSteps:=2000000)only[go_sem];repeat' (with_reducible first | refine oA ?_ | refine oT (fun g7=>?_) (fun g7=>?_) | refine oE (fun g7=>?_) (fun g7=>?_))
      all_goals
       refine hK14 _ ?_;refine AWP_cond rfl ?_ ?_
       ·
        intro c2;try simp only[zA,zB,zC,zD,zE,zF,zG,zH,zI] at c2
        all_goals
         have hRt:readyB ns out i=true:=by unfold readyB; clear hK1 hK2 hK3 hL4 hK5 hK6 hK7 hK8 hK9 hL10 hK11 hK12 hK13 hK14; simp_all
         refine oW T_l07All_ok ?_;simp only[go_sem];refine hK13 _ ?_;refine oW T_l07All_ok ?_;simp only[go_sem];first | (refine hL10 ⟨(i+1,(i:Int)),by omega,by omega,by omega,fun _=>⟨i,by omega,rfl,hn2 (by omega),hRt⟩⟩ _ (oK ?_) ?_) | (refine hL10 ⟨(i+1,nx),by omega,by omega,fun h j hj=>by rcases Nat.lt_succ_iff_lt_or_eq.1 hj with h' | h'; exact hn2 h j h'; subst h'; exact hR,hn3⟩ _ (oK ?_) ?_)
         ·
          simp (maxSteps:=2000000)only[go_sem];all_goals ((repeat' refine And.intro ?_ ?_)<;>first | rfl | exact wk (by omega) | simp)
         ·
          simp only[]; omega
       ·
        intro c2;try simp only[zA,zB,zC,zD,zE,zF,zG,zH,zI] at c2
        all_goals
         have hR:readyB ns out i=false:=by unfold readyB; clear hK1 hK2 hK3 hL4 hK5 hK6 hK7 hK8 hK9 hL10 hK11 hK12 hK13 hK14; simp_all
         refine AWP_skip ?_;simp only[go_sem];refine hK13 _ ?_;refine oW T_l07All_ok ?_;simp only[go_sem];first | (refine hL10 ⟨(i+1,(i:Int)),by omega,by omega,by omega,fun _=>⟨i,by omega,rfl,hn2 (by omega),hRt⟩⟩ _ (oK ?_) ?_) | (refine hL10 ⟨(i+1,nx),by omega,by omega,fun h j hj=>by rcases Nat.lt_succ_iff_lt_or_eq.1 hj with h' | h'; exact hn2 h j h'; subst h'; exact hR,hn3⟩ _ (oK ?_) ?_)
         ·
          simp (maxSteps:=2000000)only[go_sem];all_goals ((repeat' refine And.intro ?_ ?_)<;>first | rfl | exact wk (by omega) | simp)
         ·
          simp only[]; omega
    ·
     intro c1;try simp only[zA,zB,zC,zD,zE,zF,zG,zH,zI] at c1
     all_goals
      have hs0:nx < 0→nextR ns out=none:=fun h=>nextR_none fun j hj=>hn2 h j (by omega)
      have hs1:=hn3
      refine AWP_exit ?_;simp only[go_sem];refine hK8 _ ?_;refine oS fun _ hK15=>?_;refine oS fun _ hK16=>?_;refine oW T_l07All_ok ?_;simp only[go_sem];refine hK16 _ ?_;refine AWP_cond rfl ?_ ?_
      ·
       intro c3;try simp only[zA,zB,zC,zD,zE,zF,zG,zH,zI] at c3
       all_goals
        have hnx:nextR ns out=none:=hs0 (by omega)
        refine oS fun _ hK17=>?_;refine oW T_l07All_ok ?_;simp only[go_sem];refine hK17 _ ?_;refine AWP_ret ?_;simp only[hres,go_sem]
        first
         | exact oF
         | refine ⟨?_,oF⟩
           unfold ordR;rw [decide_eq_false (by rw [← ho1,ordGo_none _ hnx]; omega)]
      ·
       intro c3;try simp only[zA,zB,zC,zD,zE,zF,zG,zH,zI] at c3
       all_goals
        obtain ⟨i,hi,hst,hno,hR⟩:=hs1 (by omega)
        have hnx:nextR ns out=some i:=nextR_some hi hno hR
        refine AWP_skip ?_;simp only[go_sem];refine hK15 _ ?_;refine oW T_l07All_ok ?_;simp (maxSteps:=2000000)only[go_sem];repeat (with_reducible refine oA ?_)
        refine hL4 ⟨out++[(i:Int)],by rw [← ho1,show ns.length - out.length=(ns.length - out.length - 1)+1 by omega,ordGo_some hnx,List.length_append]; rfl,by simp; omega⟩ _ (oK ?_) ?_
        ·
         simp (maxSteps:=2000000)only[go_sem];all_goals ((repeat' refine And.intro ?_ ?_)<;>first | rfl | (rw [hst]; rfl) | simp [hst])
        ·
         simp only[List.length_append,List.length_cons,List.length_nil]; omega
  intro c0;refine AWP_exit ?_;simp only[go_sem];refine hK3 _ ?_;refine oS fun _ hK18=>?_;refine oW T_l07All_ok ?_;simp only[go_sem];refine hK18 _ ?_;refine AWP_ret ?_;simp only[hres,go_sem]
  first
   | exact oF
   | refine ⟨?_,oF⟩
     have he:ordL ns=out:=by rw [← ho1,show ns.length - out.length=0 by omega]; rfl
     unfold ordR;rw [decide_eq_true (by rw [he]; omega),he]
def T_l07Order:Tab:=fun f=>if f=53 then some (.p K_l07Order) else T_l07All f
theorem T_l07Order_ok:TabOk Tryz.prog T_l07Order:=tabP l07Order_ok (fnOk_of Tryz.func53 rfl (by decide)) T_l07All_ok
attribute [go_sem] T_l07Order K_l07Order
set_option maxRecDepth 100000
set_option maxHeartbeats 1000000
def T_mGb60:Tab:=fun f=>match T_l07Formed f with
 | some k=>some k
 | none=>T_l07Order f
theorem T_mGb60_ok:TabOk Tryz.prog T_mGb60:=tabM T_l07Formed_ok T_l07Order_ok
attribute [go_sem] T_mGb60 T0
def K_l07Ok:Con:=⟨[.ptr (.prod (.int .i64) (.prod (.row 26 (.row 2 (.int .i64))) (.prod (.row 93 (.prod (.int .i64) (.prod (.int .i64) (.prod (.int .i64) (.row 2 (.int .i64)))))) (.row 2 (.int .i64)))))],[⟨.bool,true⟩],fun _=>True,fun x=>patchB x.1⟩
theorem l07Ok_ok:PureT Tryz.prog 25 K_l07Ok:=by
  refine pure_of_body Tryz.func25 rfl ?_
  have hres:Tryz.f25.results.toList=[.tmp 2]:=rfl
  rintro ⟨⟨(pi:Int),(ts:List (List Int)),(ns:List NodeD),(os:List Int)⟩,_⟩ hc hL
  simp only[K_l07Ok,go_sem] at hL
  obtain ⟨⟨lts,lts2⟩,⟨lns,lns2⟩,los⟩:=hL
  simp only[K_l07Ok,St.init,St.initG,Tryz.ntmps25,go_sem] 
  refine oS fun _ hK1=>?_;refine oW T_mGb60_ok ?_;simp only[go_sem];repeat (with_reducible first | refine oA ?_ | refine And.intro (by first | assumption) ?_)
  refine hK1 _ ?_;refine oS fun _ hK2=>?_;refine oS fun _ hK3=>?_;refine oW T_mGb60_ok ?_;simp only[go_sem];repeat (with_reducible first | refine oA ?_ | refine And.intro (by first | assumption) ?_)
  refine hK3 _ ?_;refine oC rfl ?_ ?_
  ·
   intro c0;refine oS fun _ hK4=>?_;refine oW T_mGb60_ok ?_;simp only[go_sem];repeat (with_reducible first | refine oA ?_ | refine And.intro (by first | assumption) ?_)
   refine hK4 _ ?_;refine AWP_ret ?_;simp only[hres,go_sem];first | exact oF | (refine ⟨?_,oF⟩; clear hK1 hK2 hK3 hK4; unfold patchB; simp_all [ordR]<;>(split<;>simp_all))
  intro c0;refine AWP_skip ?_;simp only[go_sem];refine hK2 _ ?_;refine oS fun _ hK5=>?_;refine oW T_mGb60_ok ?_;simp (maxSteps:=2000000)only[go_sem];repeat (with_reducible first | refine oA ?_ | refine And.intro (by first | assumption) ?_)
  refine hK5 _ ?_;refine oS fun _ hK6=>?_;refine oW T_mGb60_ok ?_;simp only[go_sem];repeat (with_reducible first | refine oA ?_ | refine And.intro (by first | assumption) ?_)
  refine hK6 _ ?_;refine AWP_ret ?_;simp only[hres,go_sem];first | exact oF | (refine ⟨?_,oF⟩; clear hK1 hK2 hK3 hK5 hK6; unfold patchB; simp_all [ordR]<;>(split<;>simp_all))
def T_l07Ok:Tab:=fun f=>if f=25 then some (.p K_l07Ok) else T_mGb60 f
theorem T_l07Ok_ok:TabOk Tryz.prog T_l07Ok:=tabP l07Ok_ok (fnOk_of Tryz.func25 rfl (by decide)) T_mGb60_ok
attribute [go_sem] T_l07Ok K_l07Ok
def T_l12Ask:Tab:=T_l07Ok
theorem T_l12Ask_ok:TabOk Tryz.prog T_l12Ask:=T_l07Ok_ok
attribute [go_sem] T_l12Ask
end Go.Proofs.YtgmabhkmiokiaaaGreat
