/-
  Texts of this claim, joined (part 21). No condition beyond those of the theorems.
-/
import Derived.Test.YthhogcknkimijaaDoorE18
import Derived.Test.YthhogcknkimijaaDoorE19
import Derived.Test.YthhogcknkimijaaDoorE20
import Derived.Test.YthhogcknkimijaaDoorE02
namespace Go.Proofs.YthhogcknkimijaaDoor
open Go.RowKit
set_option linter.unusedSimpArgs false
set_option linter.unusedVariables false
set_option maxRecDepth 100000
set_option maxHeartbeats 1000000
def T_mHx260:Tab:=fun f=>match T_implEnvT f with
 | some k=>some k
 | none=>T_specEnvT f
theorem T_mHx260_ok:TabOk Tryd.prog T_mHx260:=tabM T_implEnvT_ok T_specEnvT_ok
attribute [go_sem] T_mHx260 T0
def T_mHx261:Tab:=fun f=>match T_mHx260 f with
 | some k=>some k
 | none=>T_heldE f
theorem T_mHx261_ok:TabOk Tryd.prog T_mHx261:=tabM T_mHx260_ok T_heldE_ok
attribute [go_sem] T_mHx261 T0
def K_lawEnvT:Con:=⟨[.val ((.prod (.int .i64) (.prod (.row 74 (.prod (.int .i64) (.int .i64))) (.int .i64))))],[⟨.bool,true⟩],fun _=>True,fun _=>true⟩
theorem lawEnvT_ok:PureT Tryd.prog 3 K_lawEnvT:=by
  refine pure_of_body Tryd.func3 rfl ?_
  have hres:Tryd.f3.results.toList=[.tmp 2]:=rfl
  rintro⟨⟨(st:Int),(sg:List (Int × Int)),(rl:Int)⟩,_⟩ hc hL
  simp only[K_lawEnvT,go_sem] at hL
  simp only[K_lawEnvT,St.init,St.initG,Tryd.ntmps3,go_sem] 
  obtain⟨U,hU⟩:∃U,envT (st,sg,rl)=U:=⟨_,rfl⟩
  refine oS fun _ hK1=>?_
  refine AWP_wk (Wk_keep _ [0] []) ?_
  simp (maxSteps:=2000000)only[go_sem]
  refine oW T_mHx261_ok ?_
  simp only[go_sem]
  repeat(with_reducible first|refine oA ?_|refine And.intro (by first|assumption|exact⟨by omega,by omega⟩|(refine⟨by omega,?_⟩;simp only[ctP] at *;omega)) ?_)
  refine hK1 _ ?_
  refine oS fun _ hK2=>?_
  refine oW T_mHx261_ok ?_
  simp only[go_sem]
  repeat(with_reducible first|refine oA ?_|refine And.intro (by first|assumption|exact⟨by omega,by omega⟩|(refine⟨by omega,?_⟩;simp only[ctP] at *;omega)) ?_)
  refine hK2 _ ?_
  refine oS fun _ hK3=>?_
  refine AWP_wk (Wk_keep _ [1,3] [116]) ?_
  simp (maxSteps:=2000000)only[go_sem]
  refine oW T_mHx261_ok ?_
  simp only[go_sem]
  repeat(with_reducible first|refine oA ?_|refine And.intro (by first|assumption|exact⟨by omega,by omega⟩|(refine⟨by omega,?_⟩;simp only[ctP] at *;omega)) ?_)
  refine hK3 _ ?_
  refine oS fun _ hK4=>?_
  refine oS fun _ hK5=>?_
  refine oW T_mHx261_ok ?_
  simp only[go_sem]
  repeat(with_reducible first|refine oA ?_|refine And.intro (by first|assumption|exact⟨by omega,by omega⟩|(refine⟨by omega,?_⟩;simp only[ctP] at *;omega)) ?_)
  refine hK5 _ ?_
  refine oC rfl ?_ ?_
  ·
   intro c0
   refine oS fun _ hK6=>?_
   refine oW T_mHx261_ok ?_
   simp only[go_sem]
   repeat(with_reducible first|refine oA ?_|refine And.intro (by first|assumption|exact⟨by omega,by omega⟩|(refine⟨by omega,?_⟩;simp only[ctP] at *;omega)) ?_)
   refine hK6 _ ?_
   refine AWP_ret ?_
   simp only[hres,go_sem]
   first|exact oF|exact oFr
  intro c0
  obtain⟨e0,e0'⟩:=szR_ge' c0
  have hn1:decide (1+((2 * sg.length:Nat):Int) < 0)=false:=decide_eq_false (by omega)
  refine AWP_skip ?_
  simp only[go_sem]
  refine hK4 _ ?_
  refine oS fun _ hK7=>?_
  refine AWP_wk (Wk_keep _ [1] [116]) ?_
  simp (maxSteps:=2000000)only[go_sem]
  refine oW T_mHx261_ok ?_
  simp only[hU,eqD_rfl,hn1,hU,go_sem]
  repeat(with_reducible first|refine oA ?_|refine And.intro (by first|assumption|exact⟨by omega,by omega⟩|(refine⟨by omega,?_⟩;simp only[ctP] at *;omega)) ?_)
  refine hK7 _ ?_
  refine oS fun _ hK8=>?_
  refine AWP_wk (Wk_keep _ [1,4] [116,324,325,326,327,328,329,330,331]) ?_
  simp (maxSteps:=2000000)only[go_sem]
  refine oW T_mHx261_ok ?_
  simp only[hU,eqD_rfl,hn1,hU,go_sem]
  repeat(with_reducible first|refine oA ?_|refine And.intro (by first|assumption|exact⟨by omega,by omega⟩|(refine⟨by omega,?_⟩;simp only[ctP] at *;omega)) ?_)
  refine hK8 _ ?_
  refine oS fun _ hK9=>?_
  refine AWP_wk (Wk_keep _ [1,4,5] [116,180,324,325,326,327,328,329,330,331,356,357,358,359,360,361,362,363]) ?_
  simp (maxSteps:=2000000)only[go_sem]
  refine oW T_mHx261_ok ?_
  simp only[hU,eqD_rfl,hn1,hU,go_sem]
  repeat(with_reducible first|refine oA ?_|refine And.intro (by first|assumption|exact⟨by omega,by omega⟩|(refine⟨by omega,?_⟩;simp only[ctP] at *;omega)) ?_)
  refine hK9 _ ?_
  refine oS fun _ hK10=>?_
  refine oS fun _ hK11=>?_
  refine oW T_mHx261_ok ?_
  simp only[hU,eqD_rfl,hn1,hU,go_sem]
  repeat(with_reducible first|refine oA ?_|refine And.intro (by first|assumption|exact⟨by omega,by omega⟩|(refine⟨by omega,?_⟩;simp only[ctP] at *;omega)) ?_)
  refine hK11 _ ?_
  refine oC rfl ?_ ?_
  ·
   intro c1
   all_goals first|(cases c1;done)|(simp at c1;done)|omega
  intro c1
  refine AWP_skip ?_
  simp only[go_sem]
  refine hK10 _ ?_
  refine oS fun _ hK12=>?_
  refine oS fun _ hK13=>?_
  refine AWP_wk (Wk_keep _ [1,5] [116,180,356,357,358,359,360,361,362,363]) ?_
  simp (maxSteps:=2000000)only[go_sem]
  refine oR T_mHx261_ok
    [[],[],[1],[0,1,2],[0,1,2,3]]
    [[484,485,486,487,488,489,490,491,492,493,494,495,496,497,498,499],[],[],[],[]]
    [[],[],[484,485,486,487,488,489,490,491,492,493,494,495,496,497,498,499],[],[]] (by kernel_rfl) (by kernel_rfl) (adrawR_ok (acc:=[]) ?_)
  simp (maxSteps:=2000000)only[hU,eqD_rfl,hn1,hU,go_sem]
  repeat(with_reducible first|refine oD ?_|refine And.intro (by first|assumption|exact⟨by omega,by omega⟩|(refine⟨by omega,?_⟩;simp only[ctP] at *;omega)) ?_)
  refine hK13 _ ?_
  refine oC rfl ?_ ?_
  ·
   intro c2
   all_goals first|(cases c2;done)|(simp at c2;done)|omega
  intro c2
  refine AWP_skip ?_
  simp only[go_sem]
  refine hK12 _ ?_
  refine oS fun _ hK14=>?_
  refine oW T_mHx261_ok ?_
  simp only[hU,eqD_rfl,hn1,hU,go_sem]
  repeat(with_reducible first|refine oA ?_|refine And.intro (by first|assumption|exact⟨by omega,by omega⟩|(refine⟨by omega,?_⟩;simp only[ctP] at *;omega)) ?_)
  refine hK14 _ ?_
  refine AWP_ret ?_
  simp only[hres,go_sem]
  first|exact oF|exact oFr
def T_lawEnvT:Tab:=fun f=>if f=3 then some (.p K_lawEnvT) else T_mHx261 f
attribute [go_sem] T_lawEnvT K_lawEnvT
end Go.Proofs.YthhogcknkimijaaDoor
