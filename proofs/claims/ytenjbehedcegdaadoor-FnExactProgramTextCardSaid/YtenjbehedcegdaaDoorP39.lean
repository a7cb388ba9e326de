/-
  Texts of this claim, joined (part 39). No condition beyond those of the theorems.
-/
import Derived.Test.YtenjbehedcegdaaDoorP10
import Derived.Test.YtenjbehedcegdaaDoorP12
import Derived.Test.YtenjbehedcegdaaDoorP30
import Derived.Test.YtenjbehedcegdaaDoorP38
import Derived.Test.YtenjbehedcegdaaDoorP02
import Derived.Handed
import Derived.Test.YtenjbehedcegdaaDoorRows
namespace Go.Proofs.YtenjbehedcegdaaDoor
open Go.RowKit
set_option linter.unusedSimpArgs false
set_option linter.unusedVariables false
set_option maxRecDepth 100000
set_option maxHeartbeats 1000000
def T_mHx290:Tab:=fun f=>match T_toPg f with
 | some k=>some k
 | none=>T_eqG f
theorem T_mHx290_ok:TabOk Tryd.prog T_mHx290:=tabM T_toPg_ok T_eqG_ok
attribute [go_sem] T_mHx290 T0
def T_mHx291:Tab:=fun f=>match T_mHx290 f with
 | some k=>some k
 | none=>T_implPT f
theorem T_mHx291_ok:TabOk Tryd.prog T_mHx291:=tabM T_mHx290_ok T_implPT_ok
attribute [go_sem] T_mHx291 T0
def T_mHx292:Tab:=fun f=>match T_mHx291 f with
 | some k=>some k
 | none=>T_specPT f
theorem T_mHx292_ok:TabOk Tryd.prog T_mHx292:=tabM T_mHx291_ok T_specPT_ok
attribute [go_sem] T_mHx292 T0
def K_lawPT:Con:=⟨[.val ((.prod (.int .i64) (.prod (.int .i64) (.prod (.row 24 (.row 2 (.int .i64))) (.prod (.row 53 (.prod (.int .i64) (.prod (.int .i64) (.prod (.int .i64) (.prod (.int .i64) (.prod (.row 2 (.int .i64)) (.int .i64))))))) (.row 2 (.int .i64)))))))],[⟨.bool,true⟩],fun _=>True,fun _=>true⟩
theorem lawPT_ok:PureT Tryd.prog 3 K_lawPT:=by
  refine pure_of_body Tryd.func3 rfl ?_
  have hres:Tryd.f3.results.toList=[.tmp 2]:=rfl
  rintro⟨⟨(gi:Int),(gr:Int),(ts:List (List Int)),(xs:List InstrD),(os:List Int)⟩,_⟩ hc hL
  simp only[K_lawPT,go_sem] at hL
  simp only[K_lawPT,St.init,St.initG,Tryd.ntmps3,go_sem] 
  obtain⟨U,hU⟩:∃U,textG (gi,gr,ts,xs,os)=U:=⟨_,rfl⟩
  refine oS fun _ hK1=>?_
  refine AWP_wk (Wk_keep _ [0] []) ?_
  simp (maxSteps:=2000000)only[go_sem]
  refine oW T_mHx292_ok ?_
  simp only[go_sem]
  repeat(with_reducible first|refine oA ?_|refine And.intro (by first|assumption|exact⟨by omega,by omega⟩|(refine⟨by omega,?_⟩;simp only[ctP] at *;omega)) ?_)
  refine hK1 _ ?_
  refine oS fun _ hK2=>?_
  refine oW T_mHx292_ok ?_
  simp only[go_sem]
  repeat(with_reducible first|refine oA ?_|refine And.intro (by first|assumption|exact⟨by omega,by omega⟩|(refine⟨by omega,?_⟩;simp only[ctP] at *;omega)) ?_)
  refine hK2 _ ?_
  refine oS fun _ hK3=>?_
  refine AWP_wk (Wk_keep _ [1,3] [116]) ?_
  simp (maxSteps:=2000000)only[go_sem]
  refine oW T_mHx292_ok ?_
  simp only[go_sem]
  repeat(with_reducible first|refine oA ?_|refine And.intro (by first|assumption|exact⟨by omega,by omega⟩|(refine⟨by omega,?_⟩;simp only[ctP] at *;omega)) ?_)
  refine hK3 _ ?_
  refine oS fun _ hK4=>?_
  refine oS fun _ hK5=>?_
  refine oW T_mHx292_ok ?_
  simp only[go_sem]
  repeat(with_reducible first|refine oA ?_|refine And.intro (by first|assumption|exact⟨by omega,by omega⟩|(refine⟨by omega,?_⟩;simp only[ctP] at *;omega)) ?_)
  refine hK5 _ ?_
  refine oC rfl ?_ ?_
  ·
   intro c0
   refine oS fun _ hK6=>?_
   refine oW T_mHx292_ok ?_
   simp only[go_sem]
   repeat(with_reducible first|refine oA ?_|refine And.intro (by first|assumption|exact⟨by omega,by omega⟩|(refine⟨by omega,?_⟩;simp only[ctP] at *;omega)) ?_)
   refine hK6 _ ?_
   refine AWP_ret ?_
   simp only[hres,go_sem]
   first|exact oF|exact oFr
  intro c0
  obtain⟨e0,e0'⟩:=szR_ge' c0
  have f0:fitsG (gi,gr,ts,xs,os):=fitsG_sz (by omega)
  have g0:=ctG_le (gi,gr,ts,xs,os)
  have hz0:ctG (0,0,ts,xs,os)=ctG (gi,gr,ts,xs,os):=rfl
  have hn1:decide (1+(ctG (0,0,ts,xs,os):Int) < 0)=false:=decide_eq_false (by omega)
  refine AWP_skip ?_
  simp only[go_sem]
  refine hK4 _ ?_
  refine oS fun _ hK7=>?_
  refine AWP_wk (Wk_keep _ [1] [116]) ?_
  simp (maxSteps:=2000000)only[go_sem]
  refine oW T_mHx292_ok ?_
  simp only[hU,eqD_rfl,hn1,hU,go_sem]
  repeat(with_reducible first|refine oA ?_|refine And.intro (by first|assumption|exact⟨by omega,by omega⟩|(refine⟨by omega,?_⟩;simp only[ctP] at *;omega)) ?_)
  refine hK7 _ ?_
  refine oS fun _ hK8=>?_
  refine AWP_wk (Wk_keep _ [1,4] [116,324,325,326,327,328,329,330,331]) ?_
  simp (maxSteps:=2000000)only[go_sem]
  refine oW T_mHx292_ok ?_
  simp only[hU,eqD_rfl,hn1,hU,go_sem]
  repeat(with_reducible first|refine oA ?_|refine And.intro (by first|assumption|exact⟨by omega,by omega⟩|(refine⟨by omega,?_⟩;simp only[ctP] at *;omega)) ?_)
  refine hK8 _ ?_
  refine oS fun _ hK9=>?_
  refine AWP_wk (Wk_keep _ [1,4,5] [116,180,324,325,326,327,328,329,330,331,356,357,358,359,360,361,362,363]) ?_
  simp (maxSteps:=2000000)only[go_sem]
  refine oW T_mHx292_ok ?_
  simp only[hU,eqD_rfl,hn1,hU,go_sem]
  repeat(with_reducible first|refine oA ?_|refine And.intro (by first|assumption|exact⟨by omega,by omega⟩|(refine⟨by omega,?_⟩;simp only[ctP] at *;omega)) ?_)
  refine hK9 _ ?_
  refine oS fun _ hK10=>?_
  refine oS fun _ hK11=>?_
  refine oW T_mHx292_ok ?_
  simp only[hU,eqD_rfl,hn1,hU,go_sem]
  repeat(with_reducible first|refine oA ?_|refine And.intro (by first|assumption|exact⟨by omega,by omega⟩|(refine⟨by omega,?_⟩;simp only[ctP] at *;omega)) ?_)
  refine hK11 _ ?_
  refine oC rfl ?_ ?_
  ·
   intro c1
   all_goals first|(cases c1;done)|(simp at c1;done)|omega
  intro c1
  refine AWP_skip ?_
  simp only[go_sem]
  refine hK10 _ ?_
  refine oS fun _ hK12=>?_
  refine oS fun _ hK13=>?_
  refine AWP_wk (Wk_keep _ [1,5] [116,180,356,357,358,359,360,361,362,363]) ?_
  simp (maxSteps:=2000000)only[go_sem]
  refine oR T_mHx292_ok
    [[],[],[1],[0,1,2],[0,1,2,3]]
    [[484,485,486,487,488,489,490,491,492,493,494,495,496,497,498,499],[],[],[],[]]
    [[],[],[484,485,486,487,488,489,490,491,492,493,494,495,496,497,498,499],[],[]] (by kernel_rfl) (by kernel_rfl) (adrawR_ok (acc:=[]) ?_)
  simp (maxSteps:=2000000)only[hU,eqD_rfl,hn1,hU,go_sem]
  repeat(with_reducible first|refine oD ?_|refine And.intro (by first|assumption|exact⟨by omega,by omega⟩|(refine⟨by omega,?_⟩;simp only[ctP] at *;omega)) ?_)
  refine hK13 _ ?_
  refine oC rfl ?_ ?_
  ·
   intro c2
   all_goals first|(cases c2;done)|(simp at c2;done)|omega
  intro c2
  refine AWP_skip ?_
  simp only[go_sem]
  refine hK12 _ ?_
  refine oS fun _ hK14=>?_
  refine oW T_mHx292_ok ?_
  simp only[hU,eqD_rfl,hn1,hU,go_sem]
  repeat(with_reducible first|refine oA ?_|refine And.intro (by first|assumption|exact⟨by omega,by omega⟩|(refine⟨by omega,?_⟩;simp only[ctP] at *;omega)) ?_)
  refine hK14 _ ?_
  refine AWP_ret ?_
  simp only[hres,go_sem]
  first|exact oF|exact oFr
def T_lawPT:Tab:=fun f=>if f=3 then some (.p K_lawPT) else T_mHx292 f
attribute [go_sem] T_lawPT K_lawPT
theorem handedS {H:Type} {enc:TypeId × Value→H} {C:Checked} {os:Os} {f:FuncId} {fn:Func} {s:ChangeSpec} {X:World→Array Value→Prop} (hX:∀(w w':World) (args:Array Value),w.heap=w'.heap→X w args→X w' args)
 (own:ownKnob C.prog.godebug=none) (started:os.Started) (noInit:C.prog.inits.idxOf? f=none) (hfn:C.prog.funcs[f]?=some fn)
 (witness:∃(w:World) (tape:Tape) (i:Input),w.os=os∧(w.forCall tape i).Shaped C.prog∧i.vars=[]∧Input.okWide C.prog (w.forCall tape i) .any w.heap.size f i ∧
  ((s.pre enc C.prog fn [] false (w.forCall tape i).memory i.args∧X (w.forCall tape i).memory i.args)∧sizedMet enc C.prog fn (OpenSpec.ofChange s) false (w.forCall tape i).memory i.args)∧({}:Assume).holds C.prog (lone (Frame.enter C.prog f i.args .normal) [] (w.forCall tape i)))
 (law:∀(W:World) (base:Nat) (args:Array Value) (ds gs:List (DataW H)) (before:List MemPlace),W.ShapedOpen C.prog →
  (∀(j:Nat) t v,fn.params[j]?=some t→args[j]?=some v→Value.okWide C.prog W .any base t v)→DataW.Whole enc C.prog fn.params.toList s.vars false W args.toList ds gs before→X W args →
  Calls C.prog f args W fun e W'=>∃v,e=.returned v∧s.post enc C.prog fn false true false false W args v W') :
 ReturnsInHanded {} C os f .any (fun w args=>(s.pre enc C.prog fn [] false w args∧X w args)∧sizedMet enc C.prog fn (OpenSpec.ofChange s) false w args) (s.post enc C.prog fn false true false false) :=
 returnsInHanded_of_calls own started noInit witness fun w tape i _ shape _ hok hpre _=>by
  obtain⟨_,_,_,fn',h1,_,_,_,_,hv⟩:=hok
  rw[hfn] at h1
  obtain rfl:=Option.some.inj h1
  obtain⟨⟨⟨ds,gs,before,hw,_⟩,hx⟩,_⟩:=hpre
  refine(law (w.forCall tape i) w.heap.size i.args ds gs before shape hv (DataW.Whole.of_heap (by rfl) hw) (hX _ _ _ (by rfl) hx)).mono fun e W' h=>?_
  obtain⟨v,rfl,hp⟩:=h
  exact ChangeSpec.post_blind hp
end Go.Proofs.YtenjbehedcegdaaDoor
