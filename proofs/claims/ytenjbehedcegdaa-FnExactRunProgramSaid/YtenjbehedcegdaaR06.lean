/-
  Texts of this claim, joined (part 6). No condition beyond those of the theorems.
-/
import Derived.Test.YtenjbehedcegdaaR05
namespace Go.Proofs.Ytenjbehedcegdaa
open Go.RowKit
set_option linter.unusedSimpArgs false
set_option linter.unusedVariables false
set_option maxRecDepth 100000
set_option maxHeartbeats 1000000
def K_within:Con:=⟨[.val (.int .i64),.val (.int .i64),.val (.int .i64)],[⟨.bool,true⟩],fun _=>True,fun x=>inR x.1 x.2.1 x.2.2.1⟩
theorem within_ok:PureT Try.prog 54 K_within:=by
  refine pure_of_body Try.func54 rfl ?_
  have hres:Try.f54.results.toList=[.tmp 6]:=rfl
  rintro⟨(x:Int),(lo:Int),(hi:Int),_⟩ hc hL
  simp only[K_within,go_sem] at hL
  simp only[K_within,St.init,St.initG,Try.ntmps54,go_sem] 
  refine oS fun _ hK1=>?_
  refine oW T0_ok ?_
  simp only[go_sem]
  refine hK1 _ ?_
  refine oS fun _ hK2=>?_
  refine oW T0_ok ?_
  simp (maxSteps:=2000000)only[go_sem]
  repeat' (with_reducible first|refine oA ?_|refine oT (fun g1=>?_) (fun g1=>?_)|refine oE (fun g1=>?_) (fun g1=>?_))
  all_goals
   refine hK2 _ ?_
   refine AWP_ret ?_
   simp only[hres,go_sem]
   first|exact oF|(refine⟨?_,oF⟩;first|rw[inR,decide_eq_true (show lo≤x from g1),Bool.true_and]|rw[inR,decide_eq_false (show ¬lo≤x from g1),Bool.false_and])
def T_within:Tab:=fun f=>if f=54 then some (.p K_within) else T0 f
theorem T_within_ok:TabOk Try.prog T_within:=tabP within_ok (fnOk_of Try.func54 rfl (by decide)) T0_ok
attribute [go_sem] T_within K_within
def K_l00In:Con:=⟨[.val (.int .i64),.val (.int .i64),.val (.int .i64)],[⟨.bool,true⟩],fun _=>True,fun x=>inR x.1 x.2.1 x.2.2.1⟩
theorem l00In_ok:PureT Try.prog 18 K_l00In:=by
  refine pure_of_body Try.func18 rfl ?_
  have hres:Try.f18.results.toList=[.tmp 6]:=rfl
  rintro⟨(x:Int),(lo:Int),(hi:Int),_⟩ hc hL
  simp only[K_l00In,go_sem] at hL
  simp only[K_l00In,St.init,St.initG,Try.ntmps18,go_sem] 
  refine oS fun _ hK1=>?_
  refine oW T_within_ok ?_
  simp only[go_sem]
  refine hK1 _ ?_
  refine oS fun _ hK2=>?_
  refine oW T_within_ok ?_
  simp (maxSteps:=2000000)only[go_sem]
  repeat' (with_reducible first|refine oA ?_|refine oT (fun g1=>?_) (fun g1=>?_)|refine oE (fun g1=>?_) (fun g1=>?_))
  all_goals
   refine hK2 _ ?_
   refine AWP_ret ?_
   simp only[hres,go_sem]
   first|exact oF|(refine⟨?_,oF⟩;first|rw[inR,decide_eq_true (show lo≤x from g1),Bool.true_and]|rw[inR,decide_eq_false (show ¬lo≤x from g1),Bool.false_and])
def T_l00In:Tab:=fun f=>if f=18 then some (.p K_l00In) else T_within f
theorem T_l00In_ok:TabOk Try.prog T_l00In:=tabP l00In_ok (fnOk_of Try.func18 rfl (by decide)) T_within_ok
attribute [go_sem] T_l00In K_l00In
def K_isSample:Con:=⟨[.val (.int .i64)],[⟨.bool,true⟩],fun _=>True,fun x=>smp x.1⟩
theorem isSample_ok:PureT Try.prog 85 K_isSample:=by
  refine pure_of_body Try.func85 rfl ?_
  have hres:Try.f85.results.toList=[.tmp 2]:=rfl
  rintro⟨(x:Int),_⟩ hc hL
  simp only[K_isSample,go_sem] at hL
  simp only[K_isSample,St.init,St.initG,Try.ntmps85,go_sem] 
  refine oS fun _ hK1=>?_
  refine oW T_l00In_ok ?_
  simp only[go_sem]
  refine hK1 _ ?_
  refine oS fun _ hK2=>?_
  refine oW T_l00In_ok ?_
  simp only[go_sem]
  repeat(with_reducible refine oA ?_)
  refine hK2 _ ?_
  refine AWP_ret ?_
  simp only[hres,go_sem]
  first|exact oF|exact oFr
def T_isSample:Tab:=fun f=>if f=85 then some (.p K_isSample) else T_l00In f
theorem T_isSample_ok:TabOk Try.prog T_isSample:=tabP isSample_ok (fnOk_of Try.func85 rfl (by decide)) T_l00In_ok
attribute [go_sem] T_isSample K_isSample
def K_l01Sample:Con:=⟨[.val (.int .i64)],[⟨.bool,true⟩],fun _=>True,fun x=>smp x.1⟩
theorem l01Sample_ok:PureT Try.prog 45 K_l01Sample:=by
  refine pure_of_body Try.func45 rfl ?_
  have hres:Try.f45.results.toList=[.tmp 2]:=rfl
  rintro⟨(x:Int),_⟩ hc hL
  simp only[K_l01Sample,go_sem] at hL
  simp only[K_l01Sample,St.init,St.initG,Try.ntmps45,go_sem] 
  refine oS fun _ hK1=>?_
  refine oW T_isSample_ok ?_
  simp only[go_sem]
  refine hK1 _ ?_
  refine oS fun _ hK2=>?_
  refine oW T_isSample_ok ?_
  simp only[go_sem]
  repeat(with_reducible refine oA ?_)
  refine hK2 _ ?_
  refine AWP_ret ?_
  simp only[hres,go_sem]
  first|exact oF|exact oFr
def T_l01Sample:Tab:=fun f=>if f=45 then some (.p K_l01Sample) else T_isSample f
theorem T_l01Sample_ok:TabOk Try.prog T_l01Sample:=tabP l01Sample_ok (fnOk_of Try.func45 rfl (by decide)) T_isSample_ok
attribute [go_sem] T_l01Sample K_l01Sample
def K_areSamples:Con:=⟨[.val ((.row 2 (.int .i64)))],[⟨.bool,true⟩],fun _=>True,fun x=>smps x.1⟩
theorem areSamples_ok:PureT Try.prog 76 K_areSamples:=by
  refine pure_of_body Try.func76 rfl ?_
  have hres:Try.f76.results.toList=[.tmp 2]:=rfl
  rintro⟨(xs:List Int),_⟩ hc hL
  simp only[K_areSamples,go_sem] at hL
  simp only[K_areSamples,St.init,St.initG,Try.ntmps76,go_sem] 
  refine oS fun _ hK1=>?_
  refine oW T_l01Sample_ok ?_
  simp only[go_sem]
  refine hK1 _ ?_
  refine oS fun _ hK2=>?_
  refine oS fun _ hK3=>?_
  refine oW T_l01Sample_ok ?_
  simp only[go_sem]
  refine hK3 _ ?_
  refine AWP_block ?_
  refine AWP_loop_k (ι:={ k:Nat // k≤xs.length∧(xs.take k).all smp=true }) (fun k=>⟨[zz,zz,zz,zz,zz,.c (.rd [] 2 (.int .i64) (xs)),.c (.sc (.int .i64 (xs.length))),.c (.sc (.int .i64 (k.1))),zz,zz,zz,zz,zz,zz,zz],[]⟩) (fun k=>xs.length - k.1) ⟨0,by simp⟩ ?_ ?_
  ·
   refine oK ?_
   simp (maxSteps:=2000000)only[go_sem]
   all_goals(first|rfl|((repeat' refine And.intro ?_ ?_)<;>first|rfl|simp))
  rintro⟨k,hk,hp⟩ K4 hL4
  refine oS fun _ hK5=>?_
  refine oW T_l01Sample_ok ?_
  simp only[go_sem]
  refine hK5 _ ?_
  refine oS fun _ hK6=>?_
  refine oC rfl ?_ ?_
  ·
   intro c0
   refine AWP_skip ?_
   simp only[go_sem]
   refine hK6 _ ?_
   refine oS fun _ hK7=>?_
   refine AWP_block ?_
   refine oS fun _ hK8=>?_
   refine oW T_l01Sample_ok ?_
   simp only[go_sem]
   repeat(with_reducible refine oA ?_)
   refine hK8 _ ?_
   refine oS fun _ hK9=>?_
   refine oW T_l01Sample_ok ?_
   simp only[go_sem]
   repeat(with_reducible refine oA ?_)
   refine hK9 _ ?_
   refine oC rfl ?_ ?_
   ·
    intro c1
    refine oS fun _ hK10=>?_
    refine oW T_l01Sample_ok ?_
    simp only[go_sem]
    refine hK10 _ ?_
    refine AWP_ret ?_
    simp only[hres,go_sem]
    first|exact oF|(refine⟨?_,oF⟩;exact(all_stop (k:=k) (d:=0) (by omega) (by first|assumption|(clear hp;clear hK1 hK2 hK3 hL4 hK5 hK6 hK7 hK8 hK9 hK10;simp_all))).symm)
   intro c1
   refine AWP_skip ?_
   simp only[go_sem]
   refine hK7 _ ?_
   refine oW T_l01Sample_ok ?_
   simp only[go_sem]
   refine hL4 ⟨k+1,by omega,all_next (d:=0) (by omega) hp (by first|assumption|(clear hK1 hK2 hK3 hL4 hK5 hK6 hK7 hK8 hK9;simp_all))⟩ _ (oK ?_) ?_
   ·
    simp (maxSteps:=2000000)only[go_sem]
    first|rfl|exact wk (by omega)
   ·
    first|(simp only[];omega)|omega|(simp;omega)
  intro c0
  refine AWP_exit ?_
  simp only[go_sem]
  refine hK2 _ ?_
  refine oS fun _ hK11=>?_
  refine oW T_l01Sample_ok ?_
  simp only[go_sem]
  refine hK11 _ ?_
  refine AWP_ret ?_
  simp only[hres,go_sem]
  first|exact oF|(refine⟨?_,oF⟩;exact(all_done hp (by omega)).symm)
def T_areSamples:Tab:=fun f=>if f=76 then some (.p K_areSamples) else T_l01Sample f
theorem T_areSamples_ok:TabOk Try.prog T_areSamples:=tabP areSamples_ok (fnOk_of Try.func76 rfl (by decide)) T_l01Sample_ok
attribute [go_sem] T_areSamples K_areSamples
def K_sizeI:Con:=⟨[.val ((.row 2 (.int .i64)))],[⟨.int .i64,true⟩],fun _=>True,fun x=>(x.1.length:Int)⟩
theorem sizeI_ok:PureT Try.prog 61 K_sizeI:=by
  refine pure_of_body Try.func61 rfl ?_
  have hres:Try.f61.results.toList=[.tmp 2]:=rfl
  rintro⟨xs,_⟩ hc hL
  simp only[K_sizeI,go_sem] at hL
  simp only[K_sizeI,St.init,St.initG,Try.ntmps61,go_sem] 
  refine oS fun _ hK1=>?_
  refine oW T_areSamples_ok ?_
  simp only[go_sem]
  refine hK1 _ ?_
  refine oS fun _ hK2=>?_
  refine oW T_areSamples_ok ?_
  simp only[go_sem]
  refine hK2 _ ?_
  refine AWP_ret ?_
  simp only[hres,go_sem]
  first|exact oF|exact oFr
def T_sizeI:Tab:=fun f=>if f=61 then some (.p K_sizeI) else T_areSamples f
theorem T_sizeI_ok:TabOk Try.prog T_sizeI:=tabP sizeI_ok (fnOk_of Try.func61 rfl (by decide)) T_areSamples_ok
attribute [go_sem] T_sizeI K_sizeI
def K_sizeL:Con:=⟨[.val ((.row 24 (.row 2 (.int .i64))))],[⟨.int .i64,true⟩],fun _=>True,fun x=>(x.1.length:Int)⟩
theorem sizeL_ok:PureT Try.prog 26 K_sizeL:=by
  refine pure_of_body Try.func26 rfl ?_
  have hres:Try.f26.results.toList=[.tmp 2]:=rfl
  rintro⟨xs,_⟩ hc hL
  simp only[K_sizeL,go_sem] at hL
  simp only[K_sizeL,St.init,St.initG,Try.ntmps26,go_sem] 
  refine oS fun _ hK1=>?_
  refine oW T_sizeI_ok ?_
  simp only[go_sem]
  refine hK1 _ ?_
  refine oS fun _ hK2=>?_
  refine oW T_sizeI_ok ?_
  simp only[go_sem]
  refine hK2 _ ?_
  refine AWP_ret ?_
  simp only[hres,go_sem]
  first|exact oF|exact oFr
def T_sizeL:Tab:=fun f=>if f=26 then some (.p K_sizeL) else T_sizeI f
theorem T_sizeL_ok:TabOk Try.prog T_sizeL:=tabP sizeL_ok (fnOk_of Try.func26 rfl (by decide)) T_sizeI_ok
attribute [go_sem] T_sizeL K_sizeL
def K_isKind:Con:=⟨[.val (.int .i64)],[⟨.bool,true⟩],fun _=>True,fun x=>inR x.1 1 17⟩
theorem isKind_ok:PureT Try.prog 86 K_isKind:=by
  refine pure_of_body Try.func86 rfl ?_
  have hres:Try.f86.results.toList=[.tmp 2]:=rfl
  rintro⟨(x:Int),_⟩ hc hL
  simp only[K_isKind,go_sem] at hL
  simp only[K_isKind,St.init,St.initG,Try.ntmps86,go_sem] 
  refine oS fun _ hK1=>?_
  refine oW T_sizeL_ok ?_
  simp only[go_sem]
  refine hK1 _ ?_
  refine oS fun _ hK2=>?_
  refine oW T_sizeL_ok ?_
  simp only[go_sem]
  repeat(with_reducible refine oA ?_)
  refine hK2 _ ?_
  refine AWP_ret ?_
  simp only[hres,go_sem]
  first|exact oF|exact oFr
def T_isKind:Tab:=fun f=>if f=86 then some (.p K_isKind) else T_sizeL f
theorem T_isKind_ok:TabOk Try.prog T_isKind:=tabP isKind_ok (fnOk_of Try.func86 rfl (by decide)) T_sizeL_ok
attribute [go_sem] T_isKind K_isKind
def K_hasA:Con:=⟨[.val ((.prod (.str) (.prod (.int .i64) (.prod (.int .i64) (.prod (.int .i64) (.prod (.bool) (.bool)))))))],[⟨.bool,true⟩],fun _=>True,fun x=>decide (x.1.2.2.1≤x.1.2.2.2.1)⟩
theorem hasA_ok:PureT Try.prog 88 K_hasA:=by
  refine pure_of_body Try.func88 rfl ?_
  have hres:Try.f88.results.toList=[.tmp 2]:=rfl
  rintro⟨⟨nm,(inp:Int),(lo:Int),(hi:Int),(lin:Bool),(hb:Bool)⟩,_⟩ hc hL
  simp only[K_hasA,go_sem] at hL
  simp only[K_hasA,St.init,St.initG,Try.ntmps88,go_sem] 
  refine oS fun _ hK1=>?_
  refine oW T_isKind_ok ?_
  simp only[go_sem]
  refine hK1 _ ?_
  refine oS fun _ hK2=>?_
  refine oW T_isKind_ok ?_
  simp (maxSteps:=2000000)only[go_sem]
  repeat(with_reducible refine oA ?_)
  refine hK2 _ ?_
  refine AWP_ret ?_
  simp only[hres,go_sem]
  first|exact oF|exact oFr
def T_hasA:Tab:=fun f=>if f=88 then some (.p K_hasA) else T_isKind f
theorem T_hasA_ok:TabOk Try.prog T_hasA:=tabP hasA_ok (fnOk_of Try.func88 rfl (by decide)) T_isKind_ok
attribute [go_sem] T_hasA K_hasA
def K_kinds:Con:=⟨[],[⟨(.row 100 (.prod (.str) (.prod (.int .i64) (.prod (.int .i64) (.prod (.int .i64) (.prod (.bool) (.bool))))))),true⟩],fun _=>True,fun _=>kindsL⟩
theorem kinds_ok:PureT Try.prog 87 K_kinds:=by
  refine pure_of_body Try.func87 rfl ?_
  have hres:Try.f87.results.toList=[.tmp 0]:=rfl
  rintro _ hc hL
  simp only[K_kinds,go_sem] at hL
  simp only[K_kinds,St.init,St.initG,Try.ntmps87,go_sem] 
  refine oS fun _ hK1=>?_
  refine oW T_hasA_ok ?_
  simp only[go_sem]
  refine hK1 _ ?_
  refine oS fun _ hK2=>?_
  refine oW T_hasA_ok ?_
  simp (maxSteps:=2000000)only[go_sem]
  repeat(with_reducible refine oA ?_)
  refine hK2 _ ?_
  refine AWP_ret ?_
  simp only[hres,go_sem]
  first|exact oF|exact oFr
def T_kinds:Tab:=fun f=>if f=87 then some (.p K_kinds) else T_hasA f
theorem T_kinds_ok:TabOk Try.prog T_kinds:=tabP kinds_ok (fnOk_of Try.func87 rfl (by decide)) T_hasA_ok
attribute [go_sem] T_kinds K_kinds
end Go.Proofs.Ytenjbehedcegdaa
