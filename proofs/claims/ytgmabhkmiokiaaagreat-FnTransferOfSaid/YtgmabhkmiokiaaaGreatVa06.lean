/-
  Texts of this claim, joined (part 6). No condition beyond those of the theorems.
-/
import Derived.Test.YtgmabhkmiokiaaaGreatVa04
namespace Go.Proofs.YtgmabhkmiokiaaaGreat
open Go.RowKit
set_option linter.unusedSimpArgs false
set_option linter.unusedVariables false
set_option maxRecDepth 100000
set_option maxHeartbeats 1000000
def K_within:Con:=⟨[.val (.int .i64),.val (.int .i64),.val (.int .i64)],[⟨.bool,true⟩],fun _=>True,fun x=>inR x.1 x.2.1 x.2.2.1⟩
theorem within_ok:PureT Tryz.prog 16 K_within:=by
  refine pure_of_body Tryz.func16 rfl ?_
  have hres:Tryz.f16.results.toList=[.tmp 6]:=rfl
  rintro ⟨(x:Int),(lo:Int),(hi:Int),_⟩ hc hL
  simp only[K_within,go_sem] at hL
  simp only[K_within,St.init,St.initG,Tryz.ntmps16,go_sem] 
  refine oS fun _ hK1=>?_;refine oW T0_ok ?_;simp only[go_sem];refine hK1 _ ?_;refine oS fun _ hK2=>?_;refine oW T0_ok ?_;simp (maxSteps:=2000000)only[go_sem];repeat' (with_reducible first | refine oA ?_ | refine oT (fun g1=>?_) (fun g1=>?_) | refine oE (fun g1=>?_) (fun g1=>?_))
  all_goals
   refine hK2 _ ?_;refine AWP_ret ?_;simp only[hres,go_sem];first | exact oF | (refine ⟨?_,oF⟩; first | rw [inR,decide_eq_true (show lo≤x from g1),Bool.true_and] | rw [inR,decide_eq_false (show ¬ lo≤x from g1),Bool.false_and])
def T_within:Tab:=fun f=>if f=16 then some (.p K_within) else T0 f
theorem T_within_ok:TabOk Tryz.prog T_within:=tabP within_ok (fnOk_of Tryz.func16 rfl (by decide)) T0_ok
attribute [go_sem] T_within K_within
def K_l00In:Con:=⟨[.val (.int .i64),.val (.int .i64),.val (.int .i64)],[⟨.bool,true⟩],fun _=>True,fun x=>inR x.1 x.2.1 x.2.2.1⟩
theorem l00In_ok:PureT Tryz.prog 20 K_l00In:=by
  refine pure_of_body Tryz.func20 rfl ?_
  have hres:Tryz.f20.results.toList=[.tmp 6]:=rfl
  rintro ⟨(x:Int),(lo:Int),(hi:Int),_⟩ hc hL
  simp only[K_l00In,go_sem] at hL
  simp only[K_l00In,St.init,St.initG,Tryz.ntmps20,go_sem] 
  refine oS fun _ hK1=>?_;refine oW T_within_ok ?_;simp only[go_sem];refine hK1 _ ?_;refine oS fun _ hK2=>?_;refine oW T_within_ok ?_;simp (maxSteps:=2000000)only[go_sem];repeat' (with_reducible first | refine oA ?_ | refine oT (fun g1=>?_) (fun g1=>?_) | refine oE (fun g1=>?_) (fun g1=>?_))
  all_goals
   refine hK2 _ ?_;refine AWP_ret ?_;simp only[hres,go_sem];first | exact oF | (refine ⟨?_,oF⟩; first | rw [inR,decide_eq_true (show lo≤x from g1),Bool.true_and] | rw [inR,decide_eq_false (show ¬ lo≤x from g1),Bool.false_and])
def T_l00In:Tab:=fun f=>if f=20 then some (.p K_l00In) else T_within f
theorem T_l00In_ok:TabOk Tryz.prog T_l00In:=tabP l00In_ok (fnOk_of Tryz.func20 rfl (by decide)) T_within_ok
attribute [go_sem] T_l00In K_l00In
def K_isSample:Con:=⟨[.val (.int .i64)],[⟨.bool,true⟩],fun _=>True,fun x=>smp x.1⟩
theorem isSample_ok:PureT Tryz.prog 144 K_isSample:=by
  refine pure_of_body Tryz.func144 rfl ?_
  have hres:Tryz.f144.results.toList=[.tmp 2]:=rfl
  rintro ⟨(x:Int),_⟩ hc hL
  simp only[K_isSample,go_sem] at hL
  simp only[K_isSample,St.init,St.initG,Tryz.ntmps144,go_sem] 
  refine oS fun _ hK1=>?_;refine oW T_l00In_ok ?_;simp only[go_sem];refine hK1 _ ?_;refine oS fun _ hK2=>?_;refine oW T_l00In_ok ?_;simp only[go_sem];repeat (with_reducible refine oA ?_)
  refine hK2 _ ?_;refine AWP_ret ?_;simp only[hres,go_sem];first | exact oF | exact oFr
def T_isSample:Tab:=fun f=>if f=144 then some (.p K_isSample) else T_l00In f
theorem T_isSample_ok:TabOk Tryz.prog T_isSample:=tabP isSample_ok (fnOk_of Tryz.func144 rfl (by decide)) T_l00In_ok
attribute [go_sem] T_isSample K_isSample
def K_l01Sample:Con:=⟨[.val (.int .i64)],[⟨.bool,true⟩],fun _=>True,fun x=>smp x.1⟩
theorem l01Sample_ok:PureT Tryz.prog 138 K_l01Sample:=by
  refine pure_of_body Tryz.func138 rfl ?_
  have hres:Tryz.f138.results.toList=[.tmp 2]:=rfl
  rintro ⟨(x:Int),_⟩ hc hL
  simp only[K_l01Sample,go_sem] at hL
  simp only[K_l01Sample,St.init,St.initG,Tryz.ntmps138,go_sem] 
  refine oS fun _ hK1=>?_;refine oW T_isSample_ok ?_;simp only[go_sem];refine hK1 _ ?_;refine oS fun _ hK2=>?_;refine oW T_isSample_ok ?_;simp only[go_sem];repeat (with_reducible refine oA ?_)
  refine hK2 _ ?_;refine AWP_ret ?_;simp only[hres,go_sem];first | exact oF | exact oFr
def T_l01Sample:Tab:=fun f=>if f=138 then some (.p K_l01Sample) else T_isSample f
theorem T_l01Sample_ok:TabOk Tryz.prog T_l01Sample:=tabP l01Sample_ok (fnOk_of Tryz.func138 rfl (by decide)) T_isSample_ok
attribute [go_sem] T_l01Sample K_l01Sample
def K_areSamples:Con:=⟨[.val ((.row 2 (.int .i64)))],[⟨.bool,true⟩],fun _=>True,fun x=>smps x.1⟩
theorem areSamples_ok:PureT Tryz.prog 131 K_areSamples:=by
  refine pure_of_body Tryz.func131 rfl ?_
  have hres:Tryz.f131.results.toList=[.tmp 2]:=rfl
  rintro ⟨(xs:List Int),_⟩ hc hL
  simp only[K_areSamples,go_sem] at hL
  simp only[K_areSamples,St.init,St.initG,Tryz.ntmps131,go_sem] 
  refine oS fun _ hK1=>?_;refine oW T_l01Sample_ok ?_;simp only[go_sem];refine hK1 _ ?_;refine oS fun _ hK2=>?_;refine oS fun _ hK3=>?_;refine oW T_l01Sample_ok ?_;simp only[go_sem];refine hK3 _ ?_;refine AWP_block ?_;refine AWP_loop_k (ι:={ k:Nat // k≤xs.length∧(xs.take k).all smp=true }) (fun k=>⟨[zz,zz,zz,zz,zz,.c (.rd [] 2 (.int .i64) (xs)),.c (.sc (.int .i64 (xs.length))),.c (.sc (.int .i64 (k.1))),zz,zz,zz,zz,zz,zz,zz],[]⟩) (fun k=>xs.length - k.1) ⟨0,by simp⟩ ?_ ?_
  ·
   refine oK ?_;simp (maxSteps:=2000000)only[go_sem];all_goals (first | rfl | ((repeat' refine And.intro ?_ ?_)<;>first | rfl | simp))
  rintro ⟨k,hk,hp⟩ K4 hL4
  refine oS fun _ hK5=>?_;refine oW T_l01Sample_ok ?_;simp only[go_sem];refine hK5 _ ?_;refine oS fun _ hK6=>?_;refine oC rfl ?_ ?_
  ·
   intro c0;refine AWP_skip ?_;simp only[go_sem];refine hK6 _ ?_;refine oS fun _ hK7=>?_;refine AWP_block ?_;refine oS fun _ hK8=>?_;refine oW T_l01Sample_ok ?_;simp only[go_sem];repeat (with_reducible refine oA ?_)
   refine hK8 _ ?_;refine oS fun _ hK9=>?_;refine oW T_l01Sample_ok ?_;simp only[go_sem];repeat (with_reducible refine oA ?_)
   refine hK9 _ ?_;refine oC rfl ?_ ?_
   ·
    intro c1;refine oS fun _ hK10=>?_;refine oW T_l01Sample_ok ?_;simp only[go_sem];refine hK10 _ ?_;refine AWP_ret ?_;simp only[hres,go_sem];first | exact oF | (refine ⟨?_,oF⟩; exact (all_stop (k:=k) (d:=0) (by omega) (by first | assumption | (clear hp; clear hK1 hK2 hK3 hL4 hK5 hK6 hK7 hK8 hK9 hK10; simp_all))).symm)
   intro c1;refine AWP_skip ?_;simp only[go_sem];refine hK7 _ ?_;refine oW T_l01Sample_ok ?_;simp only[go_sem];refine hL4 ⟨k+1,by omega,all_next (d:=0) (by omega) hp (by first | assumption | (clear hK1 hK2 hK3 hL4 hK5 hK6 hK7 hK8 hK9; simp_all))⟩ _ (oK ?_) ?_
   ·
    simp (maxSteps:=2000000)only[go_sem];first | rfl | exact wk (by omega)
   ·
    first | (simp only[]; omega) | omega | (simp; omega)
  intro c0;refine AWP_exit ?_;simp only[go_sem];refine hK2 _ ?_;refine oS fun _ hK11=>?_;refine oW T_l01Sample_ok ?_;simp only[go_sem];refine hK11 _ ?_;refine AWP_ret ?_;simp only[hres,go_sem];first | exact oF | (refine ⟨?_,oF⟩; exact (all_done hp (by omega)).symm)
def T_areSamples:Tab:=fun f=>if f=131 then some (.p K_areSamples) else T_l01Sample f
theorem T_areSamples_ok:TabOk Tryz.prog T_areSamples:=tabP areSamples_ok (fnOk_of Tryz.func131 rfl (by decide)) T_l01Sample_ok
attribute [go_sem] T_areSamples K_areSamples
def K_sizeI:Con:=⟨[.val ((.row 2 (.int .i64)))],[⟨.int .i64,true⟩],fun _=>True,fun x=>(x.1.length:Int)⟩
theorem sizeI_ok:PureT Tryz.prog 17 K_sizeI:=by
  refine pure_of_body Tryz.func17 rfl ?_
  have hres:Tryz.f17.results.toList=[.tmp 2]:=rfl
  rintro ⟨xs,_⟩ hc hL
  simp only[K_sizeI,go_sem] at hL
  simp only[K_sizeI,St.init,St.initG,Tryz.ntmps17,go_sem] 
  refine oS fun _ hK1=>?_;refine oW T_areSamples_ok ?_;simp only[go_sem];refine hK1 _ ?_;refine oS fun _ hK2=>?_;refine oW T_areSamples_ok ?_;simp only[go_sem];refine hK2 _ ?_;refine AWP_ret ?_;simp only[hres,go_sem];first | exact oF | exact oFr
def T_sizeI:Tab:=fun f=>if f=17 then some (.p K_sizeI) else T_areSamples f
theorem T_sizeI_ok:TabOk Tryz.prog T_sizeI:=tabP sizeI_ok (fnOk_of Tryz.func17 rfl (by decide)) T_areSamples_ok
attribute [go_sem] T_sizeI K_sizeI
def K_sizeN:Con:=⟨[.val ((.row 93 (.prod (.int .i64) (.prod (.int .i64) (.prod (.int .i64) (.row 2 (.int .i64)))))))],[⟨.int .i64,true⟩],fun _=>True,fun x=>(x.1.length:Int)⟩
theorem sizeN_ok:PureT Tryz.prog 110 K_sizeN:=by
  refine pure_of_body Tryz.func110 rfl ?_
  have hres:Tryz.f110.results.toList=[.tmp 2]:=rfl
  rintro ⟨xs,_⟩ hc hL
  simp only[K_sizeN,go_sem] at hL
  simp only[K_sizeN,St.init,St.initG,Tryz.ntmps110,go_sem] 
  refine oS fun _ hK1=>?_;refine oW T_sizeI_ok ?_;simp only[go_sem];refine hK1 _ ?_;refine oS fun _ hK2=>?_;refine oW T_sizeI_ok ?_;simp only[go_sem];refine hK2 _ ?_;refine AWP_ret ?_;simp only[hres,go_sem];first | exact oF | exact oFr
def T_sizeN:Tab:=fun f=>if f=110 then some (.p K_sizeN) else T_sizeI f
theorem T_sizeN_ok:TabOk Tryz.prog T_sizeN:=tabP sizeN_ok (fnOk_of Tryz.func110 rfl (by decide)) T_sizeI_ok
attribute [go_sem] T_sizeN K_sizeN
def K_sizeL:Con:=⟨[.val ((.row 26 (.row 2 (.int .i64))))],[⟨.int .i64,true⟩],fun _=>True,fun x=>(x.1.length:Int)⟩
theorem sizeL_ok:PureT Tryz.prog 114 K_sizeL:=by
  refine pure_of_body Tryz.func114 rfl ?_
  have hres:Tryz.f114.results.toList=[.tmp 2]:=rfl
  rintro ⟨xs,_⟩ hc hL
  simp only[K_sizeL,go_sem] at hL
  simp only[K_sizeL,St.init,St.initG,Tryz.ntmps114,go_sem] 
  refine oS fun _ hK1=>?_;refine oW T_sizeN_ok ?_;simp only[go_sem];refine hK1 _ ?_;refine oS fun _ hK2=>?_;refine oW T_sizeN_ok ?_;simp only[go_sem];refine hK2 _ ?_;refine AWP_ret ?_;simp only[hres,go_sem];first | exact oF | exact oFr
def T_sizeL:Tab:=fun f=>if f=114 then some (.p K_sizeL) else T_sizeN f
theorem T_sizeL_ok:TabOk Tryz.prog T_sizeL:=tabP sizeL_ok (fnOk_of Tryz.func114 rfl (by decide)) T_sizeN_ok
attribute [go_sem] T_sizeL K_sizeL
def K_isKind:Con:=⟨[.val (.int .i64)],[⟨.bool,true⟩],fun _=>True,fun x=>inR x.1 1 17⟩
theorem isKind_ok:PureT Tryz.prog 117 K_isKind:=by
  refine pure_of_body Tryz.func117 rfl ?_
  have hres:Tryz.f117.results.toList=[.tmp 2]:=rfl
  rintro ⟨(x:Int),_⟩ hc hL
  simp only[K_isKind,go_sem] at hL
  simp only[K_isKind,St.init,St.initG,Tryz.ntmps117,go_sem] 
  refine oS fun _ hK1=>?_;refine oW T_sizeL_ok ?_;simp only[go_sem];refine hK1 _ ?_;refine oS fun _ hK2=>?_;refine oW T_sizeL_ok ?_;simp only[go_sem];repeat (with_reducible refine oA ?_)
  refine hK2 _ ?_;refine AWP_ret ?_;simp only[hres,go_sem];first | exact oF | exact oFr
def T_isKind:Tab:=fun f=>if f=117 then some (.p K_isKind) else T_sizeL f
theorem T_isKind_ok:TabOk Tryz.prog T_isKind:=tabP isKind_ok (fnOk_of Tryz.func117 rfl (by decide)) T_sizeL_ok
attribute [go_sem] T_isKind K_isKind
def K_hasA:Con:=⟨[.val ((.prod (.str) (.prod (.int .i64) (.prod (.int .i64) (.prod (.int .i64) (.prod (.bool) (.bool)))))))],[⟨.bool,true⟩],fun _=>True,fun x=>decide (x.1.2.2.1≤x.1.2.2.2.1)⟩
theorem hasA_ok:PureT Tryz.prog 140 K_hasA:=by
  refine pure_of_body Tryz.func140 rfl ?_
  have hres:Tryz.f140.results.toList=[.tmp 2]:=rfl
  rintro ⟨⟨nm,(inp:Int),(lo:Int),(hi:Int),(lin:Bool),(hb:Bool)⟩,_⟩ hc hL
  simp only[K_hasA,go_sem] at hL
  simp only[K_hasA,St.init,St.initG,Tryz.ntmps140,go_sem] 
  refine oS fun _ hK1=>?_;refine oW T_isKind_ok ?_;simp only[go_sem];refine hK1 _ ?_;refine oS fun _ hK2=>?_;refine oW T_isKind_ok ?_;simp (maxSteps:=2000000)only[go_sem];repeat (with_reducible refine oA ?_)
  refine hK2 _ ?_;refine AWP_ret ?_;simp only[hres,go_sem];first | exact oF | exact oFr
def T_hasA:Tab:=fun f=>if f=140 then some (.p K_hasA) else T_isKind f
theorem T_hasA_ok:TabOk Tryz.prog T_hasA:=tabP hasA_ok (fnOk_of Tryz.func140 rfl (by decide)) T_isKind_ok
attribute [go_sem] T_hasA K_hasA
def K_kinds:Con:=⟨[],[⟨(.row 137 (.prod (.str) (.prod (.int .i64) (.prod (.int .i64) (.prod (.int .i64) (.prod (.bool) (.bool))))))),true⟩],fun _=>True,fun _=>kindsL⟩
theorem kinds_ok:PureT Tryz.prog 118 K_kinds:=by
  refine pure_of_body Tryz.func118 rfl ?_
  have hres:Tryz.f118.results.toList=[.tmp 0]:=rfl
  rintro _ hc hL
  simp only[K_kinds,go_sem] at hL
  simp only[K_kinds,St.init,St.initG,Tryz.ntmps118,go_sem] 
  refine oS fun _ hK1=>?_;refine oW T_hasA_ok ?_;simp only[go_sem];refine hK1 _ ?_;refine oS fun _ hK2=>?_;refine oW T_hasA_ok ?_;simp (maxSteps:=2000000)only[go_sem];repeat (with_reducible refine oA ?_)
  refine hK2 _ ?_;refine AWP_ret ?_;simp only[hres,go_sem];first | exact oF | exact oFr
def T_kinds:Tab:=fun f=>if f=118 then some (.p K_kinds) else T_hasA f
theorem T_kinds_ok:TabOk Tryz.prog T_kinds:=tabP kinds_ok (fnOk_of Tryz.func118 rfl (by decide)) T_hasA_ok
attribute [go_sem] T_kinds K_kinds
end Go.Proofs.YtgmabhkmiokiaaaGreat
