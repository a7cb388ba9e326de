/-
  Texts of this claim, joined (part 29). No condition beyond those of the theorems.
-/
import Derived.Test.YtflaacndokbddaaGreatVd08
import Derived.Test.YtflaacndokbddaaGreatVd07
import Derived.Test.YtflaacndokbddaaGreatVd12
import Derived.Test.YtflaacndokbddaaGreatVd06
import Derived.Test.YtflaacndokbddaaGreatVd28
import Derived.Test.YtflaacndokbddaaGreatVd21
namespace Go.Proofs.YtflaacndokbddaaGreat
open Go.RowKit
set_option linter.unusedSimpArgs false
set_option linter.unusedVariables false
set_option maxRecDepth 100000
set_option maxHeartbeats 1000000
def T_mHb100:Tab:=fun f=>match T_l07Map f with
 | some k=>some k
 | none=>T_kinds f
theorem T_mHb100_ok:TabOk Tryz.prog T_mHb100:=tabM T_l07Map_ok T_kinds_ok
attribute [go_sem] T_mHb100 T0
def T_mHb101:Tab:=fun f=>match T_mHb100 f with
 | some k=>some k
 | none=>T_l06A f
theorem T_mHb101_ok:TabOk Tryz.prog T_mHb101:=tabM T_mHb100_ok T_l06A_ok
attribute [go_sem] T_mHb101 T0
def K_l03At:Con:=⟨[.val ((.row 2 (.int .i64))),.val (.int .i64)],[⟨.int .i64,true⟩],fun x=>inR x.2.1 0 9223372036854775807=true,fun x=>x.1.getD (Int.toNat x.2.1) 0⟩
theorem l03At_ok:PureT Tryz.prog 184 K_l03At:=by
  refine pure_of_body Tryz.func184 rfl ?_
  have hres:Tryz.f184.results.toList=[.tmp 4]:=rfl
  rintro ⟨(xs:List Int),(x:Int),_⟩ hc hL
  simp only[K_l03At,go_sem] at hL
  obtain lxs:=hL
  simp only[K_l03At,St.init,St.initG,Tryz.ntmps184,go_sem] 
  have hx:0≤x:=(inR_iff.1 (show inR x _ _=true from hc)).1
  have hw:IntKind.i64.wrap ((xs.length:Int) - 1)=xs.length - 1:=wrapI (by omega)
  refine oS fun _ hK1=>?_
  refine oW T_mHb101_ok ?_
  simp only[go_sem]
  refine hK1 _ ?_
  refine oS fun _ hK2=>?_
  refine oS fun _ hK3=>?_
  refine oW T_mHb101_ok ?_
  simp (maxSteps:=2000000)only[hw,go_sem]
  repeat (with_reducible refine oA ?_)
  refine hK3 _ ?_
  refine oC rfl ?_ ?_
  ·
   intro c0
   have hq:xs.length≤x.toNat:=by have:=inR_iff_f.1 c0; omega
   refine oS fun _ hK4=>?_
   refine oW T_mHb101_ok ?_
   simp only[go_sem]
   refine hK4 _ ?_
   refine AWP_ret ?_
   simp only[hres,go_sem]
   first | exact oF | (refine ⟨?_,oF⟩; exact (getD_out hq).symm)
  intro c0
  obtain ⟨hq1,hq2⟩:=inR_iff.1 c0
  refine AWP_skip ?_
  simp only[go_sem]
  refine hK2 _ ?_
  refine oS fun _ hK5=>?_
  refine oW T_mHb101_ok ?_
  simp (maxSteps:=2000000)only[go_sem]
  repeat (with_reducible refine oA ?_)
  refine hK5 _ ?_
  refine AWP_ret ?_
  simp only[hres,go_sem]
  first | exact oF | exact oFr
def T_l03At:Tab:=fun f=>if f=184 then some (.p K_l03At) else T_mHb101 f
theorem T_l03At_ok:TabOk Tryz.prog T_l03At:=tabP l03At_ok (fnOk_of Tryz.func184 rfl (by decide)) T_mHb101_ok
attribute [go_sem] T_l03At K_l03At
def K_l08Signals:Con:=⟨[.ptr (.prod (.int .i64) (.prod (.row 26 (.row 2 (.int .i64))) (.prod (.row 90 (.prod (.int .i64) (.prod (.int .i64) (.prod (.int .i64) (.row 2 (.int .i64)))))) (.row 2 (.int .i64))))),.val ((.row 26 (.row 2 (.int .i64))))],[⟨.bool,true⟩],fun _=>True,fun x=>sigB x.1 x.2.1⟩
theorem l08Signals_ok:PureT Tryz.prog 63 K_l08Signals:=by
  refine pure_of_body Tryz.func63 rfl ?_
  have hres:Tryz.f63.results.toList=[.tmp 4]:=rfl
  rintro ⟨⟨(pi:Int),(ts:List (List Int)),(ns:List NodeD),(os:List Int)⟩,(ins:List (List Int)),_⟩ hc hL
  simp only[K_l08Signals,go_sem] at hL
  simp only[K_l08Signals,St.init,St.initG,Tryz.ntmps63,go_sem] 
  refine oS fun _ hK1=>?_
  refine oW T_l03At_ok ?_
  simp only[go_sem]
  refine hK1 _ ?_
  refine oS fun _ hK2=>?_
  refine oS fun _ hK3=>?_
  refine oW T_l03At_ok ?_
  simp only[go_sem]
  refine hK3 _ ?_
  refine AWP_block ?_
  refine AWP_loop_k (ι:={ k:Nat // k≤ins.length∧(ins.take k).all l03B=true }) (fun k=>⟨[.c (.pt [] ((.prod (.int .i64) (.prod (.row 26 (.row 2 (.int .i64))) (.prod (.row 90 (.prod (.int .i64) (.prod (.int .i64) (.prod (.int .i64) (.row 2 (.int .i64)))))) (.row 2 (.int .i64)))))) (pi,ts,ns,os) 0),.c (.rd [] 26 (.row 2 (.int .i64)) (ins)),zz,zz,zz,.c (.sc (.int .i64 (k.1))),zz,zz,zz,zz,zz,zz,zz,zz,zz,zz,zz,zz,zz,zz,zz,zz,zz,zz,zz],[]⟩) (fun k=>ins.length - k.1) ⟨0,by simp⟩ ?_ ?_
  ·
   refine oK ?_
   simp (maxSteps:=2000000)only[go_sem]
   all_goals (first | rfl | ((repeat' refine And.intro ?_ ?_)<;>first | rfl | simp))
  rintro ⟨k,hk,hp⟩ K4 hL4
  refine oS fun _ hK5=>?_
  refine oS fun _ hK6=>?_
  refine oW T_l03At_ok ?_
  simp only[go_sem]
  refine hK6 _ ?_
  refine oC rfl ?_ ?_
  ·
   intro c0
   refine AWP_skip ?_
   simp only[go_sem]
   refine hK5 _ ?_
   refine oS fun _ hK7=>?_
   refine AWP_block ?_
   refine oS fun _ hK8=>?_
   refine oW T_l03At_ok ?_
   simp (maxSteps:=2000000)only[go_sem]
   repeat (with_reducible refine oA ?_)
   refine hK8 _ ?_
   refine oC rfl ?_ ?_
   ·
    intro c1
    refine oS fun _ hK9=>?_
    refine oW T_l03At_ok ?_
    simp only[go_sem]
    refine hK9 _ ?_
    refine AWP_ret ?_
    simp only[hres,go_sem]
    first
     | exact oF
     | refine ⟨?_,oF⟩
       have hal:ins.all l03B=false:=all_stop (k:=k) (d:=[]) (by omega) (by first | assumption | (clear hK1 hK2 hK3 hL4 hK5 hK6 hK7 hK8 hK9; simp_all))
       unfold sigB; rw [hal,Bool.and_false]
   intro c1
   refine AWP_skip ?_
   simp only[go_sem]
   refine hK7 _ ?_
   refine oW T_l03At_ok ?_
   simp only[go_sem]
   refine hL4 ⟨k+1,by omega,all_next (d:=[]) (by omega) hp (by first | assumption | (clear hK1 hK2 hK3 hL4 hK5 hK6 hK7 hK8; simp_all))⟩ _ (oK ?_) ?_
   ·
    simp (maxSteps:=2000000)only[go_sem]
    first | rfl | exact wk (by omega)
   ·
    first | (simp only[]; omega) | omega | (simp; omega)
  intro c0
  refine AWP_exit ?_
  simp only[go_sem]
  refine hK2 _ ?_
  refine oS fun _ hK10=>?_
  refine oW T_l03At_ok ?_
  simp (maxSteps:=2000000)only[go_sem]
  repeat (with_reducible refine oA ?_)
  refine hK10 _ ?_
  refine AWP_ret ?_
  simp only[hres,go_sem]
  first
   | exact oF
   | refine ⟨?_,oF⟩
     have hal:ins.all l03B=true:=all_done hp (by omega)
     unfold sigB; rw [hal,Bool.and_true]
def T_l08Signals:Tab:=fun f=>if f=63 then some (.p K_l08Signals) else T_l03At f
theorem T_l08Signals_ok:TabOk Tryz.prog T_l08Signals:=tabP l08Signals_ok (fnOk_of Tryz.func63 rfl (by decide)) T_l03At_ok
attribute [go_sem] T_l08Signals K_l08Signals
set_option maxRecDepth 100000
set_option maxHeartbeats 4000000
def T_mHn30:Tab:=fun f=>match T_l08Signals f with
 | some k=>some k
 | none=>T_flat f
theorem T_mHn30_ok:TabOk Tryz.prog T_mHn30:=tabM T_l08Signals_ok T_flat_ok
attribute [go_sem] T_mHn30 T0
def K_implDot:Con:=⟨[.val ((.row 2 (.int .i64))),.val ((.row 2 (.int .i64)))],[⟨.int .i64,true⟩],fun x=>x.1.length≤x.2.1.length∧x.1.length≤1000000,fun x=>dotN x.1 x.2.1 x.1.length⟩
theorem implDot_ok:PureT Tryz.prog 151 K_implDot:=by
  refine pure_of_body Tryz.func151 rfl ?_
  have hres:Tryz.f151.results.toList=[.tmp 4]:=rfl
  rintro ⟨(xs:List Int),(ys:List Int),_⟩ hc hL
  simp only[K_implDot,go_sem] at hL
  simp only[K_implDot,St.init,St.initG,Tryz.ntmps151,go_sem] 
  obtain ⟨hx,hy⟩:=(show xs.length≤ys.length∧xs.length≤1000000 from hc)
  refine oS fun _ hK1=>?_
  refine oW T_mHn30_ok ?_
  simp only[go_sem]
  refine hK1 _ ?_
  refine oS fun _ hK2=>?_
  refine oW T_mHn30_ok ?_
  simp only[go_sem]
  refine hK2 _ ?_
  refine oS fun _ hK3=>?_
  refine oS fun _ hK4=>?_
  refine oW T_mHn30_ok ?_
  simp only[go_sem]
  refine hK4 _ ?_
  refine AWP_block ?_
  refine AWP_loop_k (ι:={ k:Nat // k≤xs.length }) (fun k=>⟨[zz,.c (.rd [] 2 (.int .i64) (ys)),zz,zz,zz,.c (.sc (.int .i64 (dotN xs ys k.1))),zz,zz,.c (.rd [] 2 (.int .i64) (xs)),.c (.sc (.int .i64 (xs.length))),.c (.sc (.int .i64 (k.1))),zz,zz,zz,zz,zz,zz,zz,zz,zz,zz,zz,zz,zz,zz,zz],[]⟩) (fun k=>xs.length - k.1) ⟨0,by simp⟩ ?_ ?_
  ·
   refine oK ?_
   simp (maxSteps:=2000000)only[go_sem]
   all_goals (first | rfl | ((repeat' refine And.intro ?_ ?_)<;>first | rfl | simp))
  rintro ⟨k,hk⟩ K5 hL5
  refine oS fun _ hK6=>?_
  refine oW T_mHn30_ok ?_
  simp only[go_sem]
  refine hK6 _ ?_
  refine oS fun _ hK7=>?_
  refine oC rfl ?_ ?_
  ·
   intro c0
   refine AWP_skip ?_
   simp only[go_sem]
   refine hK7 _ ?_
   refine oS fun _ hK8=>?_
   refine AWP_block ?_
   refine oS fun _ hK9=>?_
   refine oW T_mHn30_ok ?_
   simp (maxSteps:=2000000)only[go_sem]
   repeat (with_reducible refine oA ?_)
   refine hK9 _ ?_
   refine oW T_mHn30_ok ?_
   simp (maxSteps:=2000000)only[w32_add2,go_sem]
   repeat (with_reducible refine oA ?_)
   refine hK8 _ ?_
   refine oW T_mHn30_ok ?_
   simp only[go_sem]
   refine hL5 ⟨k+1,by omega⟩ _ (oK ?_) ?_
   ·
    simp (maxSteps:=2000000)only[go_sem]
    all_goals ((repeat' refine And.intro ?_ ?_)<;>first | rfl | exact wk (by omega) | (congr 1; done))
   ·
    first | (simp only[]; omega) | omega | (simp; omega)
  intro c0
  refine AWP_exit ?_
  simp only[go_sem]
  refine hK3 _ ?_
  refine oS fun _ hK10=>?_
  refine oW T_mHn30_ok ?_
  simp only[go_sem]
  refine hK10 _ ?_
  refine AWP_ret ?_
  simp only[hres,go_sem]
  first | exact oF | (refine ⟨?_,oF⟩; rw [show xs.length=k by omega])
def T_implDot:Tab:=fun f=>if f=151 then some (.p K_implDot) else T_mHn30 f
theorem T_implDot_ok:TabOk Tryz.prog T_implDot:=tabP implDot_ok (fnOk_of Tryz.func151 rfl (by decide)) T_mHn30_ok
attribute [go_sem] T_implDot K_implDot
def T_convolve:Tab:=T_implDot
theorem T_convolve_ok:TabOk Tryz.prog T_convolve:=T_implDot_ok
attribute [go_sem] T_convolve
end Go.Proofs.YtflaacndokbddaaGreat
