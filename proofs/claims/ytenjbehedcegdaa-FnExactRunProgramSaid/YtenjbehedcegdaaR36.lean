/-
  Texts of this claim, joined (part 36). No condition beyond those of the theorems.
-/
import Derived.Test.YtenjbehedcegdaaR23
import Derived.Test.YtenjbehedcegdaaR06
import Derived.Test.YtenjbehedcegdaaR26
import Derived.Test.YtenjbehedcegdaaR15
namespace Go.Proofs.Ytenjbehedcegdaa
open Go.RowKit
set_option linter.unusedSimpArgs false
set_option linter.unusedVariables false
set_option maxRecDepth 100000
set_option maxHeartbeats 1000000
def T_mHb100:Tab:=fun f=>match T_l07Map f with
 | some k=>some k
 | none=>T_kinds f
theorem T_mHb100_ok:TabOk Try.prog T_mHb100:=tabM T_l07Map_ok T_kinds_ok
attribute [go_sem] T_mHb100 T0
def T_mHb101:Tab:=fun f=>match T_mHb100 f with
 | some k=>some k
 | none=>T_l06A f
theorem T_mHb101_ok:TabOk Try.prog T_mHb101:=tabM T_mHb100_ok T_l06A_ok
attribute [go_sem] T_mHb101 T0
def K_implAt:Con:=⟨[.val ((.row 2 (.int .i64))),.val (.int .i64)],[⟨.int .i64,true⟩],fun x=>inR x.2.1 0 9223372036854775807=true,fun x=>x.1.getD (Int.toNat x.2.1) 0⟩
theorem implAt_ok:PureT Try.prog 32 K_implAt:=by
  refine pure_of_body Try.func32 rfl ?_
  have hres:Try.f32.results.toList=[.tmp 4]:=rfl
  rintro⟨(xs:List Int),(x:Int),_⟩ hc hL
  simp only[K_implAt,go_sem] at hL
  obtain lxs:=hL
  simp only[K_implAt,St.init,St.initG,Try.ntmps32,go_sem] 
  have hx:0≤x:=(inR_iff.1 (show inR x _ _=true from hc)).1
  refine oS fun _ hK1=>?_
  refine oW T_mHb101_ok ?_
  simp only[go_sem]
  refine hK1 _ ?_
  refine oS fun _ hK2=>?_
  refine oS fun _ hK3=>?_
  refine oW T_mHb101_ok ?_
  simp only[go_sem]
  repeat(with_reducible refine oA ?_)
  refine hK3 _ ?_
  refine oC rfl ?_ ?_
  ·
   intro c0
   refine oS fun _ hK4=>?_
   refine oW T_mHb101_ok ?_
   simp only[go_sem]
   refine hK4 _ ?_
   refine AWP_ret ?_
   simp only[hres,go_sem]
   first|exact oF|(refine⟨?_,oF⟩;exact(getD_out (by omega)).symm)
  intro c0
  refine AWP_skip ?_
  simp only[go_sem]
  refine hK2 _ ?_
  refine oS fun _ hK5=>?_
  refine oW T_mHb101_ok ?_
  simp (maxSteps:=2000000)only[go_sem]
  repeat(with_reducible refine oA ?_)
  refine hK5 _ ?_
  refine AWP_ret ?_
  simp only[hres,go_sem]
  first|exact oF|exact oFr
def T_implAt:Tab:=fun f=>if f=32 then some (.p K_implAt) else T_mHb101 f
theorem T_implAt_ok:TabOk Try.prog T_implAt:=tabP implAt_ok (fnOk_of Try.func32 rfl (by decide)) T_mHb101_ok
attribute [go_sem] T_implAt K_implAt
def K_l03At:Con:=⟨[.val ((.row 2 (.int .i64))),.val (.int .i64)],[⟨.int .i64,true⟩],fun x=>inR x.2.1 0 9223372036854775807=true,fun x=>x.1.getD (Int.toNat x.2.1) 0⟩
theorem l03At_ok:PureT Try.prog 21 K_l03At:=by
  refine pure_of_body Try.func21 rfl ?_
  have hres:Try.f21.results.toList=[.tmp 4]:=rfl
  rintro⟨(xs:List Int),(x:Int),_⟩ hc hL
  simp only[K_l03At,go_sem] at hL
  obtain lxs:=hL
  simp only[K_l03At,St.init,St.initG,Try.ntmps21,go_sem] 
  have hx:0≤x:=(inR_iff.1 (show inR x _ _=true from hc)).1
  have hw:IntKind.i64.wrap ((xs.length:Int) - 1)=xs.length - 1:=wrapI (by omega)
  refine oS fun _ hK1=>?_
  refine oW T_implAt_ok ?_
  simp only[go_sem]
  refine hK1 _ ?_
  refine oS fun _ hK2=>?_
  refine oS fun _ hK3=>?_
  refine oW T_implAt_ok ?_
  simp (maxSteps:=2000000)only[hw,go_sem]
  repeat(with_reducible refine oA ?_)
  refine hK3 _ ?_
  refine oC rfl ?_ ?_
  ·
   intro c0
   have hq:xs.length≤x.toNat:=by have:=inR_iff_f.1 c0;omega
   refine oS fun _ hK4=>?_
   refine oW T_implAt_ok ?_
   simp only[go_sem]
   refine hK4 _ ?_
   refine AWP_ret ?_
   simp only[hres,go_sem]
   first|exact oF|(refine⟨?_,oF⟩;exact(getD_out hq).symm)
  intro c0
  obtain⟨hq1,hq2⟩:=inR_iff.1 c0
  refine AWP_skip ?_
  simp only[go_sem]
  refine hK2 _ ?_
  refine oS fun _ hK5=>?_
  refine oW T_implAt_ok ?_
  simp (maxSteps:=2000000)only[go_sem]
  repeat(with_reducible refine oA ?_)
  refine hK5 _ ?_
  refine AWP_ret ?_
  simp only[hres,go_sem]
  first|exact oF|exact oFr
def T_l03At:Tab:=fun f=>if f=21 then some (.p K_l03At) else T_implAt f
theorem T_l03At_ok:TabOk Try.prog T_l03At:=tabP l03At_ok (fnOk_of Try.func21 rfl (by decide)) T_implAt_ok
attribute [go_sem] T_l03At K_l03At
def K_isSignal:Con:=⟨[.val ((.row 2 (.int .i64)))],[⟨.bool,true⟩],fun _=>True,fun x=>l03B x.1⟩
theorem isSignal_ok:PureT Try.prog 60 K_isSignal:=by
  refine pure_of_body Try.func60 rfl ?_
  have hres:Try.f60.results.toList=[.tmp 2]:=rfl
  rintro⟨(xs:List Int),_⟩ hc hL
  simp only[K_isSignal,go_sem] at hL
  simp only[K_isSignal,St.init,St.initG,Try.ntmps60,go_sem] 
  refine oS fun _ hK1=>?_
  refine oW T_l03At_ok ?_
  simp only[go_sem]
  refine hK1 _ ?_
  refine oS fun _ hK2=>?_
  refine oW T_l03At_ok ?_
  simp (maxSteps:=2000000)only[go_sem]
  repeat' (with_reducible first|refine oA ?_|refine oT (fun g1=>?_) (fun g1=>?_)|refine oE (fun g1=>?_) (fun g1=>?_))
  all_goals
   refine hK2 _ ?_
   refine AWP_ret ?_
   simp only[hres,go_sem]
   first|exact oF|(refine⟨?_,oF⟩;first|exact(l03B_s (by omega)).symm|(unfold l03B;rw[decide_eq_false (by omega)];rfl))
def T_isSignal:Tab:=fun f=>if f=60 then some (.p K_isSignal) else T_l03At f
theorem T_isSignal_ok:TabOk Try.prog T_isSignal:=tabP isSignal_ok (fnOk_of Try.func60 rfl (by decide)) T_l03At_ok
attribute [go_sem] T_isSignal K_isSignal
def K_areSignals:Con:=⟨[.val ((.row 24 (.row 2 (.int .i64))))],[⟨.bool,true⟩],fun _=>True,fun x=>x.1.all l03B⟩
theorem areSignals_ok:PureT Try.prog 27 K_areSignals:=by
  refine pure_of_body Try.func27 rfl ?_
  have hres:Try.f27.results.toList=[.tmp 2]:=rfl
  rintro⟨(xs:List (List Int)),_⟩ hc hL
  simp only[K_areSignals,go_sem] at hL
  obtain⟨lxs,lxs2⟩:=hL
  simp only[K_areSignals,St.init,St.initG,Try.ntmps27,go_sem] 
  refine oS fun _ hK1=>?_
  refine oW T_isSignal_ok ?_
  simp only[go_sem]
  refine hK1 _ ?_
  refine oS fun _ hK2=>?_
  refine oS fun _ hK3=>?_
  refine oW T_isSignal_ok ?_
  simp only[go_sem]
  refine hK3 _ ?_
  refine AWP_block ?_
  refine AWP_loop_k (ι:={ k:Nat // k≤xs.length∧(xs.take k).all l03B=true }) (fun k=>⟨[zz,zz,zz,zz,zz,.c (.rd [] 24 (.row 2 (.int .i64)) (xs)),.c (.sc (.int .i64 (xs.length))),.c (.sc (.int .i64 (k.1))),zz,zz,zz,zz,zz,zz,zz],[]⟩) (fun k=>xs.length - k.1) ⟨0,by simp⟩ ?_ ?_
  ·
   refine oK ?_
   simp (maxSteps:=2000000)only[go_sem]
   all_goals(first|rfl|((repeat' refine And.intro ?_ ?_)<;>first|rfl|simp))
  rintro⟨k,hk,hp⟩ K4 hL4
  refine oS fun _ hK5=>?_
  refine oW T_isSignal_ok ?_
  simp only[go_sem]
  refine hK5 _ ?_
  refine oS fun _ hK6=>?_
  refine oC rfl ?_ ?_
  ·
   intro c0
   refine AWP_skip ?_
   simp only[go_sem]
   refine hK6 _ ?_
   refine oS fun _ hK7=>?_
   refine AWP_block ?_
   refine oS fun _ hK8=>?_
   refine oW T_isSignal_ok ?_
   simp only[go_sem]
   repeat(with_reducible refine oA ?_)
   refine hK8 _ ?_
   refine oS fun _ hK9=>?_
   refine oW T_isSignal_ok ?_
   simp only[go_sem]
   repeat(with_reducible refine oA ?_)
   refine hK9 _ ?_
   refine oC rfl ?_ ?_
   ·
    intro c1
    refine oS fun _ hK10=>?_
    refine oW T_isSignal_ok ?_
    simp only[go_sem]
    refine hK10 _ ?_
    refine AWP_ret ?_
    simp only[hres,go_sem]
    first|exact oF|(refine⟨?_,oF⟩;exact(all_stop (k:=k) (d:=[]) (by omega) (by first|assumption|(clear hp;clear hK1 hK2 hK3 hL4 hK5 hK6 hK7 hK8 hK9 hK10;simp_all))).symm)
   intro c1
   refine AWP_skip ?_
   simp only[go_sem]
   refine hK7 _ ?_
   refine oW T_isSignal_ok ?_
   simp only[go_sem]
   refine hL4 ⟨k+1,by omega,all_next (d:=[]) (by omega) hp (by first|assumption|(clear hK1 hK2 hK3 hL4 hK5 hK6 hK7 hK8 hK9;simp_all))⟩ _ (oK ?_) ?_
   ·
    simp (maxSteps:=2000000)only[go_sem]
    first|rfl|exact wk (by omega)
   ·
    first|(simp only[];omega)|omega|(simp;omega)
  intro c0
  refine AWP_exit ?_
  simp only[go_sem]
  refine hK2 _ ?_
  refine oS fun _ hK11=>?_
  refine oW T_isSignal_ok ?_
  simp only[go_sem]
  refine hK11 _ ?_
  refine AWP_ret ?_
  simp only[hres,go_sem]
  first|exact oF|(refine⟨?_,oF⟩;exact(all_done hp (by omega)).symm)
def T_areSignals:Tab:=fun f=>if f=27 then some (.p K_areSignals) else T_isSignal f
theorem T_areSignals_ok:TabOk Try.prog T_areSignals:=tabP areSignals_ok (fnOk_of Try.func27 rfl (by decide)) T_isSignal_ok
attribute [go_sem] T_areSignals K_areSignals
def K_isCount:Con:=⟨[.val (.int .i64)],[⟨.bool,true⟩],fun _=>True,fun x=>inR x.1 0 4000⟩
theorem isCount_ok:PureT Try.prog 28 K_isCount:=by
  refine pure_of_body Try.func28 rfl ?_
  have hres:Try.f28.results.toList=[.tmp 2]:=rfl
  rintro⟨(x:Int),_⟩ hc hL
  simp only[K_isCount,go_sem] at hL
  simp only[K_isCount,St.init,St.initG,Try.ntmps28,go_sem] 
  refine oS fun _ hK1=>?_
  refine oW T_areSignals_ok ?_
  simp only[go_sem]
  refine hK1 _ ?_
  refine oS fun _ hK2=>?_
  refine oW T_areSignals_ok ?_
  simp only[go_sem]
  repeat(with_reducible refine oA ?_)
  refine hK2 _ ?_
  refine AWP_ret ?_
  simp only[hres,go_sem]
  first|exact oF|exact oFr
def T_isCount:Tab:=fun f=>if f=28 then some (.p K_isCount) else T_areSignals f
theorem T_isCount_ok:TabOk Try.prog T_isCount:=tabP isCount_ok (fnOk_of Try.func28 rfl (by decide)) T_areSignals_ok
attribute [go_sem] T_isCount K_isCount
def T_l08Signals:Tab:=T_isCount
theorem T_l08Signals_ok:TabOk Try.prog T_l08Signals:=T_isCount_ok
attribute [go_sem] T_l08Signals
end Go.Proofs.Ytenjbehedcegdaa
