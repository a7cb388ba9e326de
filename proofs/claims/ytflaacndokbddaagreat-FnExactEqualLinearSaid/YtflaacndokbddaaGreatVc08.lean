/-
  Texts of this claim, joined (part 8). No condition beyond those of the theorems.
-/
import Derived.Test.YtflaacndokbddaaGreatVc05
namespace Go.Proofs.YtflaacndokbddaaGreat
open Go.RowKit
set_option linter.unusedSimpArgs false
set_option linter.unusedVariables false
set_option maxRecDepth 100000
set_option maxHeartbeats 1000000
def K_eqI:Con:=⟨[.val ((.row 2 (.int .i64))),.val ((.row 2 (.int .i64)))],[⟨.bool,true⟩],fun _=>True,fun x=>eqD (x.1:List Int) (x.2.1:List Int)⟩
theorem eqI_ok:PureT Tryz.prog 78 K_eqI:=by
  refine pure_of_body Tryz.func78 rfl ?_
  have hres:Tryz.f78.results.toList=[.tmp 4]:=rfl
  rintro ⟨(xs:List Int),(ys:List Int),_⟩ hc hL
  simp only[K_eqI,go_sem] at hL
  obtain ⟨lxs,lys⟩:=hL
  simp only[K_eqI,St.init,St.initG,Tryz.ntmps78,go_sem] 
  refine oS fun _ hK1=>?_
  refine oW T0_ok ?_
  simp only[go_sem]
  refine hK1 _ ?_
  refine oS fun _ hK2=>?_
  refine oS fun _ hK3=>?_
  refine oW T0_ok ?_
  simp (maxSteps:=2000000)only[go_sem]
  refine hK3 _ ?_
  refine oC rfl ?_ ?_
  ·
   intro c0
   refine oS fun _ hK4=>?_
   refine oW T0_ok ?_
   simp only[go_sem]
   refine hK4 _ ?_
   refine AWP_ret ?_
   simp only[hres,go_sem]
   first | exact oF | (refine ⟨?_,oF⟩; exact (eq_len (by omega)).symm)
  intro c0
  refine AWP_skip ?_
  simp only[go_sem]
  refine hK2 _ ?_
  refine oS fun _ hK5=>?_
  refine oS fun _ hK6=>?_
  refine oW T0_ok ?_
  simp only[go_sem]
  refine hK6 _ ?_
  refine AWP_block ?_
  refine AWP_loop_k (ι:={ k:Nat // k≤xs.length∧xs.take k=ys.take k }) (fun k=>⟨[.c (.rd [] 2 (.int .i64) (xs)),.c (.rd [] 2 (.int .i64) (ys)),zz,zz,zz,.c (.sc (.int .i64 (k.1))),zz,zz,zz,zz,zz,zz,zz,zz,zz,zz,zz,zz,zz,zz,zz,zz,zz,zz,zz,zz],[]⟩) (fun k=>xs.length - k.1) ⟨0,by simp,by simp⟩ ?_ ?_
  ·
   refine oK ?_
   simp (maxSteps:=2000000)only[go_sem]
   all_goals (first | rfl | ((repeat' refine And.intro ?_ ?_)<;>first | rfl | simp))
  rintro ⟨k,hk,hp⟩ K7 hL7
  refine oS fun _ hK8=>?_
  refine oS fun _ hK9=>?_
  refine oW T0_ok ?_
  simp only[go_sem]
  refine hK9 _ ?_
  refine oC rfl ?_ ?_
  ·
   intro c1
   refine AWP_skip ?_
   simp only[go_sem]
   refine hK8 _ ?_
   refine oS fun _ hK10=>?_
   refine AWP_block ?_
   refine oS fun _ hK11=>?_
   refine oR T0_ok
     [[],[],[0,1],[0,1,2],[],[],[4,5],[4,5,6],[0,1,2,3,4,5,6,7]]
     [[],[],[],[],[],[],[],[],[]]
     [[],[],[],[],[],[],[],[],[]] (by kernel_rfl) (by kernel_rfl) (adrawR_ok (acc:=[]) ?_)
   simp (maxSteps:=2000000)only[go_sem]
   repeat (with_reducible refine oD ?_)
   refine hK11 _ ?_
   refine oC rfl ?_ ?_
   ·
    intro c2
    refine oS fun _ hK12=>?_
    refine oW T0_ok ?_
    simp only[go_sem]
    refine hK12 _ ?_
    refine AWP_ret ?_
    simp only[hres,go_sem]
    first | exact oF | (refine ⟨?_,oF⟩; exact (eq_stop (0:Int) (m:=k) (by first | assumption | exact decide_eq_false (by assumption))).symm)
   intro c2
   refine AWP_skip ?_
   simp only[go_sem]
   refine hK10 _ ?_
   refine oW T0_ok ?_
   simp only[go_sem]
   refine hL7 ⟨k+1,by omega,eq_next (d:=(0:Int)) (by omega) (by omega) hp (by first | assumption | exact decide_eq_true (by assumption))⟩ _ (oK ?_) ?_
   ·
    simp (maxSteps:=2000000)only[go_sem]
    all_goals (first | rfl | ((repeat' refine And.intro ?_ ?_)<;>first | rfl | exact wk (by omega) | simp))
   ·
    first | (simp only[]; omega) | omega | (simp; omega)
  intro c1
  refine AWP_exit ?_
  simp only[go_sem]
  refine hK5 _ ?_
  refine oS fun _ hK13=>?_
  refine oW T0_ok ?_
  simp only[go_sem]
  refine hK13 _ ?_
  refine AWP_ret ?_
  simp only[hres,go_sem]
  first | exact oF | (refine ⟨?_,oF⟩; exact (eq_done (m:=k) (by omega) (by omega) hp).symm)
def T_eqI:Tab:=fun f=>if f=78 then some (.p K_eqI) else T0 f
theorem T_eqI_ok:TabOk Tryz.prog T_eqI:=tabP eqI_ok (fnOk_of Tryz.func78 rfl (by decide)) T0_ok
attribute [go_sem] T_eqI K_eqI
def K_eqL:Con:=⟨[.val ((.row 26 (.row 2 (.int .i64)))),.val ((.row 26 (.row 2 (.int .i64))))],[⟨.bool,true⟩],fun _=>True,fun x=>eqD (x.1:List (List Int)) (x.2.1:List (List Int))⟩
theorem eqL_ok:PureT Tryz.prog 76 K_eqL:=by
  refine pure_of_body Tryz.func76 rfl ?_
  have hres:Tryz.f76.results.toList=[.tmp 4]:=rfl
  rintro ⟨(xs:List (List Int)),(ys:List (List Int)),_⟩ hc hL
  simp only[K_eqL,go_sem] at hL
  obtain ⟨lxs,lys⟩:=hL
  simp only[K_eqL,St.init,St.initG,Tryz.ntmps76,go_sem] 
  refine oS fun _ hK1=>?_
  refine oW T_eqI_ok ?_
  simp only[go_sem]
  refine hK1 _ ?_
  refine oS fun _ hK2=>?_
  refine oS fun _ hK3=>?_
  refine oW T_eqI_ok ?_
  simp (maxSteps:=2000000)only[go_sem]
  refine hK3 _ ?_
  refine oC rfl ?_ ?_
  ·
   intro c0
   refine oS fun _ hK4=>?_
   refine oW T_eqI_ok ?_
   simp only[go_sem]
   refine hK4 _ ?_
   refine AWP_ret ?_
   simp only[hres,go_sem]
   first | exact oF | (refine ⟨?_,oF⟩; exact (eq_len (by omega)).symm)
  intro c0
  refine AWP_skip ?_
  simp only[go_sem]
  refine hK2 _ ?_
  refine oS fun _ hK5=>?_
  refine oS fun _ hK6=>?_
  refine oW T_eqI_ok ?_
  simp only[go_sem]
  refine hK6 _ ?_
  refine AWP_block ?_
  refine AWP_loop_k (ι:={ k:Nat // k≤xs.length∧xs.take k=ys.take k }) (fun k=>⟨[.c (.rd [] 26 (.row 2 (.int .i64)) (xs)),.c (.rd [] 26 (.row 2 (.int .i64)) (ys)),zz,zz,zz,.c (.sc (.int .i64 (k.1))),zz,zz,zz,zz,zz,zz,zz,zz,zz,zz,zz,zz,zz,zz,zz,zz,zz,zz,zz,zz,zz],[]⟩) (fun k=>xs.length - k.1) ⟨0,by simp,by simp⟩ ?_ ?_
  ·
   refine oK ?_
   simp (maxSteps:=2000000)only[go_sem]
   all_goals (first | rfl | ((repeat' refine And.intro ?_ ?_)<;>first | rfl | simp))
  rintro ⟨k,hk,hp⟩ K7 hL7
  refine oS fun _ hK8=>?_
  refine oS fun _ hK9=>?_
  refine oW T_eqI_ok ?_
  simp only[go_sem]
  refine hK9 _ ?_
  refine oC rfl ?_ ?_
  ·
   intro c1
   refine AWP_skip ?_
   simp only[go_sem]
   refine hK8 _ ?_
   refine oS fun _ hK10=>?_
   refine AWP_block ?_
   refine oS fun _ hK11=>?_
   refine oR T_eqI_ok
     [[],[],[0,1],[0,1,2],[],[],[4,5],[4,5,6],[0,1,2,3,4,5,6,7],[0,1,2,3,4,5,6,7,8]]
     [[],[],[],[],[],[],[],[],[],[]]
     [[],[],[],[],[],[],[],[],[],[]] (by kernel_rfl) (by kernel_rfl) (adrawR_ok (acc:=[]) ?_)
   simp (maxSteps:=2000000)only[go_sem]
   repeat (with_reducible refine oD ?_)
   refine hK11 _ ?_
   refine oC rfl ?_ ?_
   ·
    intro c2
    refine oS fun _ hK12=>?_
    refine oW T_eqI_ok ?_
    simp only[go_sem]
    refine hK12 _ ?_
    refine AWP_ret ?_
    simp only[hres,go_sem]
    first | exact oF | (refine ⟨?_,oF⟩; exact (eq_stop ([]:List Int) (m:=k) (by first | assumption | exact decide_eq_false (by assumption))).symm)
   intro c2
   refine AWP_skip ?_
   simp only[go_sem]
   refine hK10 _ ?_
   refine oW T_eqI_ok ?_
   simp only[go_sem]
   refine hL7 ⟨k+1,by omega,eq_next (d:=([]:List Int)) (by omega) (by omega) hp (by first | assumption | exact decide_eq_true (by assumption))⟩ _ (oK ?_) ?_
   ·
    simp (maxSteps:=2000000)only[go_sem]
    all_goals (first | rfl | ((repeat' refine And.intro ?_ ?_)<;>first | rfl | exact wk (by omega) | simp))
   ·
    first | (simp only[]; omega) | omega | (simp; omega)
  intro c1
  refine AWP_exit ?_
  simp only[go_sem]
  refine hK5 _ ?_
  refine oS fun _ hK13=>?_
  refine oW T_eqI_ok ?_
  simp only[go_sem]
  refine hK13 _ ?_
  refine AWP_ret ?_
  simp only[hres,go_sem]
  first | exact oF | (refine ⟨?_,oF⟩; exact (eq_done (m:=k) (by omega) (by omega) hp).symm)
def T_eqL:Tab:=fun f=>if f=76 then some (.p K_eqL) else T_eqI f
theorem T_eqL_ok:TabOk Tryz.prog T_eqL:=tabP eqL_ok (fnOk_of Tryz.func76 rfl (by decide)) T_eqI_ok
attribute [go_sem] T_eqL K_eqL
def K_eqN:Con:=⟨[.val ((.prod (.int .i64) (.prod (.int .i64) (.prod (.int .i64) (.row 2 (.int .i64)))))),.val ((.prod (.int .i64) (.prod (.int .i64) (.prod (.int .i64) (.row 2 (.int .i64))))))],[⟨.bool,true⟩],fun _=>True,fun x=>eqD (x.1:NodeD) (x.2.1:NodeD)⟩
theorem eqN_ok:PureT Tryz.prog 140 K_eqN:=by
  refine pure_of_body Tryz.func140 rfl ?_
  have hres:Tryz.f140.results.toList=[.tmp 4]:=rfl
  rintro ⟨⟨(kd:Int),(a:Int),(bb:Int),(fr:List Int)⟩,⟨(kd2:Int),(a2:Int),(bb2:Int),(fr2:List Int)⟩,_⟩ hc hL
  simp only[K_eqN,go_sem] at hL
  simp only[K_eqN,St.init,St.initG,Tryz.ntmps140,go_sem] 
  refine oS fun _ hK1=>?_
  refine oW T_eqL_ok ?_
  simp only[go_sem]
  refine hK1 _ ?_
  refine oS fun _ hK2=>?_
  refine oS fun _ hK3=>?_
  refine oW T_eqL_ok ?_
  simp (maxSteps:=2000000)only[go_sem]
  repeat (with_reducible refine oA ?_)
  refine hK3 _ ?_
  refine oC rfl ?_ ?_
  ·
   intro c0
   refine oS fun _ hK4=>?_
   refine oW T_eqL_ok ?_
   simp only[go_sem]
   refine hK4 _ ?_
   refine AWP_ret ?_
   simp only[hres,go_sem]
   first | exact oF | (refine ⟨?_,oF⟩; clear hK1 hK2 hK3 hK4; simp_all [eqD])
  intro c0
  refine AWP_skip ?_
  simp only[go_sem]
  refine hK2 _ ?_
  refine oS fun _ hK5=>?_
  refine oS fun _ hK6=>?_
  refine oW T_eqL_ok ?_
  simp (maxSteps:=2000000)only[go_sem]
  repeat (with_reducible refine oA ?_)
  refine hK6 _ ?_
  refine oC rfl ?_ ?_
  ·
   intro c1
   refine oS fun _ hK7=>?_
   refine oW T_eqL_ok ?_
   simp only[go_sem]
   refine hK7 _ ?_
   refine AWP_ret ?_
   simp only[hres,go_sem]
   first | exact oF | (refine ⟨?_,oF⟩; clear hK1 hK2 hK3 hK5 hK6 hK7; simp_all [eqD])
  intro c1
  refine AWP_skip ?_
  simp only[go_sem]
  refine hK5 _ ?_
  refine oS fun _ hK8=>?_
  refine oS fun _ hK9=>?_
  refine oW T_eqL_ok ?_
  simp (maxSteps:=2000000)only[go_sem]
  repeat (with_reducible refine oA ?_)
  refine hK9 _ ?_
  refine oC rfl ?_ ?_
  ·
   intro c2
   refine oS fun _ hK10=>?_
   refine oW T_eqL_ok ?_
   simp only[go_sem]
   refine hK10 _ ?_
   refine AWP_ret ?_
   simp only[hres,go_sem]
   first | exact oF | (refine ⟨?_,oF⟩; clear hK1 hK2 hK3 hK5 hK6 hK8 hK9 hK10; simp_all [eqD])
  intro c2
  refine AWP_skip ?_
  simp only[go_sem]
  refine hK8 _ ?_
  refine oS fun _ hK11=>?_
  refine oS fun _ hK12=>?_
  refine oW T_eqL_ok ?_
  simp (maxSteps:=2000000)only[go_sem]
  repeat (with_reducible refine oA ?_)
  refine hK12 _ ?_
  refine oC rfl ?_ ?_
  ·
   intro c3
   refine oS fun _ hK13=>?_
   refine oW T_eqL_ok ?_
   simp only[go_sem]
   refine hK13 _ ?_
   refine AWP_ret ?_
   simp only[hres,go_sem]
   first | exact oF | (refine ⟨?_,oF⟩; clear hK1 hK2 hK3 hK5 hK6 hK8 hK9 hK11 hK12 hK13; simp_all [eqD])
  intro c3
  refine AWP_skip ?_
  simp only[go_sem]
  refine hK11 _ ?_
  refine oS fun _ hK14=>?_
  refine oW T_eqL_ok ?_
  simp only[go_sem]
  refine hK14 _ ?_
  refine AWP_ret ?_
  simp only[hres,go_sem]
  first | exact oF | (refine ⟨?_,oF⟩; clear hK1 hK2 hK3 hK5 hK6 hK8 hK9 hK11 hK12 hK14; simp_all [eqD])
def T_eqN:Tab:=fun f=>if f=140 then some (.p K_eqN) else T_eqL f
theorem T_eqN_ok:TabOk Tryz.prog T_eqN:=tabP eqN_ok (fnOk_of Tryz.func140 rfl (by decide)) T_eqL_ok
attribute [go_sem] T_eqN K_eqN
def K_eqNs:Con:=⟨[.val ((.row 90 (.prod (.int .i64) (.prod (.int .i64) (.prod (.int .i64) (.row 2 (.int .i64))))))),.val ((.row 90 (.prod (.int .i64) (.prod (.int .i64) (.prod (.int .i64) (.row 2 (.int .i64)))))))],[⟨.bool,true⟩],fun _=>True,fun x=>eqD (x.1:List NodeD) (x.2.1:List NodeD)⟩
theorem eqNs_ok:PureT Tryz.prog 77 K_eqNs:=by
  refine pure_of_body Tryz.func77 rfl ?_
  have hres:Tryz.f77.results.toList=[.tmp 4]:=rfl
  rintro ⟨(xs:List NodeD),(ys:List NodeD),_⟩ hc hL
  simp only[K_eqNs,go_sem] at hL
  obtain ⟨lxs,lys⟩:=hL
  simp only[K_eqNs,St.init,St.initG,Tryz.ntmps77,go_sem] 
  refine oS fun _ hK1=>?_
  refine oW T_eqN_ok ?_
  simp only[go_sem]
  refine hK1 _ ?_
  refine oS fun _ hK2=>?_
  refine oS fun _ hK3=>?_
  refine oW T_eqN_ok ?_
  simp (maxSteps:=2000000)only[go_sem]
  refine hK3 _ ?_
  refine oC rfl ?_ ?_
  ·
   intro c0
   refine oS fun _ hK4=>?_
   refine oW T_eqN_ok ?_
   simp only[go_sem]
   refine hK4 _ ?_
   refine AWP_ret ?_
   simp only[hres,go_sem]
   first | exact oF | (refine ⟨?_,oF⟩; exact (eq_len (by omega)).symm)
  intro c0
  refine AWP_skip ?_
  simp only[go_sem]
  refine hK2 _ ?_
  refine oS fun _ hK5=>?_
  refine oS fun _ hK6=>?_
  refine oW T_eqN_ok ?_
  simp only[go_sem]
  refine hK6 _ ?_
  refine AWP_block ?_
  refine AWP_loop_k (ι:={ k:Nat // k≤xs.length∧xs.take k=ys.take k }) (fun k=>⟨[.c (.rd [] 90 ((.prod (.int .i64) (.prod (.int .i64) (.prod (.int .i64) (.row 2 (.int .i64)))))) (xs)),.c (.rd [] 90 ((.prod (.int .i64) (.prod (.int .i64) (.prod (.int .i64) (.row 2 (.int .i64)))))) (ys)),zz,zz,zz,.c (.sc (.int .i64 (k.1))),zz,zz,zz,zz,zz,zz,zz,zz,zz,zz,zz,zz,zz,zz,zz,zz,zz,zz,zz,zz,zz],[]⟩) (fun k=>xs.length - k.1) ⟨0,by simp,by simp⟩ ?_ ?_
  ·
   refine oK ?_
   simp (maxSteps:=2000000)only[go_sem]
   all_goals (first | rfl | ((repeat' refine And.intro ?_ ?_)<;>first | rfl | simp))
  rintro ⟨k,hk,hp⟩ K7 hL7
  refine oS fun _ hK8=>?_
  refine oS fun _ hK9=>?_
  refine oW T_eqN_ok ?_
  simp only[go_sem]
  refine hK9 _ ?_
  refine oC rfl ?_ ?_
  ·
   intro c1
   refine AWP_skip ?_
   simp only[go_sem]
   refine hK8 _ ?_
   refine oS fun _ hK10=>?_
   refine AWP_block ?_
   refine oS fun _ hK11=>?_
   refine oR T_eqN_ok
     [[],[],[0,1],[0,1,2],[],[],[4,5],[4,5,6],[0,1,2,3,4,5,6,7],[0,1,2,3,4,5,6,7,8]]
     [[],[],[],[],[],[],[],[],[],[]]
     [[],[],[],[],[],[],[],[],[],[]] (by kernel_rfl) (by kernel_rfl) (adrawR_ok (acc:=[]) ?_)
   simp (maxSteps:=2000000)only[go_sem]
   repeat (with_reducible refine oD ?_)
   refine hK11 _ ?_
   refine oC rfl ?_ ?_
   ·
    intro c2
    refine oS fun _ hK12=>?_
    refine oW T_eqN_ok ?_
    simp only[go_sem]
    refine hK12 _ ?_
    refine AWP_ret ?_
    simp only[hres,go_sem]
    first | exact oF | (refine ⟨?_,oF⟩; exact (eq_stop ((0,0,0,[]):NodeD) (m:=k) (by first | assumption | exact decide_eq_false (by assumption))).symm)
   intro c2
   refine AWP_skip ?_
   simp only[go_sem]
   refine hK10 _ ?_
   refine oW T_eqN_ok ?_
   simp only[go_sem]
   refine hL7 ⟨k+1,by omega,eq_next (d:=((0,0,0,[]):NodeD)) (by omega) (by omega) hp (by first | assumption | exact decide_eq_true (by assumption))⟩ _ (oK ?_) ?_
   ·
    simp (maxSteps:=2000000)only[go_sem]
    all_goals (first | rfl | ((repeat' refine And.intro ?_ ?_)<;>first | rfl | exact wk (by omega) | simp))
   ·
    first | (simp only[]; omega) | omega | (simp; omega)
  intro c1
  refine AWP_exit ?_
  simp only[go_sem]
  refine hK5 _ ?_
  refine oS fun _ hK13=>?_
  refine oW T_eqN_ok ?_
  simp only[go_sem]
  refine hK13 _ ?_
  refine AWP_ret ?_
  simp only[hres,go_sem]
  first | exact oF | (refine ⟨?_,oF⟩; exact (eq_done (m:=k) (by omega) (by omega) hp).symm)
def T_eqNs:Tab:=fun f=>if f=77 then some (.p K_eqNs) else T_eqN f
theorem T_eqNs_ok:TabOk Tryz.prog T_eqNs:=tabP eqNs_ok (fnOk_of Tryz.func77 rfl (by decide)) T_eqN_ok
attribute [go_sem] T_eqNs K_eqNs
def K_eqP:Con:=⟨[.val ((.prod (.int .i64) (.prod (.row 26 (.row 2 (.int .i64))) (.prod (.row 90 (.prod (.int .i64) (.prod (.int .i64) (.prod (.int .i64) (.row 2 (.int .i64)))))) (.row 2 (.int .i64)))))),.val ((.prod (.int .i64) (.prod (.row 26 (.row 2 (.int .i64))) (.prod (.row 90 (.prod (.int .i64) (.prod (.int .i64) (.prod (.int .i64) (.row 2 (.int .i64)))))) (.row 2 (.int .i64))))))],[⟨.bool,true⟩],fun _=>True,fun x=>eqD (x.1:PatchD) (x.2.1:PatchD)⟩
theorem eqP_ok:PureT Tryz.prog 27 K_eqP:=by
  refine pure_of_body Tryz.func27 rfl ?_
  have hres:Tryz.f27.results.toList=[.tmp 4]:=rfl
  rintro ⟨⟨(pi:Int),(ts:List (List Int)),(ns:List NodeD),(os:List Int)⟩,⟨(pi2:Int),(ts2:List (List Int)),(ns2:List NodeD),(os2:List Int)⟩,_⟩ hc hL
  simp only[K_eqP,go_sem] at hL
  simp only[K_eqP,St.init,St.initG,Tryz.ntmps27,go_sem] 
  refine oS fun _ hK1=>?_
  refine oW T_eqNs_ok ?_
  simp only[go_sem]
  refine hK1 _ ?_
  refine oS fun _ hK2=>?_
  refine oS fun _ hK3=>?_
  refine oW T_eqNs_ok ?_
  simp (maxSteps:=2000000)only[go_sem]
  repeat (with_reducible refine oA ?_)
  refine hK3 _ ?_
  refine oC rfl ?_ ?_
  ·
   intro c0
   refine oS fun _ hK4=>?_
   refine oW T_eqNs_ok ?_
   simp only[go_sem]
   refine hK4 _ ?_
   refine AWP_ret ?_
   simp only[hres,go_sem]
   first | exact oF | (refine ⟨?_,oF⟩; clear hK1 hK2 hK3 hK4; simp_all [eqD])
  intro c0
  refine AWP_skip ?_
  simp only[go_sem]
  refine hK2 _ ?_
  refine oS fun _ hK5=>?_
  refine oS fun _ hK6=>?_
  refine oW T_eqNs_ok ?_
  simp (maxSteps:=2000000)only[go_sem]
  repeat (with_reducible refine oA ?_)
  refine hK6 _ ?_
  refine oC rfl ?_ ?_
  ·
   intro c1
   refine oS fun _ hK7=>?_
   refine oW T_eqNs_ok ?_
   simp only[go_sem]
   refine hK7 _ ?_
   refine AWP_ret ?_
   simp only[hres,go_sem]
   first | exact oF | (refine ⟨?_,oF⟩; clear hK1 hK2 hK3 hK5 hK6 hK7; simp_all [eqD])
  intro c1
  refine AWP_skip ?_
  simp only[go_sem]
  refine hK5 _ ?_
  refine oS fun _ hK8=>?_
  refine oS fun _ hK9=>?_
  refine oW T_eqNs_ok ?_
  simp (maxSteps:=2000000)only[go_sem]
  repeat (with_reducible refine oA ?_)
  refine hK9 _ ?_
  refine oC rfl ?_ ?_
  ·
   intro c2
   refine oS fun _ hK10=>?_
   refine oW T_eqNs_ok ?_
   simp only[go_sem]
   refine hK10 _ ?_
   refine AWP_ret ?_
   simp only[hres,go_sem]
   first | exact oF | (refine ⟨?_,oF⟩; clear hK1 hK2 hK3 hK5 hK6 hK8 hK9 hK10; simp_all [eqD])
  intro c2
  refine AWP_skip ?_
  simp only[go_sem]
  refine hK8 _ ?_
  refine oS fun _ hK11=>?_
  refine oS fun _ hK12=>?_
  refine oW T_eqNs_ok ?_
  simp (maxSteps:=2000000)only[go_sem]
  repeat (with_reducible refine oA ?_)
  refine hK12 _ ?_
  refine oC rfl ?_ ?_
  ·
   intro c3
   refine oS fun _ hK13=>?_
   refine oW T_eqNs_ok ?_
   simp only[go_sem]
   refine hK13 _ ?_
   refine AWP_ret ?_
   simp only[hres,go_sem]
   first | exact oF | (refine ⟨?_,oF⟩; clear hK1 hK2 hK3 hK5 hK6 hK8 hK9 hK11 hK12 hK13; simp_all [eqD])
  intro c3
  refine AWP_skip ?_
  simp only[go_sem]
  refine hK11 _ ?_
  refine oS fun _ hK14=>?_
  refine oW T_eqNs_ok ?_
  simp only[go_sem]
  refine hK14 _ ?_
  refine AWP_ret ?_
  simp only[hres,go_sem]
  first | exact oF | (refine ⟨?_,oF⟩; clear hK1 hK2 hK3 hK5 hK6 hK8 hK9 hK11 hK12 hK14; simp_all [eqD])
def T_eqP:Tab:=fun f=>if f=27 then some (.p K_eqP) else T_eqNs f
theorem T_eqP_ok:TabOk Tryz.prog T_eqP:=tabP eqP_ok (fnOk_of Tryz.func27 rfl (by decide)) T_eqNs_ok
attribute [go_sem] T_eqP K_eqP
end Go.Proofs.YtflaacndokbddaaGreat
