/-
  Texts of this claim, joined (part 40). No condition beyond those of the theorems.
-/
import Derived.Test.YtgmabhkmiokiaaaGreatVa06
import Derived.Test.YtgmabhkmiokiaaaGreatVa38
import Derived.Test.YtgmabhkmiokiaaaGreatVa39
namespace Go.Proofs.YtgmabhkmiokiaaaGreat
open Go.RowKit
set_option linter.unusedSimpArgs false
set_option linter.unusedVariables false
set_option maxRecDepth 100000
set_option maxHeartbeats 1000000
def K_l04Samples:Con:=⟨[.val ((.row 2 (.int .i64)))],[⟨.bool,true⟩],fun _=>True,fun x=>smps x.1⟩
theorem l04Samples_ok:PureT Tryz.prog 107 K_l04Samples:=by
  refine pure_of_body Tryz.func107 rfl ?_
  have hres:Tryz.f107.results.toList=[.tmp 2]:=rfl
  rintro ⟨(xs:List Int),_⟩ hc hL
  simp only[K_l04Samples,go_sem] at hL
  obtain lxs:=hL
  simp only[K_l04Samples,St.init,St.initG,Tryz.ntmps107,go_sem] 
  refine oS fun _ hK1=>?_;refine oW T_kinds_ok ?_;simp only[go_sem];refine hK1 _ ?_;refine oS fun _ hK2=>?_;refine oS fun _ hK3=>?_;refine oW T_kinds_ok ?_;simp only[go_sem];refine hK3 _ ?_;refine AWP_block ?_;refine AWP_loop_k (ι:={ k:Nat // k≤xs.length∧(xs.take k).all smp=true }) (fun k=>⟨[.c (.rd [] 2 (.int .i64) (xs)),zz,zz,.c (.sc (.int .i64 (k.1))),zz,zz,zz,zz,zz,zz,zz,zz,zz,zz,zz,zz],[]⟩) (fun k=>xs.length - k.1) ⟨0,by simp⟩ ?_ ?_
  ·
   refine oK ?_;simp (maxSteps:=2000000)only[go_sem];all_goals (first | rfl | ((repeat' refine And.intro ?_ ?_)<;>first | rfl | simp))
  rintro ⟨k,hk,hp⟩ K4 hL4
  refine oS fun _ hK5=>?_;refine oS fun _ hK6=>?_;refine oW T_kinds_ok ?_;simp only[go_sem];refine hK6 _ ?_;refine oC rfl ?_ ?_
  ·
   intro c0;refine AWP_skip ?_;simp only[go_sem];refine hK5 _ ?_;refine oS fun _ hK7=>?_;refine AWP_block ?_;refine oS fun _ hK8=>?_;refine oW T_kinds_ok ?_;simp (maxSteps:=2000000)only[go_sem];repeat (with_reducible refine oA ?_)
   refine hK8 _ ?_;refine oC rfl ?_ ?_
   ·
    intro c1;refine oS fun _ hK9=>?_;refine oW T_kinds_ok ?_;simp only[go_sem];refine hK9 _ ?_;refine AWP_ret ?_;simp only[hres,go_sem];first | exact oF | (refine ⟨?_,oF⟩; exact (all_stop (k:=k) (d:=0) (by omega) (by first | assumption | (clear hp; clear hK1 hK2 hK3 hL4 hK5 hK6 hK7 hK8 hK9; simp_all))).symm)
   intro c1;refine AWP_skip ?_;simp only[go_sem];refine hK7 _ ?_;refine oW T_kinds_ok ?_;simp only[go_sem];refine hL4 ⟨k+1,by omega,all_next (d:=0) (by omega) hp (by first | assumption | (clear hK1 hK2 hK3 hL4 hK5 hK6 hK7 hK8; simp_all))⟩ _ (oK ?_) ?_
   ·
    simp (maxSteps:=2000000)only[go_sem];first | rfl | exact wk (by omega)
   ·
    first | (simp only[]; omega) | omega | (simp; omega)
  intro c0;refine AWP_exit ?_;simp only[go_sem];refine hK2 _ ?_;refine oS fun _ hK10=>?_;refine oW T_kinds_ok ?_;simp only[go_sem];refine hK10 _ ?_;refine AWP_ret ?_;simp only[hres,go_sem];first | exact oF | (refine ⟨?_,oF⟩; exact (all_done hp (by omega)).symm)
def T_l04Samples:Tab:=fun f=>if f=107 then some (.p K_l04Samples) else T_kinds f
theorem T_l04Samples_ok:TabOk Tryz.prog T_l04Samples:=tabP l04Samples_ok (fnOk_of Tryz.func107 rfl (by decide)) T_kinds_ok
attribute [go_sem] T_l04Samples K_l04Samples
def K_l04Ok:Con:=⟨[.val ((.row 2 (.int .i64)))],[⟨.bool,true⟩],fun _=>True,fun x=>polyB x.1⟩
theorem l04Ok_ok:PureT Tryz.prog 56 K_l04Ok:=by
  refine pure_of_body Tryz.func56 rfl ?_
  have hres:Tryz.f56.results.toList=[.tmp 2]:=rfl
  rintro ⟨(xs:List Int),_⟩ hc hL
  simp only[K_l04Ok,go_sem] at hL
  obtain lxs:=hL
  simp only[K_l04Ok,St.init,St.initG,Tryz.ntmps56,go_sem] 
  have hwx:IntKind.i64.wrap ((xs.length:Int) - 1)=(xs.length:Int) - 1:=wrapI (by omega)
  have hwt:((xs.length:Int) - 1).toNat=xs.length - 1:=by omega
  have hin:inR (xs.length:Int) 1 65=(decide (1≤xs.length) && decide (xs.length≤65)):=by
    by_cases a:1≤xs.length<;>by_cases b:xs.length≤65
    · rw [inR_t (by omega) (by omega),decide_eq_true a,decide_eq_true b]; rfl
    · rw [inR_no (by omega),decide_eq_true a,decide_eq_false b]; rfl
    · rw [inR_no (by omega),decide_eq_false a,decide_eq_true b]; rfl
    · rw [inR_no (by omega),decide_eq_false a,decide_eq_false b]; rfl
  refine oS fun _ hK1=>?_;refine oW T_l04Samples_ok ?_;simp only[go_sem];refine hK1 _ ?_;refine oS fun _ hK2=>?_;refine oW T_l04Samples_ok ?_;simp only[go_sem];refine hK2 _ ?_;refine oS fun _ hK3=>?_;refine oW T_l04Samples_ok ?_;simp (maxSteps:=2000000)only[hwx,hwt,go_sem];repeat' (with_reducible first | refine oA ?_ | refine And.intro (by first | omega | exact ⟨by have:=(inR_iff.1 (by assumption:inR (xs.length:Int) 1 65=true)).1; omega,by omega⟩) ?_ | refine oT (fun g2=>?_) (fun g2=>?_) | refine oE (fun g2=>?_) (fun g2=>?_))
  all_goals
   refine hK3 _ ?_;refine AWP_ret ?_;simp only[hres,go_sem]
   first
    | exact oF
    | refine ⟨?_,oF⟩
      clear hK1 hK2 hK3;unfold polyB;rw [← hin];have z3:((xs.length:Int)=1)↔xs.length=1:=by omega
      try simp only[z3] at *
      clear hwx hwt hin;first | rfl | (simp_all; done) | (by_cases q1:xs.length=1<;>cases hs:smps xs<;>simp_all; done) | (cases hr:inR (xs.length:Int) 1 65<;>by_cases q1:xs.length=1<;>cases hs:smps xs<;>simp_all<;>done)
def T_l04Ok:Tab:=fun f=>if f=56 then some (.p K_l04Ok) else T_l04Samples f
theorem T_l04Ok_ok:TabOk Tryz.prog T_l04Ok:=tabP l04Ok_ok (fnOk_of Tryz.func56 rfl (by decide)) T_l04Samples_ok
attribute [go_sem] T_l04Ok K_l04Ok
def K_l05Ok:Con:=⟨[.ptr (.prod (.row 2 (.int .i64)) (.row 2 (.int .i64)))],[⟨.bool,true⟩],fun x=>1≤x.1.2.length,fun x=>trB x.1⟩
theorem l05Ok_ok:PureT Tryz.prog 28 K_l05Ok:=by
  refine pure_of_body Tryz.func28 rfl ?_
  have hres:Tryz.f28.results.toList=[.tmp 2]:=rfl
  rintro ⟨⟨(xa:List Int),(xb:List Int)⟩,_⟩ hc hL
  simp only[K_l05Ok,go_sem] at hL
  simp only[K_l05Ok,St.init,St.initG,Tryz.ntmps28,go_sem] 
  have hc1:1≤xb.length:=hc
  refine oS fun _ hK1=>?_;refine oW T_l04Ok_ok ?_;simp only[go_sem];refine hK1 _ ?_;refine oS fun _ hK2=>?_;refine oW T_l04Ok_ok ?_;simp (maxSteps:=2000000)only[List.nodup_cons,List.nodup_nil,List.not_mem_nil,not_false_eq_true,go_sem];repeat' (with_reducible first | refine oA ?_ | refine And.intro (by first | omega) ?_ | refine oT (fun g1=>?_) (fun g1=>?_) | refine oE (fun g1=>?_) (fun g1=>?_))
  all_goals
   refine hK2 _ ?_;refine AWP_ret ?_;simp only[hres,go_sem]
   first
    | exact oF
    | refine ⟨?_,oF⟩
      clear hK1 hK2;unfold trB;first | rfl | (cases ha:polyB xa<;>cases hb:polyB xb<;>simp_all; done)
def T_l05Ok:Tab:=fun f=>if f=28 then some (.p K_l05Ok) else T_l04Ok f
theorem T_l05Ok_ok:TabOk Tryz.prog T_l05Ok:=tabP l05Ok_ok (fnOk_of Tryz.func28 rfl (by decide)) T_l04Ok_ok
attribute [go_sem] T_l05Ok K_l05Ok
def K_specVTrn:Con:=⟨[.val ((.prod (.row 2 (.int .i64)) (.row 2 (.int .i64))))],[⟨.bool,true⟩],fun x=>1≤x.1.2.length,fun x=>trB x.1⟩
theorem specVTrn_ok:PureT Tryz.prog 11 K_specVTrn:=by
  refine pure_of_body Tryz.func11 rfl ?_
  have hres:Tryz.f11.results.toList=[.tmp 2]:=rfl
  rintro ⟨⟨(xa:List Int),(xb:List Int)⟩,_⟩ hc hL
  simp only[K_specVTrn,go_sem] at hL
  simp only[K_specVTrn,St.init,St.initG,Tryz.ntmps11,go_sem] 
  have hc1:1≤xb.length:=hc
  refine oS fun _ hK1=>?_;refine oW T_l05Ok_ok ?_;simp only[go_sem];refine hK1 _ ?_;refine oS fun _ hK2=>?_;refine oW T_l05Ok_ok ?_;simp only[List.nodup_cons,List.nodup_nil,List.not_mem_nil,not_false_eq_true,go_sem];repeat (with_reducible first | refine oA ?_ | refine And.intro (by first | exact hc1) ?_)
  refine hK2 _ ?_;refine AWP_ret ?_;simp only[hres,go_sem];first | exact oF | exact oFr
def T_specVTrn:Tab:=fun f=>if f=11 then some (.p K_specVTrn) else T_l05Ok f
theorem T_specVTrn_ok:TabOk Tryz.prog T_specVTrn:=tabP specVTrn_ok (fnOk_of Tryz.func11 rfl (by decide)) T_l05Ok_ok
attribute [go_sem] T_specVTrn K_specVTrn
def K_v8Long:Con:=⟨[.val ((.row 5 (.int .u8))),.val ((.row 5 (.int .u8)))],[⟨.bool,true⟩],fun _=>True,fun x=>decide (1048576 < (List.length x.1:Int)) || decide (1048576 < (List.length x.2.1:Int))⟩
theorem v8Long_ok:PureT Tryz.prog 4 K_v8Long:=by
  refine pure_of_body Tryz.func4 rfl ?_
  have hres:Tryz.f4.results.toList=[.tmp 4]:=rfl
  rintro ⟨(cd:List Int),(mr:List Int),_⟩ hc hL
  simp only[K_v8Long,go_sem] at hL
  simp only[K_v8Long,St.init,St.initG,Tryz.ntmps4,go_sem] 
  refine oS fun _ hK1=>?_;refine oW T_specVTrn_ok ?_;simp only[go_sem];refine hK1 _ ?_;refine oS fun _ hK2=>?_;refine oW T_specVTrn_ok ?_;simp (maxSteps:=2000000)only[go_sem];repeat' (with_reducible first | refine oA ?_ | refine oT (fun g1=>?_) (fun g1=>?_) | refine oE (fun g1=>?_) (fun g1=>?_))
  all_goals
   refine hK2 _ ?_;refine AWP_ret ?_;simp only[hres,go_sem]
   first
    | exact oF
    | refine ⟨?_,oF⟩
      clear hK1 hK2;first | rfl | (simp_all; done) | (rw [decide_eq_false (show ¬ (1048576:Int) < (cd.length:Int) by omega),Bool.false_or]; done) | (rw [decide_eq_false (show ¬ (1048576:Int) < (cd.length:Int) by omega),Bool.false_or]; rfl) | (rw [decide_eq_true (show (1048576:Int) < (cd.length:Int) by omega)]; simp; done)
def T_v8Long:Tab:=fun f=>if f=4 then some (.p K_v8Long) else T_specVTrn f
theorem T_v8Long_ok:TabOk Tryz.prog T_v8Long:=tabP v8Long_ok (fnOk_of Tryz.func4 rfl (by decide)) T_specVTrn_ok
attribute [go_sem] T_v8Long K_v8Long
def K_v8At:Con:=⟨[.val ((.row 5 (.int .u8))),.val (.int .i64),.val (.int .i64)],[⟨.int .i64,true⟩],fun x=>inR x.2.1 0 1000=true,fun x=>v8D x.1 x.2.1 x.2.2.1⟩
theorem v8At_ok:PureT Tryz.prog 6 K_v8At:=by
  refine pure_of_body Tryz.func6 rfl ?_
  have hres:Tryz.f6.results.toList=[.tmp 6]:=rfl
  rintro ⟨(cd:List Int),(x:Int),(nn:Int),_⟩ hc hL
  simp only[K_v8At,go_sem] at hL
  simp only[K_v8At,St.init,St.initG,Tryz.ntmps6,go_sem] 
  obtain ⟨hx1,hx2⟩:=inR_iff.1 (show inR x 0 1000=true from hc)
  have hw1:IntKind.i64.wrap (x+1)=x+1:=wrapI (by omega)
  refine oS fun _ hK1=>?_;refine oW T_v8Long_ok ?_;simp only[go_sem];refine hK1 _ ?_;refine oS fun _ hK2=>?_;refine oS fun _ hK3=>?_;refine oW T_v8Long_ok ?_;simp (maxSteps:=2000000)only[go_sem];repeat' (with_reducible first | refine oA ?_ | refine And.intro (by first | omega) ?_ | refine oT (fun g1=>?_) (fun g1=>?_) | refine oE (fun g1=>?_) (fun g1=>?_))
  all_goals
   refine hK3 _ ?_;refine AWP_cond rfl ?_ ?_
   ·
    intro c0;try simp only[zA,zB,zC,zD,zE,zF,zG,zH,zI] at c0
    all_goals
     refine oS fun _ hK4=>?_;refine oW T_v8Long_ok ?_;simp only[go_sem];refine hK4 _ ?_;refine AWP_ret ?_;simp only[hres,go_sem]
     first
      | exact oF
      | refine ⟨?_,oF⟩
        have hkt:(decide (nn≤1) || decide ((cd.length:Int)≤x))=true:=by clear hK1 hK2 hK3 hK4; simp_all<;>omega
        unfold v8D;rw [hkt]
   ·
    intro c0;try simp only[zA,zB,zC,zD,zE,zF,zG,zH,zI] at c0
    all_goals
     have hkf:(decide (nn≤1) || decide ((cd.length:Int)≤x))=false:=by clear hK1 hK2 hK3; simp_all<;>omega
     have hk1:=(Bool.or_eq_false_iff.1 hkf).1
     have hk2:=(Bool.or_eq_false_iff.1 hkf).2
     have hn2:¬ nn≤1:=of_decide_eq_false hk1
     have hxl:¬ (cd.length:Int)≤x:=of_decide_eq_false hk2
     refine AWP_skip ?_;simp only[go_sem];refine hK2 _ ?_;refine oS fun _ hK5=>?_;refine oW T_v8Long_ok ?_;simp (maxSteps:=2000000)only[go_sem];repeat (with_reducible first | refine oA ?_ | refine And.intro (by first | omega) ?_)
     refine hK5 _ ?_;refine oS fun _ hK6=>?_;refine oS fun _ hK7=>?_;refine oW T_v8Long_ok ?_;simp (maxSteps:=2000000)only[hw1,go_sem];refine hK7 _ ?_;refine AWP_cond rfl ?_ ?_
     ·
      intro c1;try simp only[zA,zB,zC,zD,zE,zF,zG,zH,zI] at c1
      all_goals
       have k1:=decide_eq_true (show x+1 < (cd.length:Int) from by first | assumption | omega)
       refine oW T_v8Long_ok ?_;simp (maxSteps:=2000000)only[hw1,go_sem];repeat (with_reducible first | refine oA ?_ | refine And.intro (by first | omega) ?_)
       refine hK6 _ ?_;refine oS fun _ hK8=>?_;refine oW T_v8Long_ok ?_;simp only[go_sem];repeat (with_reducible first | refine oA ?_ | refine And.intro (by first | omega) ?_)
       refine hK8 _ ?_;refine AWP_ret ?_;simp only[hres,go_sem]
       first
        | exact oF
        | refine ⟨?_,oF⟩
          unfold v8D v8X;rw [hkf,k1];first | done | rfl
     ·
      intro c1;try simp only[zA,zB,zC,zD,zE,zF,zG,zH,zI] at c1
      all_goals
       have k1:=decide_eq_false (show ¬ x+1 < (cd.length:Int) from by first | assumption | omega)
       refine AWP_skip ?_;simp only[go_sem];refine hK6 _ ?_;refine oS fun _ hK9=>?_;refine oW T_v8Long_ok ?_;simp only[go_sem];repeat (with_reducible first | refine oA ?_ | refine And.intro (by first | omega) ?_)
       refine hK9 _ ?_;refine AWP_ret ?_;simp only[hres,go_sem]
       first
        | exact oF
        | refine ⟨?_,oF⟩
          unfold v8D v8X;rw [hkf,k1];first | done | rfl
def T_v8At:Tab:=fun f=>if f=6 then some (.p K_v8At) else T_v8Long f
theorem T_v8At_ok:TabOk Tryz.prog T_v8At:=tabP v8At_ok (fnOk_of Tryz.func6 rfl (by decide)) T_v8Long_ok
attribute [go_sem] T_v8At K_v8At
def K_v8Same:Con:=⟨[.val ((.row 2 (.int .i64))),.val ((.row 2 (.int .i64)))],[⟨.bool,true⟩],fun _=>True,fun x=>eqD (x.1:List Int) (x.2.1:List Int)⟩
theorem v8Same_ok:PureT Tryz.prog 12 K_v8Same:=by
  refine pure_of_body Tryz.func12 rfl ?_
  have hres:Tryz.f12.results.toList=[.tmp 4]:=rfl
  rintro ⟨(xs:List Int),(ys:List Int),_⟩ hc hL
  simp only[K_v8Same,go_sem] at hL
  obtain ⟨lxs,lys⟩:=hL;simp only[K_v8Same,St.init,St.initG,Tryz.ntmps12,go_sem] 
  refine oS fun _ hK1=>?_;refine oW T_v8At_ok ?_;simp only[go_sem];refine hK1 _ ?_;refine oS fun _ hK2=>?_;refine oS fun _ hK3=>?_;refine oW T_v8At_ok ?_;simp (maxSteps:=2000000)only[go_sem];refine hK3 _ ?_;refine oC rfl ?_ ?_
  ·
   intro c0;refine oS fun _ hK4=>?_;refine oW T_v8At_ok ?_;simp only[go_sem];refine hK4 _ ?_;refine AWP_ret ?_;simp only[hres,go_sem];first | exact oF | (refine ⟨?_,oF⟩; exact (eq_len (by omega)).symm)
  intro c0;refine AWP_skip ?_;simp only[go_sem];refine hK2 _ ?_;refine oS fun _ hK5=>?_;refine oS fun _ hK6=>?_;refine oW T_v8At_ok ?_;simp only[go_sem];refine hK6 _ ?_;refine AWP_block ?_;refine AWP_loop_k (ι:={ k:Nat // k≤xs.length∧xs.take k=ys.take k }) (fun k=>⟨[.c (.rd [] 2 (.int .i64) (xs)),.c (.rd [] 2 (.int .i64) (ys)),zz,zz,zz,.c (.sc (.int .i64 (k.1))),zz,zz,zz,zz,zz,zz,zz,zz,zz,zz,zz,zz,zz,zz,zz,zz,zz,zz,zz,zz],[]⟩) (fun k=>xs.length - k.1) ⟨0,by simp,by simp⟩ ?_ ?_
  ·
   refine oK ?_;simp (maxSteps:=2000000)only[go_sem];all_goals (first | rfl | ((repeat' refine And.intro ?_ ?_)<;>first | rfl | simp))
  rintro ⟨k,hk,hp⟩ K7 hL7
  refine oS fun _ hK8=>?_;refine oS fun _ hK9=>?_;refine oW T_v8At_ok ?_;simp only[go_sem];refine hK9 _ ?_;refine oC rfl ?_ ?_
  ·
   intro c1;refine AWP_skip ?_;simp only[go_sem];refine hK8 _ ?_;refine oS fun _ hK10=>?_;refine AWP_block ?_;refine oS fun _ hK11=>?_
   refine oR T_v8At_ok
     [[],[],[0,1],[0,1,2],[],[],[4,5],[4,5,6],[0,1,2,3,4,5,6,7]]
     [[],[],[],[],[],[],[],[],[]]
     [[],[],[],[],[],[],[],[],[]] (by kernel_rfl) (by kernel_rfl) (adrawR_ok (acc:=[]) ?_)
   simp (maxSteps:=2000000)only[go_sem];repeat (with_reducible refine oD ?_)
   refine hK11 _ ?_;refine oC rfl ?_ ?_
   ·
    intro c2;refine oS fun _ hK12=>?_;refine oW T_v8At_ok ?_;simp only[go_sem];refine hK12 _ ?_;refine AWP_ret ?_;simp only[hres,go_sem];first | exact oF | (refine ⟨?_,oF⟩; exact (eq_stop 0 (m:=k) (by first | assumption | exact decide_eq_false (by assumption))).symm)
   intro c2;refine AWP_skip ?_;simp only[go_sem];refine hK10 _ ?_;refine oW T_v8At_ok ?_;simp only[go_sem];refine hL7 ⟨k+1,by omega,eq_next (d:=0) (by omega) (by omega) hp (by first | assumption | exact decide_eq_true (by assumption))⟩ _ (oK ?_) ?_
   ·
    simp (maxSteps:=2000000)only[go_sem];all_goals (first | rfl | ((repeat' refine And.intro ?_ ?_)<;>first | rfl | exact wk (by omega) | simp))
   ·
    first | (simp only[]; omega) | omega | (simp; omega)
  intro c1;refine AWP_exit ?_;simp only[go_sem];refine hK5 _ ?_;refine oS fun _ hK13=>?_;refine oW T_v8At_ok ?_;simp only[go_sem];refine hK13 _ ?_;refine AWP_ret ?_;simp only[hres,go_sem];first | exact oF | (refine ⟨?_,oF⟩; exact (eq_done (m:=k) (by omega) (by omega) hp).symm)
def T_v8Same:Tab:=fun f=>if f=12 then some (.p K_v8Same) else T_v8At f
theorem T_v8Same_ok:TabOk Tryz.prog T_v8Same:=tabP v8Same_ok (fnOk_of Tryz.func12 rfl (by decide)) T_v8At_ok
attribute [go_sem] T_v8Same K_v8Same
end Go.Proofs.YtgmabhkmiokiaaaGreat
