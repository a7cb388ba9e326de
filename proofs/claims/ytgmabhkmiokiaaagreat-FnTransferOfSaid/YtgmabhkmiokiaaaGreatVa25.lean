/-
  Texts of this claim, joined (part 25). No condition beyond those of the theorems.
-/
import Derived.Test.YtgmabhkmiokiaaaGreatVa07
import Derived.Test.YtgmabhkmiokiaaaGreatVa06
import Derived.Test.YtgmabhkmiokiaaaGreatVa10
import Derived.Test.YtgmabhkmiokiaaaGreatVa05
import Derived.Test.YtgmabhkmiokiaaaGreatVa24
import Derived.Test.YtgmabhkmiokiaaaGreatVa19
namespace Go.Proofs.YtgmabhkmiokiaaaGreat
open Go.RowKit
set_option linter.unusedSimpArgs false
set_option linter.unusedVariables false
set_option maxRecDepth 100000
set_option maxHeartbeats 1000000
def T_mHb100:Tab:=fun f=>match T_l07Map f with
 | some k=>some k
 | none=>T_kinds f
theorem T_mHb100_ok:TabOk Tryz.prog T_mHb100:=tabM T_l07Map_ok T_kinds_ok
attribute [go_sem] T_mHb100 T0
def T_mHb101:Tab:=fun f=>match T_mHb100 f with
 | some k=>some k
 | none=>T_l06A f
theorem T_mHb101_ok:TabOk Tryz.prog T_mHb101:=tabM T_mHb100_ok T_l06A_ok
attribute [go_sem] T_mHb101 T0
def K_implAt:Con:=⟨[.val ((.row 2 (.int .i64))),.val (.int .i64)],[⟨.int .i64,true⟩],fun x=>inR x.2.1 0 9223372036854775807=true,fun x=>x.1.getD (Int.toNat x.2.1) 0⟩
theorem implAt_ok:PureT Tryz.prog 50 K_implAt:=by
  refine pure_of_body Tryz.func50 rfl ?_
  have hres:Tryz.f50.results.toList=[.tmp 4]:=rfl
  rintro ⟨(xs:List Int),(x:Int),_⟩ hc hL
  simp only[K_implAt,go_sem] at hL
  obtain lxs:=hL
  simp only[K_implAt,St.init,St.initG,Tryz.ntmps50,go_sem] 
  have hx:0≤x:=(inR_iff.1 (show inR x _ _=true from hc)).1
  refine oS fun _ hK1=>?_;refine oW T_mHb101_ok ?_;simp only[go_sem];refine hK1 _ ?_;refine oS fun _ hK2=>?_;refine oS fun _ hK3=>?_;refine oW T_mHb101_ok ?_;simp only[go_sem];repeat (with_reducible refine oA ?_)
  refine hK3 _ ?_;refine oC rfl ?_ ?_
  ·
   intro c0;refine oS fun _ hK4=>?_;refine oW T_mHb101_ok ?_;simp only[go_sem];refine hK4 _ ?_;refine AWP_ret ?_;simp only[hres,go_sem];first | exact oF | (refine ⟨?_,oF⟩; exact (getD_out (by omega)).symm)
  intro c0;refine AWP_skip ?_;simp only[go_sem];refine hK2 _ ?_;refine oS fun _ hK5=>?_;refine oW T_mHb101_ok ?_;simp (maxSteps:=2000000)only[go_sem];repeat (with_reducible refine oA ?_)
  refine hK5 _ ?_;refine AWP_ret ?_;simp only[hres,go_sem];first | exact oF | exact oFr
def T_implAt:Tab:=fun f=>if f=50 then some (.p K_implAt) else T_mHb101 f
theorem T_implAt_ok:TabOk Tryz.prog T_implAt:=tabP implAt_ok (fnOk_of Tryz.func50 rfl (by decide)) T_mHb101_ok
attribute [go_sem] T_implAt K_implAt
def K_l03At:Con:=⟨[.val ((.row 2 (.int .i64))),.val (.int .i64)],[⟨.int .i64,true⟩],fun x=>inR x.2.1 0 9223372036854775807=true,fun x=>x.1.getD (Int.toNat x.2.1) 0⟩
theorem l03At_ok:PureT Tryz.prog 104 K_l03At:=by
  refine pure_of_body Tryz.func104 rfl ?_
  have hres:Tryz.f104.results.toList=[.tmp 4]:=rfl
  rintro ⟨(xs:List Int),(x:Int),_⟩ hc hL
  simp only[K_l03At,go_sem] at hL
  obtain lxs:=hL
  simp only[K_l03At,St.init,St.initG,Tryz.ntmps104,go_sem] 
  have hx:0≤x:=(inR_iff.1 (show inR x _ _=true from hc)).1
  have hw:IntKind.i64.wrap ((xs.length:Int) - 1)=xs.length - 1:=wrapI (by omega)
  refine oS fun _ hK1=>?_;refine oW T_implAt_ok ?_;simp only[go_sem];refine hK1 _ ?_;refine oS fun _ hK2=>?_;refine oS fun _ hK3=>?_;refine oW T_implAt_ok ?_;simp (maxSteps:=2000000)only[hw,go_sem];repeat (with_reducible refine oA ?_)
  refine hK3 _ ?_;refine oC rfl ?_ ?_
  ·
   intro c0;have hq:xs.length≤x.toNat:=by have:=inR_iff_f.1 c0; omega
   refine oS fun _ hK4=>?_;refine oW T_implAt_ok ?_;simp only[go_sem];refine hK4 _ ?_;refine AWP_ret ?_;simp only[hres,go_sem];first | exact oF | (refine ⟨?_,oF⟩; exact (getD_out hq).symm)
  intro c0;obtain ⟨hq1,hq2⟩:=inR_iff.1 c0
  refine AWP_skip ?_;simp only[go_sem];refine hK2 _ ?_;refine oS fun _ hK5=>?_;refine oW T_implAt_ok ?_;simp (maxSteps:=2000000)only[go_sem];repeat (with_reducible refine oA ?_)
  refine hK5 _ ?_;refine AWP_ret ?_;simp only[hres,go_sem];first | exact oF | exact oFr
def T_l03At:Tab:=fun f=>if f=104 then some (.p K_l03At) else T_implAt f
theorem T_l03At_ok:TabOk Tryz.prog T_l03At:=tabP l03At_ok (fnOk_of Tryz.func104 rfl (by decide)) T_implAt_ok
attribute [go_sem] T_l03At K_l03At
def K_isCount:Con:=⟨[.val (.int .i64)],[⟨.bool,true⟩],fun _=>True,fun x=>inR x.1 0 4000⟩
theorem isCount_ok:PureT Tryz.prog 23 K_isCount:=by
  refine pure_of_body Tryz.func23 rfl ?_
  have hres:Tryz.f23.results.toList=[.tmp 2]:=rfl
  rintro ⟨(x:Int),_⟩ hc hL
  simp only[K_isCount,go_sem] at hL
  simp only[K_isCount,St.init,St.initG,Tryz.ntmps23,go_sem] 
  refine oS fun _ hK1=>?_;refine oW T_l03At_ok ?_;simp only[go_sem];refine hK1 _ ?_;refine oS fun _ hK2=>?_;refine oW T_l03At_ok ?_;simp only[go_sem];repeat (with_reducible refine oA ?_)
  refine hK2 _ ?_;refine AWP_ret ?_;simp only[hres,go_sem];first | exact oF | exact oFr
def T_isCount:Tab:=fun f=>if f=23 then some (.p K_isCount) else T_l03At f
theorem T_isCount_ok:TabOk Tryz.prog T_isCount:=tabP isCount_ok (fnOk_of Tryz.func23 rfl (by decide)) T_l03At_ok
attribute [go_sem] T_isCount K_isCount
def T_l08Signals:Tab:=T_isCount
theorem T_l08Signals_ok:TabOk Tryz.prog T_l08Signals:=T_isCount_ok
attribute [go_sem] T_l08Signals
set_option maxRecDepth 100000
set_option maxHeartbeats 4000000
def T_mHn30:Tab:=fun f=>match T_l08Signals f with
 | some k=>some k
 | none=>T_flat f
theorem T_mHn30_ok:TabOk Tryz.prog T_mHn30:=tabM T_l08Signals_ok T_flat_ok
attribute [go_sem] T_mHn30 T0
def K_implDot:Con:=⟨[.val ((.row 2 (.int .i64))),.val ((.row 2 (.int .i64)))],[⟨.int .i64,true⟩],fun x=>x.1.length≤x.2.1.length∧x.1.length≤1000000,fun x=>dotN x.1 x.2.1 x.1.length⟩
theorem implDot_ok:PureT Tryz.prog 70 K_implDot:=by
  refine pure_of_body Tryz.func70 rfl ?_
  have hres:Tryz.f70.results.toList=[.tmp 4]:=rfl
  rintro ⟨(xs:List Int),(ys:List Int),_⟩ hc hL
  simp only[K_implDot,go_sem] at hL
  simp only[K_implDot,St.init,St.initG,Tryz.ntmps70,go_sem] 
  obtain ⟨hx,hy⟩:=(show xs.length≤ys.length∧xs.length≤1000000 from hc)
  refine oS fun _ hK1=>?_;refine oW T_mHn30_ok ?_;simp only[go_sem];refine hK1 _ ?_;refine oS fun _ hK2=>?_;refine oW T_mHn30_ok ?_;simp only[go_sem];refine hK2 _ ?_;refine oS fun _ hK3=>?_;refine oS fun _ hK4=>?_;refine oW T_mHn30_ok ?_;simp only[go_sem];refine hK4 _ ?_;refine AWP_block ?_;refine AWP_loop_k (ι:={ k:Nat // k≤xs.length }) (fun k=>⟨[zz,.c (.rd [] 2 (.int .i64) (ys)),zz,zz,zz,.c (.sc (.int .i64 (dotN xs ys k.1))),zz,zz,.c (.rd [] 2 (.int .i64) (xs)),.c (.sc (.int .i64 (xs.length))),.c (.sc (.int .i64 (k.1))),zz,zz,zz,zz,zz,zz,zz,zz,zz,zz,zz,zz,zz,zz,zz],[]⟩) (fun k=>xs.length - k.1) ⟨0,by simp⟩ ?_ ?_
  ·
   refine oK ?_;simp (maxSteps:=2000000)only[go_sem];all_goals (first | rfl | ((repeat' refine And.intro ?_ ?_)<;>first | rfl | simp))
  rintro ⟨k,hk⟩ K5 hL5
  refine oS fun _ hK6=>?_;refine oW T_mHn30_ok ?_;simp only[go_sem];refine hK6 _ ?_;refine oS fun _ hK7=>?_;refine oC rfl ?_ ?_
  ·
   intro c0;refine AWP_skip ?_;simp only[go_sem];refine hK7 _ ?_;refine oS fun _ hK8=>?_;refine AWP_block ?_;refine oS fun _ hK9=>?_;refine oW T_mHn30_ok ?_;simp (maxSteps:=2000000)only[go_sem];repeat (with_reducible refine oA ?_)
   refine hK9 _ ?_;refine oW T_mHn30_ok ?_;simp (maxSteps:=2000000)only[w32_add2,go_sem];repeat (with_reducible refine oA ?_)
   refine hK8 _ ?_;refine oW T_mHn30_ok ?_;simp only[go_sem];refine hL5 ⟨k+1,by omega⟩ _ (oK ?_) ?_
   ·
    simp (maxSteps:=2000000)only[go_sem];all_goals ((repeat' refine And.intro ?_ ?_)<;>first | rfl | exact wk (by omega) | (congr 1; done))
   ·
    first | (simp only[]; omega) | omega | (simp; omega)
  intro c0;refine AWP_exit ?_;simp only[go_sem];refine hK3 _ ?_;refine oS fun _ hK10=>?_;refine oW T_mHn30_ok ?_;simp only[go_sem];refine hK10 _ ?_;refine AWP_ret ?_;simp only[hres,go_sem];first | exact oF | (refine ⟨?_,oF⟩; rw [show xs.length=k by omega])
def T_implDot:Tab:=fun f=>if f=70 then some (.p K_implDot) else T_mHn30 f
theorem T_implDot_ok:TabOk Tryz.prog T_implDot:=tabP implDot_ok (fnOk_of Tryz.func70 rfl (by decide)) T_mHn30_ok
attribute [go_sem] T_implDot K_implDot
def K_implTrim:Con:=⟨[.val ((.row 2 (.int .i64)))],[⟨(.row 2 (.int .i64)),true⟩],fun x=>x.1.length≤1000,fun x=>trimL x.1⟩
theorem implTrim_ok:PureT Tryz.prog 37 K_implTrim:=by
  refine pure_of_body Tryz.func37 rfl ?_
  have hres:Tryz.f37.results.toList=[.tmp 2]:=rfl
  rintro ⟨(xs:List Int),_⟩ hc hL
  simp only[K_implTrim,go_sem] at hL
  simp only[K_implTrim,St.init,St.initG,Tryz.ntmps37,go_sem] 
  have hx:xs.length≤1000:=hc
  refine oS fun _ hK1=>?_;refine oW T_implDot_ok ?_;simp only[go_sem];refine hK1 _ ?_;refine oS fun _ hK2=>?_;refine oW T_implDot_ok ?_;simp only[go_sem];refine hK2 _ ?_;refine oS fun _ hK3=>?_;refine AWP_block ?_;refine AWP_loop_k (ι:={ n:Nat // n≤xs.length∧tl xs xs.length=tl xs n }) (fun k=>⟨[.c (.rd [] 2 (.int .i64) (xs)),zz,zz,.c (.sc (.int .i64 (k.1))),zz,zz,zz,zz,zz,zz,zz,zz,zz,zz,zz,zz,zz,zz,zz,zz,zz,zz,zz,zz,zz],[]⟩) (fun k=>k.1) ⟨xs.length,Nat.le_refl _,rfl⟩ ?_ ?_
  ·
   refine oK ?_;simp (maxSteps:=2000000)only[go_sem];all_goals (first | rfl | ((repeat' refine And.intro ?_ ?_)<;>first | rfl | simp))
  rintro ⟨n,hn,ht⟩ K4 hL4
  have hwt:0 < n→(IntKind.i64.wrap ((n:Int) - 1)).toNat=n - 1:=fun h=>by rw [wrapI (by omega)]; omega
  have htl:(List.take n xs).length≤1099511627776:=by rw [List.length_take]; omega
  have hwn:0 < n→IntKind.i64.wrap ((n:Int) - 1)=((n - 1:Nat):Int):=fun h=>by rw [wrapI (by omega)]; omega
  refine oS fun _ hK5=>?_;refine oS fun _ hK6=>?_;have hz:0 < n→((n - 1:Nat):Int).toNat=n - 1:=fun _=>by omega
  refine oW T_implDot_ok ?_;simp (maxSteps:=2000000)only[go_sem];repeat' (with_reducible first | refine oA ?_ | refine And.intro (by first | omega) ?_ | refine oT (fun g2=>?_) (fun g2=>?_) | refine oE (fun g2=>?_) (fun g2=>?_))
  all_goals
   refine hK6 _ ?_;refine AWP_cond rfl ?_ ?_
   ·
    intro c0;try simp only[zA,zB,zC,zD,zE,zF,zG,zH,zI] at c0
    all_goals
     refine AWP_skip ?_;simp only[go_sem];refine hK5 _ ?_;refine AWP_block ?_;refine oW T_implDot_ok ?_;simp only[go_sem];refine hL4 ⟨n - 1,by omega,trim_go ht (by omega) (by first | assumption | (clear hK1 hK2 hK3 hL4 hK5 hK6; simp_all; done) | (have e:=hwt (by omega); clear hK1 hK2 hK3 hL4 hK5 hK6; simp_all; done) | (have e:=hwt (by omega); clear hK1 hK2 hK3 hL4 hK5 hK6; rw [e] at *; simp_all))⟩ _ (oK ?_) ?_
     ·
      simp (maxSteps:=2000000)only[go_sem];all_goals ((repeat' refine And.intro ?_ ?_)<;>first | rfl | (rw [hwn (by omega)]; done) | (rw [wrapI (by omega)]; omega) | (congr 1; done))
     ·
      simp only[]; omega
   ·
    intro c0;try simp only[zA,zB,zC,zD,zE,zF,zG,zH,zI] at c0
    all_goals
     refine AWP_exit ?_;simp only[go_sem];refine hK3 _ ?_;refine oS fun _ hK7=>?_;refine oS fun _ hK8=>?_;refine oW T_implDot_ok ?_;simp only[go_sem];refine hK8 _ ?_;refine AWP_cond rfl ?_ ?_
     ·
      intro c1;try simp only[zA,zB,zC,zD,zE,zF,zG,zH,zI] at c1
      all_goals
       refine oS fun _ hK9=>?_;refine oW T_implDot_ok ?_;simp only[List.nodup_nil,go_sem];repeat (with_reducible refine oA ?_)
       refine hK9 _ ?_;refine AWP_ret ?_;simp only[hres,go_sem]
       first
        | exact oF
        | refine ⟨?_,oF⟩
          have hn0:n=0:=by omega
          clear hK1 hK2 hK3 hL4 hK5 hK6 hK7 hK8 hK9;subst hn0;exact (trim_none ht).symm
     ·
      intro c1;try simp only[zA,zB,zC,zD,zE,zF,zG,zH,zI] at c1
      all_goals
       refine AWP_skip ?_;simp only[go_sem];refine hK7 _ ?_;refine oS fun _ hK10=>?_;refine oW T_implDot_ok ?_;simp (maxSteps:=2000000)only[go_sem];repeat (with_reducible first | refine oA ?_ | refine And.intro (by first | exact htl | omega) ?_)
       refine hK10 _ ?_;refine AWP_ret ?_;simp only[hres,go_sem]
       first
        | exact oF
        | refine ⟨?_,oF⟩
          refine (trim_end ht hn (by omega) ?_).symm
          first | (left; omega) | (right; assumption) | (right; have e:=hwn (by omega); rw [e,Int.toNat_natCast] at c0; exact c0) | (right; clear hK1 hK2 hK3 hL4 hK5 hK6 hK7 hK8 hK10; simp_all; done)
def T_implTrim:Tab:=fun f=>if f=37 then some (.p K_implTrim) else T_implDot f
theorem T_implTrim_ok:TabOk Tryz.prog T_implTrim:=tabP implTrim_ok (fnOk_of Tryz.func37 rfl (by decide)) T_implDot_ok
attribute [go_sem] T_implTrim K_implTrim
def K_convolve:Con:=⟨[.val ((.row 2 (.int .i64))),.val ((.row 2 (.int .i64))),.val (.int .i64)],[⟨(.row 2 (.int .i64)),true⟩],fun x=>inR x.2.2.1 0 1000=true∧x.1.length≤1000,fun x=>convN x.1 x.2.1 (Int.toNat x.2.2.1)⟩
theorem convolve_ok:PureT Tryz.prog 38 K_convolve:=by
  refine pure_of_body Tryz.func38 rfl ?_
  have hres:Tryz.f38.results.toList=[.tmp 6]:=rfl
  rintro ⟨(xs:List Int),(ys:List Int),(nn:Int),_⟩ hc hL
  simp only[K_convolve,go_sem] at hL
  simp only[K_convolve,St.init,St.initG,Tryz.ntmps38,go_sem] 
  obtain ⟨hnr,hx⟩:=(show inR nn 0 1000=true∧xs.length≤1000 from hc)
  obtain ⟨hn1,hn2⟩:=inR_iff.1 hnr
  have hzr:inR nn 0 1099511627776=true:=inR_t (by omega) (by omega)
  have hnn:((nn.toNat:Nat):Int)=nn:=Int.toNat_of_nonneg hn1
  refine oS fun _ hK1=>?_;refine oW T_implTrim_ok ?_;simp only[go_sem];refine hK1 _ ?_;refine oS fun _ hK2=>?_;refine oW T_implTrim_ok ?_;simp only[go_sem];repeat (with_reducible first | refine oA ?_ | refine And.intro (by first | exact hzr) ?_)
  refine hK2 _ ?_;refine oS fun _ hK3=>?_;refine oS fun _ hK4=>?_;refine oW T_implTrim_ok ?_;simp only[go_sem];refine hK4 _ ?_;refine AWP_block ?_;refine AWP_loop_k (ι:={ i:Nat // i≤nn.toNat }) (fun k=>⟨[.c (.rd [] 2 (.int .i64) (xs)),.c (.rd [] 2 (.int .i64) (ys)),zz,zz,zz,zz,zz,.c (.ow 9007),zz,zz,zz,zz,zz,.c (.sc (.int .i64 ((nn.toNat:Nat)))),.c (.sc (.int .i64 (k.1))),zz,zz,zz,zz,zz,zz,zz,zz,zz,zz,zz,zz,zz,zz,zz,zz,zz,zz,zz,zz,zz,zz,zz,zz,zz,zz,zz,zz,zz,zz,zz,zz,zz,zz],[(9007,.row 2 (.int .i64) (cvP xs ys nn.toNat k.1 0) [])]⟩) (fun k=>nn.toNat - k.1) ⟨0,by simp⟩ ?_ ?_
  ·
   refine oK ?_;simp (maxSteps:=2000000)only[go_sem];all_goals ((repeat' refine And.intro ?_ ?_)<;>first | rfl | exact (cvP_0 _ _ _).symm | (congr 1; exact (cvP_0 _ _ _).symm) | (congr 1; done) | (simp; done))
  rintro ⟨i,hi⟩ K5 hL5
  refine oS fun _ hK6=>?_;refine oW T_implTrim_ok ?_;simp only[go_sem];refine hK6 _ ?_;refine oS fun _ hK7=>?_;refine oC rfl ?_ ?_
  ·
   intro c0;refine AWP_skip ?_;simp only[go_sem];refine hK7 _ ?_;refine oS fun _ hK8=>?_;refine AWP_block ?_;refine oS fun _ hK9=>?_;refine oW T_implTrim_ok ?_;simp only[go_sem];refine hK9 _ ?_;refine oS fun _ hK10=>?_;refine oW T_implTrim_ok ?_;simp only[go_sem];refine hK10 _ ?_;refine AWP_block ?_;refine AWP_loop_k (ι:={ j:Nat // j≤i+1∧j≤xs.length }) (fun k'=>⟨[.c (.rd [] 2 (.int .i64) (xs)),.c (.rd [] 2 (.int .i64) (ys)),zz,zz,zz,zz,zz,.c (.ow 9007),.c (.sc (.int .i64 (i))),.c (.sc (.int .i64 (k'.1))),zz,zz,zz,.c (.sc (.int .i64 ((nn.toNat:Nat)))),.c (.sc (.int .i64 (i))),zz,zz,zz,zz,zz,zz,zz,zz,zz,zz,zz,zz,zz,zz,zz,zz,zz,zz,zz,zz,zz,zz,zz,zz,zz,zz,zz,zz,zz,zz,zz,zz,zz,zz],[(9007,.row 2 (.int .i64) (cvP xs ys nn.toNat i k'.1) [])]⟩) (fun k'=>xs.length - k'.1) ⟨0,by omega,by omega⟩ ?_ ?_
   ·
    refine oK ?_;simp (maxSteps:=2000000)only[go_sem];all_goals ((repeat' refine And.intro ?_ ?_)<;>first | rfl | (congr 1; done) | (simp; done))
   rintro ⟨j,hj,hj2⟩ K11 hL11
   have hvl:=cvP_len xs ys nn.toNat i j
   refine oS fun _ hK12=>?_;refine oS fun _ hK13=>?_;refine oW T_implTrim_ok ?_;simp (maxSteps:=2000000)only[go_sem];repeat' (with_reducible first | refine oA ?_ | refine oT (fun g6=>?_) (fun g6=>?_) | refine oE (fun g6=>?_) (fun g6=>?_))
   all_goals
    refine hK13 _ ?_;refine AWP_cond rfl ?_ ?_
    ·
     intro c1;try simp only[zA,zB,zC,zD,zE,zF,zG,zH,zI] at c1
     all_goals
      have hji:j≤i:=by omega
      have hwj:IntKind.i64.wrap ((i:Int) - (j:Int))=((i - j:Nat):Int):=by rw [wrapI (by omega)]; omega
      have hjr:inR ((i - j:Nat):Int) 0 9223372036854775807=true:=inR_t (by omega) (by omega)
      have hnx:=cvP_next (p:=xs) (a:=ys) (n:=nn.toNat) (i:=i) (k:=j) (by omega) hji
      refine AWP_skip ?_;simp only[go_sem];refine hK12 _ ?_;refine oS fun _ hK14=>?_;refine AWP_block ?_
      refine oR T_implTrim_ok
        [[],[],[],[],[2,3],[2,3,4],[],[],[6,7],[6,7,8],[],[],[],[11,12],[10,11,12,13],[6,7,8,9,10,11,12,13,14],[2,3,4,5,6,7,8,9,10,11,12,13,14,15],[2,3,4,5,6,7,8,9,10,11,12,13,14,15,16],[0,1,2,3,4,5,6,7,8,9,10,11,12,13,14,15,16,17],[0,1,2,3,4,5,6,7,8,9,10,11,12,13,14,15,16,17,18]]
        [[],[],[],[],[],[],[],[],[],[],[],[],[],[],[],[],[],[],[],[]]
        [[],[],[],[],[],[],[],[],[],[],[],[],[],[],[],[],[],[],[],[]] (by kernel_rfl) (by kernel_rfl) (adrawR_ok (acc:=[]) ?_)
      simp (maxSteps:=2000000)only[hwj,hvl,w32_add2,Int.toNat_natCast,go_sem];repeat (with_reducible first | refine oD ?_ | refine And.intro (by first | exact hjr | omega) ?_)
      refine hK14 _ ?_;refine oW T_implTrim_ok ?_;simp only[go_sem];refine hL11 ⟨j+1,by omega,by omega⟩ _ (oK ?_) ?_
      ·
       simp (maxSteps:=2000000)only[go_sem];all_goals ((repeat' refine And.intro ?_ ?_)<;>first | rfl | exact wk (by omega) | exact hnx | (congr 1; exact hnx) | (congr 1; done))
      ·
       first | (simp only[]; omega) | omega | (simp; omega)
    ·
     intro c1;try simp only[zA,zB,zC,zD,zE,zF,zG,zH,zI] at c1
     all_goals
      have hqe:cvP xs ys nn.toNat i j=cvP xs ys nn.toNat (i+1) 0:=cvP_end (by omega)
      refine AWP_exit ?_;simp only[go_sem];refine hK8 _ ?_;refine oW T_implTrim_ok ?_;simp only[go_sem];refine hL5 ⟨i+1,by omega⟩ _ (oK ?_) ?_
      ·
       simp (maxSteps:=2000000)only[go_sem];all_goals ((repeat' refine And.intro ?_ ?_)<;>first | rfl | exact wk (by omega) | exact hqe | (congr 1; exact hqe) | (congr 1; done))
      ·
       first | (simp only[]; omega) | omega | (simp; omega)
  intro c0;have hie:cvP xs ys nn.toNat i 0=convN xs ys nn.toNat:=cvP_all (by omega)
  refine AWP_exit ?_;simp only[go_sem];refine hK3 _ ?_;refine oS fun _ hK15=>?_;refine oW T_implTrim_ok ?_;simp only[go_sem];refine hK15 _ ?_;refine AWP_ret ?_;simp only[hres,go_sem];first | exact oF | (refine ⟨?_,oF⟩; exact hie)
def T_convolve:Tab:=fun f=>if f=38 then some (.p K_convolve) else T_implTrim f
theorem T_convolve_ok:TabOk Tryz.prog T_convolve:=tabP convolve_ok (fnOk_of Tryz.func38 rfl (by decide)) T_implTrim_ok
attribute [go_sem] T_convolve K_convolve
end Go.Proofs.YtgmabhkmiokiaaaGreat
