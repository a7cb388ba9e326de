/-
  Texts of this claim, joined (part 48). No condition beyond those of the theorems.
-/
import Derived.Test.YtflaacndokbddaaGreatVc47
import Derived.Test.YtflaacndokbddaaGreatVc09
import Derived.Test.YtflaacndokbddaaGreatVc30
namespace Go.Proofs.YtflaacndokbddaaGreat
open Go.RowKit
set_option linter.unusedSimpArgs false
set_option linter.unusedVariables false
set_option maxRecDepth 100000
set_option maxHeartbeats 8000000
def T_mHn90:Tab:=fun f=>match T_implTrnOf f with
 | some k=>some k
 | none=>T_l12Alike f
theorem T_mHn90_ok:TabOk Tryz.prog T_mHn90:=tabM T_implTrnOf_ok T_l12Alike_ok
attribute [go_sem] T_mHn90 T0
def K_isPoly:Con:=⟨[.val ((.row 2 (.int .i64)))],[⟨.bool,true⟩],fun _=>True,fun x=>polyB x.1⟩
theorem isPoly_ok:PureT Tryz.prog 237 K_isPoly:=by
  refine pure_of_body Tryz.func237 rfl ?_
  have hres:Tryz.f237.results.toList=[.tmp 2]:=rfl
  rintro ⟨(xs:List Int),_⟩ hc hL
  simp only[K_isPoly,go_sem] at hL
  obtain lxs:=hL
  simp only[K_isPoly,St.init,St.initG,Tryz.ntmps237,go_sem] 
  have hwx:IntKind.i64.wrap ((xs.length:Int) - 1)=(xs.length:Int) - 1:=wrapI (by omega)
  have hwt:((xs.length:Int) - 1).toNat=xs.length - 1:=by omega
  refine oS fun _ hK1=>?_
  refine oW T_mHn90_ok ?_
  simp only[go_sem]
  refine hK1 _ ?_
  refine oS fun _ hK2=>?_
  refine oW T_mHn90_ok ?_
  simp only[go_sem]
  refine hK2 _ ?_
  refine oS fun _ hK3=>?_
  refine oW T_mHn90_ok ?_
  simp (maxSteps:=2000000)only[hwx,hwt,go_sem]
  repeat' (with_reducible first | refine oA ?_ | refine And.intro (by first | omega) ?_ | refine oT (fun g2=>?_) (fun g2=>?_) | refine oE (fun g2=>?_) (fun g2=>?_))
  all_goals
   refine hK3 _ ?_
   refine AWP_ret ?_
   simp only[hres,go_sem]
   first
    | exact oF
    | refine ⟨?_,oF⟩
      clear hK1 hK2 hK3
      unfold polyB
      have z1:((xs.length:Int)≥1)↔1≤xs.length:=by omega
      have z2:((xs.length:Int)≤65)↔xs.length≤65:=by omega
      have z3:((xs.length:Int)=1)↔xs.length=1:=by omega
      try simp only[z1,z2,z3] at *
      clear hwx hwt
      first | rfl | (simp_all; done) | (cases hs:smps xs<;>simp_all; done) | (by_cases q1:xs.length=1<;>cases hs:smps xs<;>simp_all; done) | (clear hL hc; by_cases q0:1≤xs.length<;>by_cases q2:xs.length≤65<;>by_cases q1:xs.length=1<;>cases hs:smps xs<;>simp [*] at *<;>done) | (by_cases q0:1≤xs.length<;>by_cases q2:xs.length≤65<;>by_cases q1:xs.length=1<;>cases hs:smps xs<;>simp_all<;>omega)
def T_isPoly:Tab:=fun f=>if f=237 then some (.p K_isPoly) else T_mHn90 f
theorem T_isPoly_ok:TabOk Tryz.prog T_isPoly:=tabP isPoly_ok (fnOk_of Tryz.func237 rfl (by decide)) T_mHn90_ok
attribute [go_sem] T_isPoly K_isPoly
def K_arePolys:Con:=⟨[.val ((.row 26 (.row 2 (.int .i64))))],[⟨.bool,true⟩],fun _=>True,fun x=>x.1.all polyB⟩
theorem arePolys_ok:PureT Tryz.prog 222 K_arePolys:=by
  refine pure_of_body Tryz.func222 rfl ?_
  have hres:Tryz.f222.results.toList=[.tmp 2]:=rfl
  rintro ⟨(aa:List (List Int)),_⟩ hc hL
  simp only[K_arePolys,go_sem] at hL
  obtain ⟨laa,laa2⟩:=hL
  simp only[K_arePolys,St.init,St.initG,Tryz.ntmps222,go_sem] 
  refine oS fun _ hK1=>?_
  refine oW T_isPoly_ok ?_
  simp only[go_sem]
  refine hK1 _ ?_
  refine oS fun _ hK2=>?_
  refine oS fun _ hK3=>?_
  refine oW T_isPoly_ok ?_
  simp only[go_sem]
  refine hK3 _ ?_
  refine AWP_block ?_
  refine AWP_loop_k (ι:={ k:Nat // k≤aa.length∧(aa.take k).all polyB=true }) (fun k=>⟨[zz,zz,zz,zz,zz,.c (.rd [] 26 (.row 2 (.int .i64)) (aa)),.c (.sc (.int .i64 (aa.length))),.c (.sc (.int .i64 (k.1))),zz,zz,zz,zz,zz,zz,zz],[]⟩) (fun k=>aa.length - k.1) ⟨0,by simp⟩ ?_ ?_
  ·
   refine oK ?_
   simp (maxSteps:=2000000)only[go_sem]
   all_goals (first | rfl | ((repeat' refine And.intro ?_ ?_)<;>first | rfl | simp))
  rintro ⟨k,hk,hp⟩ K4 hL4
  refine oS fun _ hK5=>?_
  refine oW T_isPoly_ok ?_
  simp only[go_sem]
  refine hK5 _ ?_
  refine oS fun _ hK6=>?_
  refine oC rfl ?_ ?_
  ·
   intro c0
   refine AWP_skip ?_
   simp only[go_sem]
   refine hK6 _ ?_
   refine oS fun _ hK7=>?_
   refine AWP_block ?_
   refine oS fun _ hK8=>?_
   refine oW T_isPoly_ok ?_
   simp only[go_sem]
   repeat (with_reducible refine oA ?_)
   refine hK8 _ ?_
   refine oS fun _ hK9=>?_
   refine oW T_isPoly_ok ?_
   simp only[go_sem]
   repeat (with_reducible refine oA ?_)
   refine hK9 _ ?_
   refine oC rfl ?_ ?_
   ·
    intro c1
    refine oS fun _ hK10=>?_
    refine oW T_isPoly_ok ?_
    simp only[go_sem]
    refine hK10 _ ?_
    refine AWP_ret ?_
    simp only[hres,go_sem]
    first | exact oF | (refine ⟨?_,oF⟩; exact (all_stop (k:=k) (d:=[]) (by omega) (by first | assumption | (clear hp; clear hK1 hK2 hK3 hL4 hK5 hK6 hK7 hK8 hK9 hK10; simp_all))).symm)
   intro c1
   refine AWP_skip ?_
   simp only[go_sem]
   refine hK7 _ ?_
   refine oW T_isPoly_ok ?_
   simp only[go_sem]
   refine hL4 ⟨k+1,by omega,all_next (d:=[]) (by omega) hp (by first | assumption | (clear hK1 hK2 hK3 hL4 hK5 hK6 hK7 hK8 hK9; simp_all))⟩ _ (oK ?_) ?_
   ·
    simp (maxSteps:=2000000)only[go_sem]
    first | rfl | exact wk (by omega)
   ·
    first | (simp only[]; omega) | omega | (simp; omega)
  intro c0
  refine AWP_exit ?_
  simp only[go_sem]
  refine hK2 _ ?_
  refine oS fun _ hK11=>?_
  refine oW T_isPoly_ok ?_
  simp only[go_sem]
  refine hK11 _ ?_
  refine AWP_ret ?_
  simp only[hres,go_sem]
  first | exact oF | (refine ⟨?_,oF⟩; exact (all_done hp (by omega)).symm)
def T_arePolys:Tab:=fun f=>if f=222 then some (.p K_arePolys) else T_isPoly f
theorem T_arePolys_ok:TabOk Tryz.prog T_arePolys:=tabP arePolys_ok (fnOk_of Tryz.func222 rfl (by decide)) T_isPoly_ok
attribute [go_sem] T_arePolys K_arePolys
def K_isTrn:Con:=⟨[.val ((.prod (.row 2 (.int .i64)) (.row 2 (.int .i64))))],[⟨.bool,true⟩],fun x=>1≤x.1.2.length,fun x=>trB x.1⟩
theorem isTrn_ok:PureT Tryz.prog 209 K_isTrn:=by
  refine pure_of_body Tryz.func209 rfl ?_
  have hres:Tryz.f209.results.toList=[.tmp 2]:=rfl
  rintro ⟨⟨(xa:List Int),(xb:List Int)⟩,_⟩ hc hL
  simp only[K_isTrn,go_sem] at hL
  simp only[K_isTrn,St.init,St.initG,Tryz.ntmps209,go_sem] 
  have hc1:1≤xb.length:=hc
  refine oS fun _ hK1=>?_
  refine oW T_arePolys_ok ?_
  simp only[go_sem]
  refine hK1 _ ?_
  refine oS fun _ hK2=>?_
  refine oW T_arePolys_ok ?_
  simp (maxSteps:=2000000)only[List.nodup_cons,List.nodup_nil,List.not_mem_nil,not_false_eq_true,go_sem]
  repeat' (with_reducible first | refine oA ?_ | refine And.intro (by first | omega) ?_ | refine oT (fun g1=>?_) (fun g1=>?_) | refine oE (fun g1=>?_) (fun g1=>?_))
  all_goals
   refine hK2 _ ?_
   refine AWP_ret ?_
   simp only[hres,go_sem]
   first
    | exact oF
    | refine ⟨?_,oF⟩
      clear hK1 hK2
      unfold trB
      first | rfl | (cases ha:polyB xa<;>cases hb:polyB xb<;>simp_all; done)
def T_isTrn:Tab:=fun f=>if f=209 then some (.p K_isTrn) else T_arePolys f
theorem T_isTrn_ok:TabOk Tryz.prog T_isTrn:=tabP isTrn_ok (fnOk_of Tryz.func209 rfl (by decide)) T_arePolys_ok
attribute [go_sem] T_isTrn K_isTrn
def K_areTrn:Con:=⟨[.val ((.row 69 (.prod (.row 2 (.int .i64)) (.row 2 (.int .i64)))))],[⟨.bool,true⟩],fun x=>∀ k:Nat,k < x.1.length→1≤(x.1.getD k (([],[]):TrD)).2.length,fun x=>x.1.all trB⟩
theorem areTrn_ok:PureT Tryz.prog 161 K_areTrn:=by
  refine pure_of_body Tryz.func161 rfl ?_
  have hres:Tryz.f161.results.toList=[.tmp 2]:=rfl
  rintro ⟨(zs:List TrD),_⟩ hc hL
  simp only[K_areTrn,go_sem] at hL
  obtain ⟨lzs,lzs2⟩:=hL
  simp only[K_areTrn,St.init,St.initG,Tryz.ntmps161,go_sem] 
  have hc1 :∀k:Nat,k < zs.length→1≤(zs.getD k (([],[]):TrD)).2.length:=hc
  refine oS fun _ hK1=>?_
  refine oW T_isTrn_ok ?_
  simp only[go_sem]
  refine hK1 _ ?_
  refine oS fun _ hK2=>?_
  refine oS fun _ hK3=>?_
  refine oW T_isTrn_ok ?_
  simp only[go_sem]
  refine hK3 _ ?_
  refine AWP_block ?_
  refine AWP_loop_k (ι:={ k:Nat // k≤zs.length∧(zs.take k).all trB=true }) (fun k=>⟨[zz,zz,zz,zz,zz,.c (.rd [] 69 ((.prod (.row 2 (.int .i64)) (.row 2 (.int .i64)))) (zs)),.c (.sc (.int .i64 (zs.length))),.c (.sc (.int .i64 (k.1))),zz,zz,zz,zz,zz,zz,zz],[]⟩) (fun k=>zs.length - k.1) ⟨0,by simp⟩ ?_ ?_
  ·
   refine oK ?_
   simp (maxSteps:=2000000)only[go_sem]
   all_goals (first | rfl | ((repeat' refine And.intro ?_ ?_)<;>first | rfl | simp))
  rintro ⟨k,hk,hp⟩ K4 hL4
  refine oS fun _ hK5=>?_
  refine oW T_isTrn_ok ?_
  simp only[go_sem]
  refine hK5 _ ?_
  refine oS fun _ hK6=>?_
  refine oC rfl ?_ ?_
  ·
   intro c0
   refine AWP_skip ?_
   simp only[go_sem]
   refine hK6 _ ?_
   refine oS fun _ hK7=>?_
   refine AWP_block ?_
   refine oS fun _ hK8=>?_
   refine oW T_isTrn_ok ?_
   simp only[go_sem]
   repeat (with_reducible refine oA ?_)
   refine hK8 _ ?_
   refine oS fun _ hK9=>?_
   refine oW T_isTrn_ok ?_
   simp only[List.nodup_cons,List.nodup_nil,List.not_mem_nil,not_false_eq_true,go_sem]
   repeat (with_reducible first | refine oA ?_ | refine And.intro (by first | exact hc1 k (by omega)) ?_)
   refine hK9 _ ?_
   refine oC rfl ?_ ?_
   ·
    intro c1
    refine oS fun _ hK10=>?_
    refine oW T_isTrn_ok ?_
    simp only[go_sem]
    refine hK10 _ ?_
    refine AWP_ret ?_
    simp only[hres,go_sem]
    first | exact oF | (refine ⟨?_,oF⟩; exact (all_stop (k:=k) (d:=(([],[]):TrD)) (by omega) (by first | assumption | (clear hp; clear hK1 hK2 hK3 hL4 hK5 hK6 hK7 hK8 hK9 hK10; simp_all))).symm)
   intro c1
   refine AWP_skip ?_
   simp only[go_sem]
   refine hK7 _ ?_
   refine oW T_isTrn_ok ?_
   simp only[go_sem]
   refine hL4 ⟨k+1,by omega,all_next (d:=(([],[]):TrD)) (by omega) hp (by first | assumption | (clear hK1 hK2 hK3 hL4 hK5 hK6 hK7 hK8 hK9; simp_all))⟩ _ (oK ?_) ?_
   ·
    simp (maxSteps:=2000000)only[go_sem]
    first | rfl | exact wk (by omega)
   ·
    first | (simp only[]; omega) | omega | (simp; omega)
  intro c0
  refine AWP_exit ?_
  simp only[go_sem]
  refine hK2 _ ?_
  refine oS fun _ hK11=>?_
  refine oW T_isTrn_ok ?_
  simp only[go_sem]
  refine hK11 _ ?_
  refine AWP_ret ?_
  simp only[hres,go_sem]
  first | exact oF | (refine ⟨?_,oF⟩; exact (all_done hp (by omega)).symm)
def T_areTrn:Tab:=fun f=>if f=161 then some (.p K_areTrn) else T_isTrn f
theorem T_areTrn_ok:TabOk Tryz.prog T_areTrn:=tabP areTrn_ok (fnOk_of Tryz.func161 rfl (by decide)) T_isTrn_ok
attribute [go_sem] T_areTrn K_areTrn
def K_mulPoly:Con:=⟨[.val ((.row 2 (.int .i64))),.val ((.row 2 (.int .i64)))],[⟨(.row 2 (.int .i64)),true⟩],fun x=>x.1.length≤400∧x.2.1.length≤400,fun x=>prodL x.1 x.2.1⟩
theorem mulPoly_ok:PureT Tryz.prog 162 K_mulPoly:=by
  refine pure_of_body Tryz.func162 rfl ?_
  have hres:Tryz.f162.results.toList=[.tmp 4]:=rfl
  rintro ⟨(xs:List Int),(ys:List Int),_⟩ hc hL
  simp only[K_mulPoly,go_sem] at hL
  simp only[K_mulPoly,St.init,St.initG,Tryz.ntmps162,go_sem] 
  obtain ⟨hx,hy⟩:=(show xs.length≤400∧ys.length≤400 from hc)
  have hwN:IntKind.i64.wrap ((xs.length:Int)+(ys.length:Int))=(xs.length:Int)+(ys.length:Int):=wrapI (by omega)
  have htN:Int.toNat ((xs.length:Int)+(ys.length:Int))=(xs.length+ys.length):=by omega
  have hzr:inR ((xs.length:Int)+(ys.length:Int)) 0 1099511627776=true:=inR_t (by omega) (by omega)
  refine oS fun _ hK1=>?_
  refine oW T_areTrn_ok ?_
  simp only[go_sem]
  refine hK1 _ ?_
  refine oS fun _ hK2=>?_
  refine oW T_areTrn_ok ?_
  simp (maxSteps:=2000000)only[hwN,htN,go_sem]
  repeat (with_reducible first | refine oA ?_ | refine And.intro (by first | exact hzr) ?_)
  refine hK2 _ ?_
  refine oS fun _ hK3=>?_
  refine oS fun _ hK4=>?_
  refine oW T_areTrn_ok ?_
  simp only[go_sem]
  refine hK4 _ ?_
  refine AWP_block ?_
  refine AWP_loop_k (ι:={ i:Nat // i≤xs.length }) (fun k=>⟨[zz,.c (.rd [] 2 (.int .i64) (ys)),zz,zz,zz,.c (.ow 9005),zz,zz,zz,zz,zz,zz,zz,zz,zz,zz,.c (.rd [] 2 (.int .i64) (xs)),.c (.sc (.int .i64 (xs.length))),.c (.sc (.int .i64 (k.1))),zz,zz,zz,zz,zz,zz,zz,zz,zz,zz,zz,zz,zz,zz,zz,zz,zz,zz,zz,zz,zz,zz,zz,zz,zz,zz,zz,zz,zz,zz,zz],[(9005,.row 2 (.int .i64) (mlP xs ys (xs.length+ys.length) k.1 0) [])]⟩) (fun k=>xs.length - k.1) ⟨0,by simp⟩ ?_ ?_
  ·
   refine oK ?_
   simp (maxSteps:=2000000)only[go_sem]
   all_goals ((repeat' refine And.intro ?_ ?_)<;>first | rfl | exact (mlP_0 _ _ _).symm | (congr 1; exact (mlP_0 _ _ _).symm) | (congr 1; done) | (simp; done))
  rintro ⟨i,hi⟩ K5 hL5
  refine oS fun _ hK6=>?_
  refine oW T_areTrn_ok ?_
  simp only[go_sem]
  refine hK6 _ ?_
  refine oS fun _ hK7=>?_
  refine oC rfl ?_ ?_
  ·
   intro c0
   refine AWP_skip ?_
   simp only[go_sem]
   refine hK7 _ ?_
   refine oS fun _ hK8=>?_
   refine AWP_block ?_
   refine oS fun _ hK9=>?_
   refine oW T_areTrn_ok ?_
   simp (maxSteps:=2000000)only[go_sem]
   repeat (with_reducible refine oA ?_)
   refine hK9 _ ?_
   refine oS fun _ hK10=>?_
   refine oW T_areTrn_ok ?_
   simp only[go_sem]
   refine hK10 _ ?_
   refine AWP_block ?_
   refine AWP_loop_k (ι:={ j:Nat // j≤ys.length }) (fun k'=>⟨[zz,.c (.rd [] 2 (.int .i64) (ys)),zz,zz,zz,.c (.ow 9005),.c (.sc (.int .i64 (i))),.c (.sc (.int .i64 (xs.getD i 0))),zz,zz,zz,zz,zz,zz,zz,zz,.c (.rd [] 2 (.int .i64) (xs)),.c (.sc (.int .i64 (xs.length))),.c (.sc (.int .i64 (i))),zz,zz,zz,zz,.c (.rd [] 2 (.int .i64) (ys)),.c (.sc (.int .i64 (ys.length))),.c (.sc (.int .i64 (k'.1))),zz,zz,zz,zz,zz,zz,zz,zz,zz,zz,zz,zz,zz,zz,zz,zz,zz,zz,zz,zz,zz,zz,zz,zz],[(9005,.row 2 (.int .i64) (mlP xs ys (xs.length+ys.length) i k'.1) [])]⟩) (fun k'=>ys.length - k'.1) ⟨0,by simp⟩ ?_ ?_
   ·
    refine oK ?_
    simp (maxSteps:=2000000)only[go_sem]
    all_goals ((repeat' refine And.intro ?_ ?_)<;>first | rfl | (congr 1; done) | (simp; done))
   rintro ⟨j,hj⟩ K11 hL11
   have hml:=mlP_len xs ys (xs.length+ys.length) i j
   refine oS fun _ hK12=>?_
   refine oW T_areTrn_ok ?_
   simp only[go_sem]
   refine hK12 _ ?_
   refine oS fun _ hK13=>?_
   refine oC rfl ?_ ?_
   ·
    intro c1
    have hwi:IntKind.i64.wrap ((i:Int)+(j:Int))=((i+j:Nat):Int):=by rw [wrapI (by omega)]; omega
    have hnx:=mlP_next (a:=xs) (b:=ys) (N:=(xs.length+ys.length)) (i:=i) (k:=j) (by omega)
    refine AWP_skip ?_
    simp only[go_sem]
    refine hK13 _ ?_
    refine oS fun _ hK14=>?_
    refine AWP_block ?_
    refine oS fun _ hK15=>?_
    refine oW T_areTrn_ok ?_
    simp (maxSteps:=2000000)only[go_sem]
    repeat (with_reducible refine oA ?_)
    refine hK15 _ ?_
    refine oW T_areTrn_ok ?_
    simp (maxSteps:=2000000)only[hml,hwi,w32_add2,Int.toNat_natCast,go_sem]
    repeat (with_reducible first | refine oA ?_ | refine And.intro (by first | omega) ?_)
    refine hK14 _ ?_
    refine oW T_areTrn_ok ?_
    simp only[go_sem]
    refine hL11 ⟨j+1,by omega⟩ _ (oK ?_) ?_
    ·
     simp (maxSteps:=2000000)only[go_sem]
     all_goals ((repeat' refine And.intro ?_ ?_)<;>first | rfl | exact wk (by omega) | exact hnx | (congr 1; exact hnx) | (congr 1; done))
    ·
     first | (simp only[]; omega) | omega | (simp; omega)
   intro c1
   have hje:ys.length≤j:=by omega
   have hqe:mlP xs ys (xs.length+ys.length) i j=mlP xs ys (xs.length+ys.length) (i+1) 0:=mlP_end hje
   refine AWP_exit ?_
   simp only[go_sem]
   refine hK8 _ ?_
   refine oW T_areTrn_ok ?_
   simp only[go_sem]
   refine hL5 ⟨i+1,by omega⟩ _ (oK ?_) ?_
   ·
    simp (maxSteps:=2000000)only[go_sem]
    all_goals ((repeat' refine And.intro ?_ ?_)<;>first | rfl | exact wk (by omega) | exact hqe | (congr 1; exact hqe) | (congr 1; done))
   ·
    first | (simp only[]; omega) | omega | (simp; omega)
  intro c0
  have hie:xs.length≤i:=by omega
  have hfin:mlP xs ys (xs.length+ys.length) i 0=convN xs ys (xs.length+ys.length):=mlP_all hie
  have hlM:(mlP xs ys (xs.length+ys.length) i 0).length≤1000:=by rw [mlP_len]; omega
  refine AWP_exit ?_
  simp only[go_sem]
  refine hK3 _ ?_
  refine oS fun _ hK16=>?_
  refine oW T_areTrn_ok ?_
  simp only[go_sem]
  repeat (with_reducible first | refine oA ?_ | refine And.intro (by first | exact hlM) ?_)
  refine hK16 _ ?_
  refine AWP_ret ?_
  simp only[hres,go_sem]
  first
   | exact oF
   | refine ⟨?_,oF⟩
     rw [hfin]
     first | done | rfl
def T_mulPoly:Tab:=fun f=>if f=162 then some (.p K_mulPoly) else T_areTrn f
theorem T_mulPoly_ok:TabOk Tryz.prog T_mulPoly:=tabP mulPoly_ok (fnOk_of Tryz.func162 rfl (by decide)) T_areTrn_ok
attribute [go_sem] T_mulPoly K_mulPoly
def K_eqTrns:Con:=⟨[.val ((.prod (.row 2 (.int .i64)) (.row 2 (.int .i64)))),.val ((.prod (.row 2 (.int .i64)) (.row 2 (.int .i64))))],[⟨.bool,true⟩],fun x=>(trB x.1=true∧trB x.2.1=true),fun x=>eqTrB x.1 x.2.1⟩
theorem eqTrns_ok:PureT Tryz.prog 98 K_eqTrns:=by
  refine pure_of_body Tryz.func98 rfl ?_
  have hres:Tryz.f98.results.toList=[.tmp 4]:=rfl
  rintro ⟨⟨(xa:List Int),(xb:List Int)⟩,⟨(xa2:List Int),(xb2:List Int)⟩,_⟩ hc hL
  simp only[K_eqTrns,go_sem] at hL
  simp only[K_eqTrns,St.init,St.initG,Tryz.ntmps98,go_sem] 
  obtain ⟨ht1,ht2⟩:=(show trB (xa,xb)=true∧trB (xa2,xb2)=true from hc)
  obtain ⟨⟨_,h1,_⟩,⟨h2a,h2,_⟩,_⟩:=trB_len ht1
  obtain ⟨⟨_,h3,_⟩,⟨h4a,h4,_⟩,_⟩:=trB_len ht2
  have h1:xa.length≤65:=h1
  have h2:xb.length≤65:=h2
  have h3:xa2.length≤65:=h3
  have h4:xb2.length≤65:=h4
  have h2a:1≤xb.length:=h2a
  have h4a:1≤xb2.length:=h4a
  have hm1:xa.length≤400∧xb2.length≤400:=⟨by omega,by omega⟩
  have hm2:xa2.length≤400∧xb.length≤400:=⟨by omega,by omega⟩
  have hal:[(xa,xb),(xa2,xb2)].all trB=true:=by simp only[List.all_cons,List.all_nil,ht1,ht2,Bool.and_true]
  have har :∀k:Nat,k < [(xa,xb),(xa2,xb2)].length→1≤([(xa,xb),(xa2,xb2)].getD k (([],[]):TrD)).2.length:=fun k hk=>by match k,hk with | 0,_=>exact h2a | 1,_=>exact h4a
  have har2 :∀k:Nat,k < 2→1≤([(xa,xb),(xa2,xb2)].getD k (([],[]):TrD)).2.length:=har
  refine oS fun _ hK1=>?_
  refine oW T_mulPoly_ok ?_
  simp only[go_sem]
  refine hK1 _ ?_
  refine oS fun _ hK2=>?_
  refine oR T_mulPoly_ok
    [[],[],[0,1],[0,1,2],[0,1,2,3],[0,1,2,3,4],[0,1,2,3,4,5],[0,1,2,3,4],[0,1,2,3,4,7],[0,1,2,3,4,5,6,7,8],[0,1,2,3,4],[0,1,2,3,4,10],[0,1,2,3,4],[0,1,2,3,4,12],[0,1,2,3,4,5,6,7,8,9,10,11,12,13],[0,1,2,3,4,5,6,7,8,9,10,11,12,13,14],[0,1,2,3,4,5,6,7,8,9,10,11,12,13,14,15],[0,1,2,3,4,5,6,7,8,9,10,11,12,13,14,15,16]]
    [[],[],[],[],[],[],[],[],[],[],[324,325,326,327,328,329,330,331,332,333,334,335,336,337,338,339],[324,325,326,327,328,329,330,331,332,333,334,335,336,337,338,339],[324,325,326,327,328,329,330,331,332,333,334,335,336,337,338,339],[324,325,326,327,328,329,330,331,332,333,334,335,336,337,338,339],[],[],[],[]]
    [[],[],[],[],[],[],[],[],[],[324,325,326,327,328,329,330,331,332,333,334,335,336,337,338,339],[],[],[],[],[],[],[],[]] (by kernel_rfl) (by kernel_rfl) (adrawR_ok (acc:=[]) ?_)
  simp (maxSteps:=2000000)only[List.nodup_cons,List.nodup_nil,List.not_mem_nil,not_false_eq_true,hal,go_sem]
  repeat' (with_reducible first | refine oD ?_ | refine And.intro (by first | exact har | exact har2 | exact hm1 | exact hm2) ?_ | refine oT (fun g1=>?_) (fun g1=>?_) | refine oE (fun g1=>?_) (fun g1=>?_))
  all_goals
   refine hK2 _ ?_
   refine AWP_ret ?_
   simp only[hres,go_sem]
   first | exact oF | (refine ⟨?_,oF⟩; first | rfl | (clear hK1 hK2; simp_all [eqTrB]; done))
def T_eqTrns:Tab:=fun f=>if f=98 then some (.p K_eqTrns) else T_mulPoly f
theorem T_eqTrns_ok:TabOk Tryz.prog T_eqTrns:=tabP eqTrns_ok (fnOk_of Tryz.func98 rfl (by decide)) T_mulPoly_ok
attribute [go_sem] T_eqTrns K_eqTrns
def K_implEqLin:Con:=⟨[.val ((.prod (.int .i64) (.prod (.row 26 (.row 2 (.int .i64))) (.prod (.row 90 (.prod (.int .i64) (.prod (.int .i64) (.prod (.int .i64) (.row 2 (.int .i64)))))) (.row 2 (.int .i64)))))),.val ((.prod (.int .i64) (.prod (.row 26 (.row 2 (.int .i64))) (.prod (.row 90 (.prod (.int .i64) (.prod (.int .i64) (.prod (.int .i64) (.row 2 (.int .i64)))))) (.row 2 (.int .i64))))))],[⟨.bool,true⟩,⟨.int .i64,true⟩],fun _=>True,fun x=>eqlR x.1 x.2.1⟩
theorem implEqLin_ok:PureT Tryz.prog 44 K_implEqLin:=by
  refine pure_of_body Tryz.func44 rfl ?_
  have hres:Tryz.f44.results.toList=[.tmp 4,.tmp 5]:=rfl
  rintro ⟨⟨(pi:Int),(ts:List (List Int)),(ns:List NodeD),(os:List Int)⟩,⟨(pi2:Int),(ts2:List (List Int)),(ns2:List NodeD),(os2:List Int)⟩,_⟩ hc hL
  simp only[K_implEqLin,go_sem] at hL
  simp only[K_implEqLin,St.init,St.initG,Tryz.ntmps44,go_sem] 
  rcases hX:linM (trimP (pi,ts,ns,os)) with ⟨ni,la,lb,lc,ld⟩
  rcases hY:linM (trimP (pi2,ts2,ns2,os2)) with ⟨ni2,la2,lb2,lc2,ld2⟩
  refine oS fun _ hK1=>?_
  refine oW T_eqTrns_ok ?_
  simp only[go_sem]
  refine hK1 _ ?_
  refine oS fun _ hK2=>?_
  refine oS fun _ hK3=>?_
  refine oW T_eqTrns_ok ?_
  simp (maxSteps:=2000000)only[List.nodup_cons,List.nodup_nil,List.not_mem_nil,not_false_eq_true,go_sem]
  repeat (with_reducible refine oA ?_)
  refine hK3 _ ?_
  refine oS fun _ hK4=>?_
  refine oW T_eqTrns_ok ?_
  simp only[go_sem]
  refine hK4 _ ?_
  refine oC rfl ?_ ?_
  ·
   intro c0
   refine oS fun _ hK5=>?_
   refine oW T_eqTrns_ok ?_
   simp only[go_sem]
   refine hK5 _ ?_
   refine AWP_ret ?_
   simp only[hres,go_sem]
   first
    | exact oF
    | refine ⟨?_,oF⟩
      have hl1:¬ codeL [(pi,ts,ns,os),(pi2,ts2,ns2,os2)]=0:=by assumption
      first | (rw [eqlR_f hl1]; exact ⟨rfl,rfl⟩) | (rw [eqlR_f hl1]; done)
  intro c0
  have hl0:codeL [(pi,ts,ns,os),(pi2,ts2,ns2,os2)]=0:=by first | assumption | omega
  obtain ⟨htw,hk,hk2⟩:=two_x hl0
  obtain ⟨hW,ha1,hni,hlo,hsq⟩:=linOk_x hk hX
  obtain ⟨hW2,ha2,hni2,hlo2,hsq2⟩:=linOk_x hk2 hY
  have hni:ni=pi:=hni
  have hlo:lc.length=os.length:=hlo
  have hni2:ni2=pi2:=hni2
  have hlo2:lc2.length=os2.length:=hlo2
  have hpp:pi=pi2:=htw.i
  have hoo:os.length=os2.length:=htw.o
  have hp4:0≤pi∧pi≤4:=hk.i4
  have ho4:os.length≤4:=hk.o4
  refine AWP_skip ?_
  simp only[go_sem]
  refine hK2 _ ?_
  refine oS fun _ hK6=>?_
  refine oS fun _ hK7=>?_
  refine oW T_eqTrns_ok ?_
  simp only[go_sem]
  repeat (with_reducible refine oA ?_)
  refine hK7 _ ?_
  refine AWP_block ?_
  refine AWP_loop_k (ι:={ i:Nat // i≤Int.toNat pi∧∀ i',i' < i→∀ o,o < os.length→eqTrB (trnL (ni,la,lb,lc,ld) (i':Int) (o:Int)) (trnL (ni2,la2,lb2,lc2,ld2) (i':Int) (o:Int))=true }) (fun k=>⟨[zz,zz,.c (.po 132 0),.c (.po 148 0),zz,zz,zz,zz,zz,zz,zz,zz,zz,zz,zz,zz,zz,.c (.sc (.int .i64 (pi))),.c (.sc (.int .i64 (k.1))),zz,zz,zz,zz,zz,zz,zz,zz,zz,zz,zz,zz,zz,zz,zz,zz,zz,zz,zz,zz],[(132,.box [.sc (.int .i64 (pi)),.rd [] 26 ((.row 2 (.int .i64))) (ts),.rd [] 90 ((.prod (.int .i64) (.prod (.int .i64) (.prod (.int .i64) (.row 2 (.int .i64)))))) (ns),.rd [] 2 (.int .i64) (os)]),(148,.box [.sc (.int .i64 (pi2)),.rd [] 26 ((.row 2 (.int .i64))) (ts2),.rd [] 90 ((.prod (.int .i64) (.prod (.int .i64) (.prod (.int .i64) (.row 2 (.int .i64)))))) (ns2),.rd [] 2 (.int .i64) (os2)])]⟩) (fun k=>(Int.toNat pi) - k.1) ⟨0,by simp,fun i' h=>absurd h (Nat.not_lt_zero _)⟩ ?_ ?_
  ·
   refine oK ?_
   simp (maxSteps:=2000000)only[go_sem]
   all_goals (first | rfl | ((repeat' refine And.intro ?_ ?_)<;>first | rfl | simp))
  rintro ⟨i,hi,ha⟩ K8 hL8
  refine oS fun _ hK9=>?_
  refine oW T_eqTrns_ok ?_
  simp only[go_sem]
  refine hK9 _ ?_
  refine oS fun _ hK10=>?_
  refine oC rfl ?_ ?_
  ·
   intro c1
   refine AWP_skip ?_
   simp only[go_sem]
   refine hK10 _ ?_
   refine oS fun _ hK11=>?_
   refine AWP_block ?_
   refine oS fun _ hK12=>?_
   refine oW T_eqTrns_ok ?_
   simp only[go_sem]
   refine hK12 _ ?_
   refine oS fun _ hK13=>?_
   refine oW T_eqTrns_ok ?_
   simp only[go_sem]
   repeat (with_reducible refine oA ?_)
   refine hK13 _ ?_
   refine AWP_block ?_
   refine AWP_loop_k (ι:={ o:Nat // o≤os.length∧∀ o',o' < o→eqTrB (trnL (ni,la,lb,lc,ld) (i:Int) (o':Int)) (trnL (ni2,la2,lb2,lc2,ld2) (i:Int) (o':Int))=true }) (fun k'=>⟨[zz,zz,.c (.po 132 0),.c (.po 148 0),zz,zz,zz,.c (.sc (.int .i64 (i))),zz,zz,zz,zz,zz,zz,zz,zz,zz,.c (.sc (.int .i64 (pi))),.c (.sc (.int .i64 (i))),zz,zz,zz,zz,.c (.sc (.int .i64 (os.length))),.c (.sc (.int .i64 (k'.1))),zz,zz,zz,zz,zz,zz,zz,zz,zz,zz,zz,zz,zz,zz],[(132,.box [.sc (.int .i64 (pi)),.rd [] 26 ((.row 2 (.int .i64))) (ts),.rd [] 90 ((.prod (.int .i64) (.prod (.int .i64) (.prod (.int .i64) (.row 2 (.int .i64)))))) (ns),.rd [] 2 (.int .i64) (os)]),(148,.box [.sc (.int .i64 (pi2)),.rd [] 26 ((.row 2 (.int .i64))) (ts2),.rd [] 90 ((.prod (.int .i64) (.prod (.int .i64) (.prod (.int .i64) (.row 2 (.int .i64)))))) (ns2),.rd [] 2 (.int .i64) (os2)])]⟩) (fun k'=>os.length - k'.1) ⟨0,by simp,fun o' h=>absurd h (Nat.not_lt_zero _)⟩ ?_ ?_
   ·
    refine oK ?_
    simp (maxSteps:=2000000)only[go_sem]
    all_goals (first | rfl | ((repeat' refine And.intro ?_ ?_)<;>first | rfl | simp))
   rintro ⟨o,ho,hin⟩ K14 hL14
   refine oS fun _ hK15=>?_
   refine oW T_eqTrns_ok ?_
   simp only[go_sem]
   refine hK15 _ ?_
   refine oS fun _ hK16=>?_
   refine oC rfl ?_ ?_
   ·
    intro c2
    have hta0:=trnL_ok (x:=(ni,la,lb,lc,ld)) ha1 (i:Int) (o:Int)
    have htb0:=trnL_ok (x:=(ni2,la2,lb2,lc2,ld2)) ha2 (i:Int) (o:Int)
    rcases hta:trnL (ni,la,lb,lc,ld) (i:Int) (o:Int) with ⟨ua,ub⟩
    rcases htb:trnL (ni2,la2,lb2,lc2,ld2) (i:Int) (o:Int) with ⟨va,vb⟩
    rw [hta] at hta0
    rw [htb] at htb0
    have hTT:trB (ua,ub)=true∧trB (va,vb)=true:=⟨hta0,htb0⟩
    have hT1:linOkP (pi,ts,ns,os)∧(0≤(i:Int)∧(i:Int) < pi)∧(0≤(o:Int)∧(o:Int) < os.length):=⟨hk,⟨by omega,by omega⟩,by omega,by omega⟩
    have hT2:linOkP (pi2,ts2,ns2,os2)∧(0≤(i:Int)∧(i:Int) < pi2)∧(0≤(o:Int)∧(o:Int) < os2.length):=⟨hk2,⟨by omega,by omega⟩,by omega,by omega⟩
    refine AWP_skip ?_
    simp only[go_sem]
    refine hK16 _ ?_
    refine oS fun _ hK17=>?_
    refine AWP_block ?_
    refine oS fun _ hK18=>?_
    refine oW T_eqTrns_ok ?_
    simp only[go_sem]
    refine hK18 _ ?_
    refine oS fun _ hK19=>?_
    refine oR T_eqTrns_ok
      [[],[],[],[0,1,2],[],[],[],[0,1,2,3,4,5,6],[0,1,2,3,4,5,6,7],[0,1,2,3,4,5,6,7,8]]
      [[],[],[],[],[580,581,582,583,584,585,586,587,588,589,590,591,592,593,594,595],[580,581,582,583,584,585,586,587,588,589,590,591,592,593,594,595],[580,581,582,583,584,585,586,587,588,589,590,591,592,593,594,595],[],[],[]]
      [[],[],[],[580,581,582,583,584,585,586,587,588,589,590,591,592,593,594,595],[],[],[],[],[],[]] (by kernel_rfl) (by kernel_rfl) (adrawR_ok (acc:=[]) ?_)
    simp (maxSteps:=2000000)only[List.nodup_cons,List.nodup_nil,List.not_mem_nil,not_false_eq_true,hX,hY,hta,htb,go_sem]
    repeat (with_reducible first | refine oD ?_ | refine And.intro (by first | exact hT1 | exact hT2 | exact hTT) ?_)
    refine hK19 _ ?_
    refine oC rfl ?_ ?_
    ·
     intro c3
     refine oS fun _ hK20=>?_
     refine oW T_eqTrns_ok ?_
     simp only[go_sem]
     refine hK20 _ ?_
     refine AWP_ret ?_
     simp only[hres,go_sem]
     first
      | exact oF
      | refine ⟨?_,oF⟩
        have hef:eqTrB (trnL (ni,la,lb,lc,ld) (i:Int) (o:Int)) (trnL (ni2,la2,lb2,lc2,ld2) (i:Int) (o:Int))=false:=by rw [hta,htb]; first | assumption | (clear hK1 hK2 hK3 hK4 hK6 hK7 hL8 hK9 hK10 hK11 hK12 hK13 hL14 hK15 hK16 hK17 hK18 hK19 hK20; simp_all; done)
        have hq:=eqlR_no hl0 hX hY (i:=i) (o:=o) (by show i < (Int.toNat pi); omega) (by show o < os.length; omega) hef
        first | (rw [hq]; exact ⟨rfl,rfl⟩) | (rw [hq]; done)
    intro c3
    have het:eqTrB (trnL (ni,la,lb,lc,ld) (i:Int) (o:Int)) (trnL (ni2,la2,lb2,lc2,ld2) (i:Int) (o:Int))=true:=by rw [hta,htb]; first | assumption | (clear hK1 hK2 hK3 hK4 hK6 hK7 hL8 hK9 hK10 hK11 hK12 hK13 hL14 hK15 hK16 hK17 hK18 hK19; simp_all; done)
    refine AWP_skip ?_
    simp only[go_sem]
    refine hK17 _ ?_
    refine oW T_eqTrns_ok ?_
    simp only[go_sem]
    refine hL14 ⟨o+1,by omega,fun o' h=>by
      rcases Nat.lt_succ_iff_lt_or_eq.1 h with h | h
      · exact hin o' h
      · subst h; exact het⟩ _ (oK ?_) ?_
    ·
     simp (maxSteps:=2000000)only[go_sem]
     all_goals ((repeat' refine And.intro ?_ ?_)<;>first | rfl | exact wk (by omega) | (congr 1; done))
    ·
     first | (simp only[]; omega) | omega | (simp; omega)
   intro c2
   refine AWP_exit ?_
   simp only[go_sem]
   refine hK11 _ ?_
   refine oW T_eqTrns_ok ?_
   simp only[go_sem]
   refine hL8 ⟨i+1,by omega,fun j h o' ho'=>by
     rcases Nat.lt_succ_iff_lt_or_eq.1 h with h | h
     · exact ha j h o' ho'
     · subst h; exact hin o' (by omega)⟩ _ (oK ?_) ?_
   ·
    simp (maxSteps:=2000000)only[go_sem]
    all_goals ((repeat' refine And.intro ?_ ?_)<;>first | rfl | exact wk (by omega) | (congr 1; done))
   ·
    first | (simp only[]; omega) | omega | (simp; omega)
  intro c1
  refine AWP_exit ?_
  simp only[go_sem]
  refine hK6 _ ?_
  refine oS fun _ hK21=>?_
  refine oW T_eqTrns_ok ?_
  simp only[go_sem]
  refine hK21 _ ?_
  refine AWP_ret ?_
  simp only[hres,go_sem]
  first
   | exact oF
   | refine ⟨?_,oF⟩
     have hq:=eqlR_yes hl0 hX hY (fun j h=>ha j (by have h:j < (Int.toNat pi):=h; omega))
     first | (rw [hq]; exact ⟨rfl,rfl⟩) | (rw [hq]; done)
def T_implEqLin:Tab:=fun f=>if f=44 then some (.p K_implEqLin) else T_eqTrns f
theorem T_implEqLin_ok:TabOk Tryz.prog T_implEqLin:=tabP implEqLin_ok (fnOk_of Tryz.func44 rfl (by decide)) T_eqTrns_ok
attribute [go_sem] T_implEqLin K_implEqLin
end Go.Proofs.YtflaacndokbddaaGreat
