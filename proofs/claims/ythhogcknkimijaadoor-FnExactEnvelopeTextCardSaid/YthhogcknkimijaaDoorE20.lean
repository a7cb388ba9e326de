/-
  Texts of this claim, joined (part 20). No condition beyond those of the theorems.
-/
import Derived.Test.YthhogcknkimijaaDoorE11
import Derived.Test.YthhogcknkimijaaDoorE02
namespace Go.Proofs.YthhogcknkimijaaDoor
open Go.RowKit
set_option linter.unusedSimpArgs false
set_option linter.unusedVariables false
set_option maxRecDepth 100000
set_option maxHeartbeats 4000000
def K_szG:Con:=⟨[.val ((.row 74 (.prod (.int .i64) (.int .i64)))),.val (.int .i64)],[⟨.int .i64,true⟩],fun x=>szOk x.2.1,fun x=>szR x.1.length x.2.1⟩
theorem szG_ok:PureT Tryd.prog 23 K_szG:=by
  refine pure_of_body Tryd.func23 rfl ?_
  have hres:Tryd.f23.results.toList=[.tmp 4]:=rfl
  rintro⟨(xs:List (Int × Int)),(lf:Int),_⟩ hc hL
  simp only[K_szG,go_sem] at hL
  obtain lxs:=hL
  simp only[K_szG,St.init,St.initG,Tryd.ntmps23,go_sem] 
  obtain⟨h1,h2⟩:=(show szOk lf from hc)
  have hw:IntKind.i64.wrap (lf - (xs.length:Int))=lf - xs.length:=wrapI (by omega)
  refine oS fun _ hK1=>?_
  refine oW T0_ok ?_
  simp only[go_sem]
  refine hK1 _ ?_
  refine oS fun _ hK2=>?_
  refine oW T0_ok ?_
  simp (maxSteps:=2000000)only[hw,go_sem]
  refine hK2 _ ?_
  refine oS fun _ hK3=>?_
  refine oS fun _ hK4=>?_
  refine oW T0_ok ?_
  simp only[go_sem]
  refine hK4 _ ?_
  refine oC rfl ?_ ?_
  ·
   intro c0
   refine oS fun _ hK5=>?_
   refine oW T0_ok ?_
   simp only[go_sem]
   refine hK5 _ ?_
   refine AWP_ret ?_
   simp only[hres,go_sem]
   first|exact oF|(refine⟨?_,oF⟩;exact(szR_t (by omega)).symm)
  intro c0
  refine AWP_skip ?_
  simp only[go_sem]
  refine hK3 _ ?_
  refine oS fun _ hK6=>?_
  refine oW T0_ok ?_
  simp only[go_sem]
  refine hK6 _ ?_
  refine AWP_ret ?_
  simp only[hres,go_sem]
  first|exact oF|(refine⟨?_,oF⟩;first|exact(szR_f (by omega)).symm|(rw[szR_f (by omega)];omega))
def T_szG:Tab:=fun f=>if f=23 then some (.p K_szG) else T0 f
theorem T_szG_ok:TabOk Tryd.prog T_szG:=tabP szG_ok (fnOk_of Tryd.func23 rfl (by decide)) T0_ok
attribute [go_sem] T_szG K_szG
def K_szE:Con:=⟨[.val ((.prod (.int .i64) (.prod (.row 74 (.prod (.int .i64) (.int .i64))) (.int .i64)))),.val (.int .i64)],[⟨.int .i64,true⟩],fun x=>szOk x.2.1,fun x=>szR x.1.2.1.length x.2.1⟩
theorem szE_ok:PureT Tryd.prog 6 K_szE:=by
  refine pure_of_body Tryd.func6 rfl ?_
  have hres:Tryd.f6.results.toList=[.tmp 4]:=rfl
  rintro⟨⟨(st:Int),(sg:List (Int × Int)),(rl:Int)⟩,(lf:Int),_⟩ hc hL
  simp only[K_szE,go_sem] at hL
  simp only[K_szE,St.init,St.initG,Tryd.ntmps6,go_sem] 
  obtain⟨h1,h2⟩:=(show szOk lf from hc)
  refine oS fun _ hK1=>?_
  refine oW T_szG_ok ?_
  simp only[go_sem]
  repeat(with_reducible first|refine oA ?_|refine And.intro (by first|exact⟨by omega,by omega⟩) ?_)
  refine hK1 _ ?_
  refine oS fun _ hK2=>?_
  refine oW T_szG_ok ?_
  simp (maxSteps:=2000000)only[go_sem]
  repeat(with_reducible first|refine oA ?_|refine And.intro (by first|exact⟨by omega,by omega⟩) ?_)
  refine hK2 _ ?_
  refine oS fun _ hK3=>?_
  refine oS fun _ hK4=>?_
  refine oW T_szG_ok ?_
  simp only[go_sem]
  repeat(with_reducible first|refine oA ?_|refine And.intro (by first|exact⟨by omega,by omega⟩) ?_)
  refine hK4 _ ?_
  refine oC rfl ?_ ?_
  ·
   intro c0
   obtain⟨e1,e2⟩:=szR_lt (by omega) c0
   refine oS fun _ hK5=>?_
   refine oW T_szG_ok ?_
   simp only[go_sem]
   repeat(with_reducible first|refine oA ?_|refine And.intro (by first|exact⟨by omega,by omega⟩) ?_)
   refine hK5 _ ?_
   refine AWP_ret ?_
   simp only[hres,go_sem]
   first|exact oF|(refine⟨?_,oF⟩;exact e1.symm)
  intro c0
  refine AWP_skip ?_
  simp only[go_sem]
  refine hK3 _ ?_
  refine oS fun _ hK6=>?_
  refine oW T_szG_ok ?_
  simp only[go_sem]
  repeat(with_reducible first|refine oA ?_|refine And.intro (by first|exact⟨by omega,by omega⟩) ?_)
  refine hK6 _ ?_
  refine AWP_ret ?_
  simp only[hres,go_sem]
  first|exact oF|exact oFr
def T_szE:Tab:=fun f=>if f=6 then some (.p K_szE) else T_szG f
theorem T_szE_ok:TabOk Tryd.prog T_szE:=tabP szE_ok (fnOk_of Tryd.func6 rfl (by decide)) T_szG_ok
attribute [go_sem] T_szE K_szE
def K_toSg:Con:=⟨[.val ((.prod (.int .i64) (.int .i64)))],[⟨(.prod (.int .i64) (.int .i64)),true⟩],fun _=>True,fun x=>x.1⟩
theorem toSg_ok:PureT Tryd.prog 50 K_toSg:=by
  refine pure_of_body Tryd.func50 rfl ?_
  have hres:Tryd.f50.results.toList=[.cell 2 48]:=rfl
  rintro⟨⟨(ln:Int),(tg:Int)⟩,_⟩ hc hL
  simp only[K_toSg,go_sem] at hL
  simp only[K_toSg,St.init,St.initG,Tryd.ntmps50,go_sem] 
  refine oS fun _ hK1=>?_
  refine oW T_szE_ok ?_
  simp only[go_sem]
  refine hK1 _ ?_
  refine oS fun _ hK2=>?_
  refine oW T_szE_ok ?_
  simp only[go_sem]
  refine hK2 _ ?_
  refine oS fun _ hK3=>?_
  refine oW T_szE_ok ?_
  simp only[go_sem]
  repeat(with_reducible refine oA ?_)
  refine hK3 _ ?_
  refine oS fun _ hK4=>?_
  refine oW T_szE_ok ?_
  simp only[go_sem]
  repeat(with_reducible refine oA ?_)
  refine hK4 _ ?_
  refine oS fun _ hK5=>?_
  refine oW T_szE_ok ?_
  simp only[go_sem]
  repeat(with_reducible refine oA ?_)
  refine hK5 _ ?_
  refine AWP_ret ?_
  simp only[hres,go_sem]
  first|exact oF|exact oFr
def T_toSg:Tab:=fun f=>if f=50 then some (.p K_toSg) else T_szE f
theorem T_toSg_ok:TabOk Tryd.prog T_toSg:=tabP toSg_ok (fnOk_of Tryd.func50 rfl (by decide)) T_szE_ok
attribute [go_sem] T_toSg K_toSg
def K_toG:Con:=⟨[.val ((.row 74 (.prod (.int .i64) (.int .i64))))],[⟨(.row 48 (.prod (.int .i64) (.int .i64))),true⟩],fun x=>x.1.length≤1099511627776,fun x=>x.1⟩
theorem toG_ok:PureT Tryd.prog 26 K_toG:=by
  refine pure_of_body Tryd.func26 rfl ?_
  have hres:Tryd.f26.results.toList=[.tmp 2]:=rfl
  rintro⟨(xs:List (Int × Int)),_⟩ hc hL
  simp only[K_toG,go_sem] at hL
  simp only[K_toG,St.init,St.initG,Tryd.ntmps26,go_sem] 
  have hx:xs.length≤1099511627776:=hc
  refine oS fun _ hK1=>?_
  refine oW T_toSg_ok ?_
  simp only[go_sem]
  refine hK1 _ ?_
  refine oS fun _ hK2=>?_
  refine oW T_toSg_ok ?_
  simp only[go_sem]
  repeat(with_reducible refine oA ?_)
  refine hK2 _ ?_
  refine oS fun _ hK3=>?_
  refine oS fun _ hK4=>?_
  refine oW T_toSg_ok ?_
  simp only[go_sem]
  refine hK4 _ ?_
  refine AWP_block ?_
  refine AWP_loop_k (ι:={ k:Nat // k≤xs.length }) (fun k=>⟨[.c (.rd [] 74 ((.prod (.int .i64) (.int .i64))) (xs)),zz,zz,.c (.ow 212),.c (.sc (.int .i64 (k.1))),zz,zz,zz,zz,zz,zz,zz,zz,zz,zz,zz,zz,zz,zz,zz,zz,zz,zz],[(212,.row 48 ((.prod (.int .i64) (.int .i64))) (fillT ((0,0):Int × Int) xs k.1) [])]⟩) (fun k=>xs.length - k.1) ⟨0,by simp⟩ ?_ ?_
  ·
   refine oK ?_
   simp (maxSteps:=2000000)only[go_sem]
   all_goals(first|rfl|((repeat' refine And.intro ?_ ?_)<;>first|rfl|exact fillT_zero.symm|(rw[fillT_zero];simp)))
  rintro⟨k,hk⟩ K5 hL5
  have hfl:(fillT ((0,0):Int × Int) xs k).length=xs.length:=fillT_len hk
  have hft:k < xs.length→(fillT ((0,0):Int × Int) xs k).set k (xs.getD k ((0,0):Int × Int))=fillT ((0,0):Int × Int) xs (k+1):=fun h=>fillT_set _ h
  refine oS fun _ hK6=>?_
  refine oS fun _ hK7=>?_
  refine oW T_toSg_ok ?_
  simp only[go_sem]
  refine hK7 _ ?_
  refine oC rfl ?_ ?_
  ·
   intro c0
   refine AWP_skip ?_
   simp only[go_sem]
   refine hK6 _ ?_
   refine oS fun _ hK8=>?_
   refine AWP_block ?_
   refine oW T_toSg_ok ?_
   simp (maxSteps:=2000000)only[go_sem]
   repeat(with_reducible refine oA ?_)
   refine hK8 _ ?_
   refine oW T_toSg_ok ?_
   simp only[go_sem]
   refine hL5 ⟨k+1,by omega⟩ _ (oK ?_) ?_
   ·
    simp (maxSteps:=2000000)only[go_sem]
    all_goals(first|rfl|exact wk (by omega)|((repeat' refine And.intro ?_ ?_)<;>first|rfl|exact wk (by omega)|exact hft (by omega)|(congr 1;exact hft (by omega))))
   ·
    first|(simp only[];omega)|omega|(simp;omega)
  intro c0
  refine AWP_exit ?_
  simp only[go_sem]
  refine hK3 _ ?_
  refine oS fun _ hK9=>?_
  refine oW T_toSg_ok ?_
  simp only[go_sem]
  refine hK9 _ ?_
  refine AWP_ret ?_
  simp only[hres,go_sem]
  first|exact oF|(refine⟨?_,oF⟩;exact fillT_all (by omega))
def T_toG:Tab:=fun f=>if f=26 then some (.p K_toG) else T_toSg f
theorem T_toG_ok:TabOk Tryd.prog T_toG:=tabP toG_ok (fnOk_of Tryd.func26 rfl (by decide)) T_toSg_ok
attribute [go_sem] T_toG K_toG
def K_toE:Con:=⟨[.val ((.prod (.int .i64) (.prod (.row 74 (.prod (.int .i64) (.int .i64))) (.int .i64))))],[⟨(.prod (.int .i64) (.prod (.row 48 (.prod (.int .i64) (.int .i64))) (.int .i64))),true⟩],fun x=>x.1.2.1.length≤1099511627776,fun x=>x.1⟩
theorem toE_ok:PureT Tryd.prog 8 K_toE:=by
  refine pure_of_body Tryd.func8 rfl ?_
  have hres:Tryd.f8.results.toList=[.cell 2 29]:=rfl
  rintro⟨⟨(st:Int),(sg:List (Int × Int)),(rl:Int)⟩,_⟩ hc hL
  simp only[K_toE,go_sem] at hL
  simp only[K_toE,St.init,St.initG,Tryd.ntmps8,go_sem] 
  have hx:sg.length≤1099511627776:=hc
  refine oS fun _ hK1=>?_
  refine oW T_toG_ok ?_
  simp only[go_sem]
  repeat(with_reducible first|refine oA ?_|refine And.intro (by first|assumption) ?_)
  refine hK1 _ ?_
  refine oS fun _ hK2=>?_
  refine oW T_toG_ok ?_
  simp only[go_sem]
  repeat(with_reducible first|refine oA ?_|refine And.intro (by first|assumption) ?_)
  refine hK2 _ ?_
  refine oS fun _ hK3=>?_
  refine oW T_toG_ok ?_
  simp only[go_sem]
  repeat(with_reducible first|refine oA ?_|refine And.intro (by first|assumption) ?_)
  refine hK3 _ ?_
  refine oS fun _ hK4=>?_
  refine oW T_toG_ok ?_
  simp (maxSteps:=2000000)only[go_sem]
  repeat(with_reducible first|refine oA ?_|refine And.intro (by first|assumption) ?_)
  refine hK4 _ ?_
  refine oS fun _ hK5=>?_
  refine oW T_toG_ok ?_
  simp only[go_sem]
  repeat(with_reducible first|refine oA ?_|refine And.intro (by first|assumption) ?_)
  refine hK5 _ ?_
  refine oS fun _ hK6=>?_
  refine oW T_toG_ok ?_
  simp only[go_sem]
  repeat(with_reducible first|refine oA ?_|refine And.intro (by first|assumption) ?_)
  refine hK6 _ ?_
  refine AWP_ret ?_
  simp only[hres,go_sem]
  first|exact oF|exact oFr
def T_toE:Tab:=fun f=>if f=8 then some (.p K_toE) else T_toG f
theorem T_toE_ok:TabOk Tryd.prog T_toE:=tabP toE_ok (fnOk_of Tryd.func8 rfl (by decide)) T_toG_ok
attribute [go_sem] T_toE K_toE
def K_eqSg:Con:=⟨[.val ((.prod (.int .i64) (.int .i64))),.val ((.prod (.int .i64) (.int .i64)))],[⟨.bool,true⟩],fun _=>True,fun x=>eqD (x.1:Int × Int) (x.2.1:Int × Int)⟩
theorem eqSg_ok:PureT Tryd.prog 53 K_eqSg:=by
  refine pure_of_body Tryd.func53 rfl ?_
  have hres:Tryd.f53.results.toList=[.tmp 4]:=rfl
  rintro⟨⟨(a1:Int),(b1:Int)⟩,⟨(a2:Int),(b2:Int)⟩,_⟩ hc hL
  simp only[K_eqSg,go_sem] at hL
  simp only[K_eqSg,St.init,St.initG,Tryd.ntmps53,go_sem] 
  refine oS fun _ hK1=>?_
  refine oW T_toE_ok ?_
  simp only[go_sem]
  refine hK1 _ ?_
  refine oS fun _ hK2=>?_
  refine oS fun _ hK3=>?_
  refine oW T_toE_ok ?_
  simp (maxSteps:=2000000)only[go_sem]
  repeat(with_reducible refine oA ?_)
  refine hK3 _ ?_
  refine oC rfl ?_ ?_
  ·
   intro c0
   refine oS fun _ hK4=>?_
   refine oW T_toE_ok ?_
   simp only[go_sem]
   refine hK4 _ ?_
   refine AWP_ret ?_
   simp only[hres,go_sem]
   first|exact oF|(refine⟨?_,oF⟩;clear hK1 hK2 hK3 hK4;simp_all [eqD])
  intro c0
  refine AWP_skip ?_
  simp only[go_sem]
  refine hK2 _ ?_
  refine oS fun _ hK5=>?_
  refine oS fun _ hK6=>?_
  refine oW T_toE_ok ?_
  simp (maxSteps:=2000000)only[go_sem]
  repeat(with_reducible refine oA ?_)
  refine hK6 _ ?_
  refine oC rfl ?_ ?_
  ·
   intro c1
   refine oS fun _ hK7=>?_
   refine oW T_toE_ok ?_
   simp only[go_sem]
   refine hK7 _ ?_
   refine AWP_ret ?_
   simp only[hres,go_sem]
   first|exact oF|(refine⟨?_,oF⟩;clear hK1 hK2 hK3 hK5 hK6 hK7;simp_all [eqD])
  intro c1
  refine AWP_skip ?_
  simp only[go_sem]
  refine hK5 _ ?_
  refine oS fun _ hK8=>?_
  refine oW T_toE_ok ?_
  simp only[go_sem]
  refine hK8 _ ?_
  refine AWP_ret ?_
  simp only[hres,go_sem]
  first|exact oF|(refine⟨?_,oF⟩;clear hK1 hK2 hK3 hK5 hK6 hK8;simp_all [eqD])
def T_eqSg:Tab:=fun f=>if f=53 then some (.p K_eqSg) else T_toE f
theorem T_eqSg_ok:TabOk Tryd.prog T_eqSg:=tabP eqSg_ok (fnOk_of Tryd.func53 rfl (by decide)) T_toE_ok
attribute [go_sem] T_eqSg K_eqSg
def K_eqG:Con:=⟨[.val ((.row 48 (.prod (.int .i64) (.int .i64)))),.val ((.row 48 (.prod (.int .i64) (.int .i64))))],[⟨.bool,true⟩],fun _=>True,fun x=>eqD (x.1:List (Int × Int)) (x.2.1:List (Int × Int))⟩
theorem eqG_ok:PureT Tryd.prog 29 K_eqG:=by
  refine pure_of_body Tryd.func29 rfl ?_
  have hres:Tryd.f29.results.toList=[.tmp 4]:=rfl
  rintro⟨(xs:List (Int × Int)),(ys:List (Int × Int)),_⟩ hc hL
  simp only[K_eqG,go_sem] at hL
  obtain⟨lxs,lys⟩:=hL
  simp only[K_eqG,St.init,St.initG,Tryd.ntmps29,go_sem] 
  refine oS fun _ hK1=>?_
  refine oW T_eqSg_ok ?_
  simp only[go_sem]
  refine hK1 _ ?_
  refine oS fun _ hK2=>?_
  refine oS fun _ hK3=>?_
  refine oW T_eqSg_ok ?_
  simp (maxSteps:=2000000)only[go_sem]
  refine hK3 _ ?_
  refine oC rfl ?_ ?_
  ·
   intro c0
   refine oS fun _ hK4=>?_
   refine oW T_eqSg_ok ?_
   simp only[go_sem]
   refine hK4 _ ?_
   refine AWP_ret ?_
   simp only[hres,go_sem]
   first|exact oF|(refine⟨?_,oF⟩;exact(eq_len (by omega)).symm)
  intro c0
  refine AWP_skip ?_
  simp only[go_sem]
  refine hK2 _ ?_
  refine oS fun _ hK5=>?_
  refine oS fun _ hK6=>?_
  refine oW T_eqSg_ok ?_
  simp only[go_sem]
  refine hK6 _ ?_
  refine AWP_block ?_
  refine AWP_loop_k (ι:={ k:Nat // k≤xs.length∧xs.take k=ys.take k }) (fun k=>⟨[.c (.rd [] 48 ((.prod (.int .i64) (.int .i64))) (xs)),.c (.rd [] 48 ((.prod (.int .i64) (.int .i64))) (ys)),zz,zz,zz,.c (.sc (.int .i64 (k.1))),zz,zz,zz,zz,zz,zz,zz,zz,zz,zz,zz,zz,zz,zz,zz,zz,zz,zz,zz,zz,zz],[]⟩) (fun k=>xs.length - k.1) ⟨0,by simp,by simp⟩ ?_ ?_
  ·
   refine oK ?_
   simp (maxSteps:=2000000)only[go_sem]
   all_goals(first|rfl|((repeat' refine And.intro ?_ ?_)<;>first|rfl|simp))
  rintro⟨k,hk,hp⟩ K7 hL7
  refine oS fun _ hK8=>?_
  refine oS fun _ hK9=>?_
  refine oW T_eqSg_ok ?_
  simp only[go_sem]
  refine hK9 _ ?_
  refine oC rfl ?_ ?_
  ·
   intro c1
   refine AWP_skip ?_
   simp only[go_sem]
   refine hK8 _ ?_
   refine oS fun _ hK10=>?_
   refine AWP_block ?_
   refine oS fun _ hK11=>?_
   refine oR T_eqSg_ok
     [[],[],[0,1],[0,1,2],[],[],[4,5],[4,5,6],[0,1,2,3,4,5,6,7],[0,1,2,3,4,5,6,7,8]]
     [[],[],[],[],[],[],[],[],[],[]]
     [[],[],[],[],[],[],[],[],[],[]] (by kernel_rfl) (by kernel_rfl) (adrawR_ok (acc:=[]) ?_)
   simp (maxSteps:=2000000)only[go_sem]
   repeat(with_reducible refine oD ?_)
   refine hK11 _ ?_
   refine oC rfl ?_ ?_
   ·
    intro c2
    refine oS fun _ hK12=>?_
    refine oW T_eqSg_ok ?_
    simp only[go_sem]
    refine hK12 _ ?_
    refine AWP_ret ?_
    simp only[hres,go_sem]
    first|exact oF|(refine⟨?_,oF⟩;exact(eq_stop ((0,0):Int × Int) (m:=k) (by first|assumption|exact decide_eq_false (by assumption))).symm)
   intro c2
   refine AWP_skip ?_
   simp only[go_sem]
   refine hK10 _ ?_
   refine oW T_eqSg_ok ?_
   simp only[go_sem]
   refine hL7 ⟨k+1,by omega,eq_next (d:=((0,0):Int × Int)) (by omega) (by omega) hp (by first|assumption|exact decide_eq_true (by assumption))⟩ _ (oK ?_) ?_
   ·
    simp (maxSteps:=2000000)only[go_sem]
    all_goals(first|rfl|((repeat' refine And.intro ?_ ?_)<;>first|rfl|exact wk (by omega)|simp))
   ·
    first|(simp only[];omega)|omega|(simp;omega)
  intro c1
  refine AWP_exit ?_
  simp only[go_sem]
  refine hK5 _ ?_
  refine oS fun _ hK13=>?_
  refine oW T_eqSg_ok ?_
  simp only[go_sem]
  refine hK13 _ ?_
  refine AWP_ret ?_
  simp only[hres,go_sem]
  first|exact oF|(refine⟨?_,oF⟩;exact(eq_done (m:=k) (by omega) (by omega) hp).symm)
def T_eqG:Tab:=fun f=>if f=29 then some (.p K_eqG) else T_eqSg f
theorem T_eqG_ok:TabOk Tryd.prog T_eqG:=tabP eqG_ok (fnOk_of Tryd.func29 rfl (by decide)) T_eqSg_ok
attribute [go_sem] T_eqG K_eqG
def K_eqE:Con:=⟨[.val ((.prod (.int .i64) (.prod (.row 48 (.prod (.int .i64) (.int .i64))) (.int .i64)))),.val ((.prod (.int .i64) (.prod (.row 48 (.prod (.int .i64) (.int .i64))) (.int .i64))))],[⟨.bool,true⟩],fun _=>True,fun x=>eqD (x.1:EnvD) (x.2.1:EnvD)⟩
theorem eqE_ok:PureT Tryd.prog 10 K_eqE:=by
  refine pure_of_body Tryd.func10 rfl ?_
  have hres:Tryd.f10.results.toList=[.tmp 4]:=rfl
  rintro⟨⟨(st:Int),(sg:List (Int × Int)),(rl:Int)⟩,⟨(st2:Int),(sg2:List (Int × Int)),(rl2:Int)⟩,_⟩ hc hL
  simp only[K_eqE,go_sem] at hL
  simp only[K_eqE,St.init,St.initG,Tryd.ntmps10,go_sem] 
  refine oS fun _ hK1=>?_
  refine oW T_eqG_ok ?_
  simp only[go_sem]
  refine hK1 _ ?_
  refine oS fun _ hK2=>?_
  refine oS fun _ hK3=>?_
  refine oW T_eqG_ok ?_
  simp (maxSteps:=2000000)only[go_sem]
  repeat(with_reducible refine oA ?_)
  refine hK3 _ ?_
  refine oC rfl ?_ ?_
  ·
   intro c0
   refine oS fun _ hK4=>?_
   refine oW T_eqG_ok ?_
   simp only[go_sem]
   refine hK4 _ ?_
   refine AWP_ret ?_
   simp only[hres,go_sem]
   first|exact oF|(refine⟨?_,oF⟩;clear hK1 hK2 hK3 hK4;simp_all [eqD])
  intro c0
  refine AWP_skip ?_
  simp only[go_sem]
  refine hK2 _ ?_
  refine oS fun _ hK5=>?_
  refine oS fun _ hK6=>?_
  refine oW T_eqG_ok ?_
  simp (maxSteps:=2000000)only[go_sem]
  repeat(with_reducible refine oA ?_)
  refine hK6 _ ?_
  refine oC rfl ?_ ?_
  ·
   intro c1
   refine oS fun _ hK7=>?_
   refine oW T_eqG_ok ?_
   simp only[go_sem]
   refine hK7 _ ?_
   refine AWP_ret ?_
   simp only[hres,go_sem]
   first|exact oF|(refine⟨?_,oF⟩;clear hK1 hK2 hK3 hK5 hK6 hK7;simp_all [eqD])
  intro c1
  refine AWP_skip ?_
  simp only[go_sem]
  refine hK5 _ ?_
  refine oS fun _ hK8=>?_
  refine oS fun _ hK9=>?_
  refine oW T_eqG_ok ?_
  simp (maxSteps:=2000000)only[go_sem]
  repeat(with_reducible refine oA ?_)
  refine hK9 _ ?_
  refine oC rfl ?_ ?_
  ·
   intro c2
   refine oS fun _ hK10=>?_
   refine oW T_eqG_ok ?_
   simp only[go_sem]
   refine hK10 _ ?_
   refine AWP_ret ?_
   simp only[hres,go_sem]
   first|exact oF|(refine⟨?_,oF⟩;clear hK1 hK2 hK3 hK5 hK6 hK8 hK9 hK10;simp_all [eqD])
  intro c2
  refine AWP_skip ?_
  simp only[go_sem]
  refine hK8 _ ?_
  refine oS fun _ hK11=>?_
  refine oW T_eqG_ok ?_
  simp only[go_sem]
  refine hK11 _ ?_
  refine AWP_ret ?_
  simp only[hres,go_sem]
  first|exact oF|(refine⟨?_,oF⟩;clear hK1 hK2 hK3 hK5 hK6 hK8 hK9 hK11;simp_all [eqD])
def T_eqE:Tab:=fun f=>if f=10 then some (.p K_eqE) else T_eqG f
theorem T_eqE_ok:TabOk Tryd.prog T_eqE:=tabP eqE_ok (fnOk_of Tryd.func10 rfl (by decide)) T_eqG_ok
attribute [go_sem] T_eqE K_eqE
def T_heldE:Tab:=T_eqE
theorem T_heldE_ok:TabOk Tryd.prog T_heldE:=T_eqE_ok
attribute [go_sem] T_heldE
end Go.Proofs.YthhogcknkimijaaDoor
