/-
  Texts of this claim, joined (part 12). No condition beyond those of the theorems.
-/
import Derived.Test.YtenjbehedcegdaaR11
import Derived.Test.YtenjbehedcegdaaR08
namespace Go.Proofs.Ytenjbehedcegdaa
open Go.RowKit
set_option linter.unusedSimpArgs false
set_option linter.unusedVariables false
set_option maxRecDepth 100000
set_option maxHeartbeats 1000000
def K_eqX:Con:=⟨[.val ((.prod (.int .i64) (.prod (.int .i64) (.prod (.int .i64) (.prod (.int .i64) (.prod (.row 2 (.int .i64)) (.int .i64))))))),.val ((.prod (.int .i64) (.prod (.int .i64) (.prod (.int .i64) (.prod (.int .i64) (.prod (.row 2 (.int .i64)) (.int .i64)))))))],[⟨.bool,true⟩],fun _=>True,fun x=>eqD (x.1:InstrD) (x.2.1:InstrD)⟩
theorem eqX_ok:PureT Try.prog 64 K_eqX:=by
  refine pure_of_body Try.func64 rfl ?_
  have hres:Try.f64.results.toList=[.tmp 4]:=rfl
  rintro⟨⟨(kd:Int),(a:Int),(bb:Int),(nd:Int),(fr:List Int),(tt:Int)⟩,⟨(kd2:Int),(a2:Int),(bb2:Int),(nd2:Int),(fr2:List Int),(tt2:Int)⟩,_⟩ hc hL
  simp only[K_eqX,go_sem] at hL
  simp only[K_eqX,St.init,St.initG,Try.ntmps64,go_sem] 
  refine oS fun _ hK1=>?_
  refine oW T_eqP_ok ?_
  simp only[go_sem]
  refine hK1 _ ?_
  refine oS fun _ hK2=>?_
  refine oS fun _ hK3=>?_
  refine oW T_eqP_ok ?_
  simp (maxSteps:=2000000)only[go_sem]
  repeat(with_reducible refine oA ?_)
  refine hK3 _ ?_
  refine oC rfl ?_ ?_
  ·
   intro c0
   refine oS fun _ hK4=>?_
   refine oW T_eqP_ok ?_
   simp only[go_sem]
   refine hK4 _ ?_
   refine AWP_ret ?_
   simp only[hres,go_sem]
   first|exact oF|(refine⟨?_,oF⟩;clear hK1 hK2 hK3 hK4;simp_all [eqD])
  intro c0
  refine AWP_skip ?_
  simp only[go_sem]
  refine hK2 _ ?_
  refine oS fun _ hK5=>?_
  refine oS fun _ hK6=>?_
  refine oW T_eqP_ok ?_
  simp (maxSteps:=2000000)only[go_sem]
  repeat(with_reducible refine oA ?_)
  refine hK6 _ ?_
  refine oC rfl ?_ ?_
  ·
   intro c1
   refine oS fun _ hK7=>?_
   refine oW T_eqP_ok ?_
   simp only[go_sem]
   refine hK7 _ ?_
   refine AWP_ret ?_
   simp only[hres,go_sem]
   first|exact oF|(refine⟨?_,oF⟩;clear hK1 hK2 hK3 hK5 hK6 hK7;simp_all [eqD])
  intro c1
  refine AWP_skip ?_
  simp only[go_sem]
  refine hK5 _ ?_
  refine oS fun _ hK8=>?_
  refine oS fun _ hK9=>?_
  refine oW T_eqP_ok ?_
  simp (maxSteps:=2000000)only[go_sem]
  repeat(with_reducible refine oA ?_)
  refine hK9 _ ?_
  refine oC rfl ?_ ?_
  ·
   intro c2
   refine oS fun _ hK10=>?_
   refine oW T_eqP_ok ?_
   simp only[go_sem]
   refine hK10 _ ?_
   refine AWP_ret ?_
   simp only[hres,go_sem]
   first|exact oF|(refine⟨?_,oF⟩;clear hK1 hK2 hK3 hK5 hK6 hK8 hK9 hK10;simp_all [eqD])
  intro c2
  refine AWP_skip ?_
  simp only[go_sem]
  refine hK8 _ ?_
  refine oS fun _ hK11=>?_
  refine oS fun _ hK12=>?_
  refine oW T_eqP_ok ?_
  simp (maxSteps:=2000000)only[go_sem]
  repeat(with_reducible refine oA ?_)
  refine hK12 _ ?_
  refine oC rfl ?_ ?_
  ·
   intro c3
   refine oS fun _ hK13=>?_
   refine oW T_eqP_ok ?_
   simp only[go_sem]
   refine hK13 _ ?_
   refine AWP_ret ?_
   simp only[hres,go_sem]
   first|exact oF|(refine⟨?_,oF⟩;clear hK1 hK2 hK3 hK5 hK6 hK8 hK9 hK11 hK12 hK13;simp_all [eqD])
  intro c3
  refine AWP_skip ?_
  simp only[go_sem]
  refine hK11 _ ?_
  refine oS fun _ hK14=>?_
  refine oS fun _ hK15=>?_
  refine oW T_eqP_ok ?_
  simp (maxSteps:=2000000)only[go_sem]
  repeat(with_reducible refine oA ?_)
  refine hK15 _ ?_
  refine oC rfl ?_ ?_
  ·
   intro c4
   refine oS fun _ hK16=>?_
   refine oW T_eqP_ok ?_
   simp only[go_sem]
   refine hK16 _ ?_
   refine AWP_ret ?_
   simp only[hres,go_sem]
   first|exact oF|(refine⟨?_,oF⟩;clear hK1 hK2 hK3 hK5 hK6 hK8 hK9 hK11 hK12 hK14 hK15 hK16;simp_all [eqD])
  intro c4
  refine AWP_skip ?_
  simp only[go_sem]
  refine hK14 _ ?_
  refine oS fun _ hK17=>?_
  refine oS fun _ hK18=>?_
  refine oW T_eqP_ok ?_
  simp (maxSteps:=2000000)only[go_sem]
  repeat(with_reducible refine oA ?_)
  refine hK18 _ ?_
  refine oC rfl ?_ ?_
  ·
   intro c5
   refine oS fun _ hK19=>?_
   refine oW T_eqP_ok ?_
   simp only[go_sem]
   refine hK19 _ ?_
   refine AWP_ret ?_
   simp only[hres,go_sem]
   first|exact oF|(refine⟨?_,oF⟩;clear hK1 hK2 hK3 hK5 hK6 hK8 hK9 hK11 hK12 hK14 hK15 hK17 hK18 hK19;simp_all [eqD])
  intro c5
  refine AWP_skip ?_
  simp only[go_sem]
  refine hK17 _ ?_
  refine oS fun _ hK20=>?_
  refine oW T_eqP_ok ?_
  simp only[go_sem]
  refine hK20 _ ?_
  refine AWP_ret ?_
  simp only[hres,go_sem]
  first|exact oF|(refine⟨?_,oF⟩;clear hK1 hK2 hK3 hK5 hK6 hK8 hK9 hK11 hK12 hK14 hK15 hK17 hK18 hK20;simp_all [eqD])
def T_eqX:Tab:=fun f=>if f=64 then some (.p K_eqX) else T_eqP f
theorem T_eqX_ok:TabOk Try.prog T_eqX:=tabP eqX_ok (fnOk_of Try.func64 rfl (by decide)) T_eqP_ok
attribute [go_sem] T_eqX K_eqX
def K_eqXs:Con:=⟨[.val ((.row 49 (.prod (.int .i64) (.prod (.int .i64) (.prod (.int .i64) (.prod (.int .i64) (.prod (.row 2 (.int .i64)) (.int .i64)))))))),.val ((.row 49 (.prod (.int .i64) (.prod (.int .i64) (.prod (.int .i64) (.prod (.int .i64) (.prod (.row 2 (.int .i64)) (.int .i64))))))))],[⟨.bool,true⟩],fun _=>True,fun x=>eqD (x.1:List InstrD) (x.2.1:List InstrD)⟩
theorem eqXs_ok:PureT Try.prog 36 K_eqXs:=by
  refine pure_of_body Try.func36 rfl ?_
  have hres:Try.f36.results.toList=[.tmp 4]:=rfl
  rintro⟨(xs:List InstrD),(ys:List InstrD),_⟩ hc hL
  simp only[K_eqXs,go_sem] at hL
  obtain⟨lxs,lys⟩:=hL
  simp only[K_eqXs,St.init,St.initG,Try.ntmps36,go_sem] 
  refine oS fun _ hK1=>?_
  refine oW T_eqX_ok ?_
  simp only[go_sem]
  refine hK1 _ ?_
  refine oS fun _ hK2=>?_
  refine oS fun _ hK3=>?_
  refine oW T_eqX_ok ?_
  simp (maxSteps:=2000000)only[go_sem]
  refine hK3 _ ?_
  refine oC rfl ?_ ?_
  ·
   intro c0
   refine oS fun _ hK4=>?_
   refine oW T_eqX_ok ?_
   simp only[go_sem]
   refine hK4 _ ?_
   refine AWP_ret ?_
   simp only[hres,go_sem]
   first|exact oF|(refine⟨?_,oF⟩;exact(eq_len (by omega)).symm)
  intro c0
  refine AWP_skip ?_
  simp only[go_sem]
  refine hK2 _ ?_
  refine oS fun _ hK5=>?_
  refine oS fun _ hK6=>?_
  refine oW T_eqX_ok ?_
  simp only[go_sem]
  refine hK6 _ ?_
  refine AWP_block ?_
  refine AWP_loop_k (ι:={ k:Nat // k≤xs.length∧xs.take k=ys.take k }) (fun k=>⟨[.c (.rd [] 49 ((.prod (.int .i64) (.prod (.int .i64) (.prod (.int .i64) (.prod (.int .i64) (.prod (.row 2 (.int .i64)) (.int .i64))))))) (xs)),.c (.rd [] 49 ((.prod (.int .i64) (.prod (.int .i64) (.prod (.int .i64) (.prod (.int .i64) (.prod (.row 2 (.int .i64)) (.int .i64))))))) (ys)),zz,zz,zz,.c (.sc (.int .i64 (k.1))),zz,zz,zz,zz,zz,zz,zz,zz,zz,zz,zz,zz,zz,zz,zz,zz,zz,zz,zz,zz,zz],[]⟩) (fun k=>xs.length - k.1) ⟨0,by simp,by simp⟩ ?_ ?_
  ·
   refine oK ?_
   simp (maxSteps:=2000000)only[go_sem]
   all_goals(first|rfl|((repeat' refine And.intro ?_ ?_)<;>first|rfl|simp))
  rintro⟨k,hk,hp⟩ K7 hL7
  refine oS fun _ hK8=>?_
  refine oS fun _ hK9=>?_
  refine oW T_eqX_ok ?_
  simp only[go_sem]
  refine hK9 _ ?_
  refine oC rfl ?_ ?_
  ·
   intro c1
   refine AWP_skip ?_
   simp only[go_sem]
   refine hK8 _ ?_
   refine oS fun _ hK10=>?_
   refine AWP_block ?_
   refine oS fun _ hK11=>?_
   refine oR T_eqX_ok
     [[],[],[0,1],[0,1,2],[],[],[4,5],[4,5,6],[0,1,2,3,4,5,6,7],[0,1,2,3,4,5,6,7,8]]
     [[],[],[],[],[],[],[],[],[],[]]
     [[],[],[],[],[],[],[],[],[],[]] (by kernel_rfl) (by kernel_rfl) (adrawR_ok (acc:=[]) ?_)
   simp (maxSteps:=2000000)only[go_sem]
   repeat(with_reducible refine oD ?_)
   refine hK11 _ ?_
   refine oC rfl ?_ ?_
   ·
    intro c2
    refine oS fun _ hK12=>?_
    refine oW T_eqX_ok ?_
    simp only[go_sem]
    refine hK12 _ ?_
    refine AWP_ret ?_
    simp only[hres,go_sem]
    first|exact oF|(refine⟨?_,oF⟩;exact(eq_stop ((0,0,0,0,[],0):InstrD) (m:=k) (by first|assumption|exact decide_eq_false (by assumption))).symm)
   intro c2
   refine AWP_skip ?_
   simp only[go_sem]
   refine hK10 _ ?_
   refine oW T_eqX_ok ?_
   simp only[go_sem]
   refine hL7 ⟨k+1,by omega,eq_next (d:=((0,0,0,0,[],0):InstrD)) (by omega) (by omega) hp (by first|assumption|exact decide_eq_true (by assumption))⟩ _ (oK ?_) ?_
   ·
    simp (maxSteps:=2000000)only[go_sem]
    all_goals(first|rfl|((repeat' refine And.intro ?_ ?_)<;>first|rfl|exact wk (by omega)|simp))
   ·
    first|(simp only[];omega)|omega|(simp;omega)
  intro c1
  refine AWP_exit ?_
  simp only[go_sem]
  refine hK5 _ ?_
  refine oS fun _ hK13=>?_
  refine oW T_eqX_ok ?_
  simp only[go_sem]
  refine hK13 _ ?_
  refine AWP_ret ?_
  simp only[hres,go_sem]
  first|exact oF|(refine⟨?_,oF⟩;exact(eq_done (m:=k) (by omega) (by omega) hp).symm)
def T_eqXs:Tab:=fun f=>if f=36 then some (.p K_eqXs) else T_eqX f
theorem T_eqXs_ok:TabOk Try.prog T_eqXs:=tabP eqXs_ok (fnOk_of Try.func36 rfl (by decide)) T_eqX_ok
attribute [go_sem] T_eqXs K_eqXs
def K_eqG:Con:=⟨[.val ((.prod (.int .i64) (.prod (.int .i64) (.prod (.row 24 (.row 2 (.int .i64))) (.prod (.row 49 (.prod (.int .i64) (.prod (.int .i64) (.prod (.int .i64) (.prod (.int .i64) (.prod (.row 2 (.int .i64)) (.int .i64))))))) (.row 2 (.int .i64))))))),.val ((.prod (.int .i64) (.prod (.int .i64) (.prod (.row 24 (.row 2 (.int .i64))) (.prod (.row 49 (.prod (.int .i64) (.prod (.int .i64) (.prod (.int .i64) (.prod (.int .i64) (.prod (.row 2 (.int .i64)) (.int .i64))))))) (.row 2 (.int .i64)))))))],[⟨.bool,true⟩],fun _=>True,fun x=>eqD (x.1:ProgD) (x.2.1:ProgD)⟩
theorem eqG_ok:PureT Try.prog 11 K_eqG:=by
  refine pure_of_body Try.func11 rfl ?_
  have hres:Try.f11.results.toList=[.tmp 4]:=rfl
  rintro⟨⟨(pi:Int),(rg:Int),(ts:List (List Int)),(xs:List InstrD),(os:List Int)⟩,⟨(pi2:Int),(rg2:Int),(ts2:List (List Int)),(xs2:List InstrD),(os2:List Int)⟩,_⟩ hc hL
  simp only[K_eqG,go_sem] at hL
  simp only[K_eqG,St.init,St.initG,Try.ntmps11,go_sem] 
  refine oS fun _ hK1=>?_
  refine oW T_eqXs_ok ?_
  simp only[go_sem]
  refine hK1 _ ?_
  refine oS fun _ hK2=>?_
  refine oS fun _ hK3=>?_
  refine oW T_eqXs_ok ?_
  simp (maxSteps:=2000000)only[go_sem]
  repeat(with_reducible refine oA ?_)
  refine hK3 _ ?_
  refine oC rfl ?_ ?_
  ·
   intro c0
   refine oS fun _ hK4=>?_
   refine oW T_eqXs_ok ?_
   simp only[go_sem]
   refine hK4 _ ?_
   refine AWP_ret ?_
   simp only[hres,go_sem]
   first|exact oF|(refine⟨?_,oF⟩;clear hK1 hK2 hK3 hK4;simp_all [eqD])
  intro c0
  refine AWP_skip ?_
  simp only[go_sem]
  refine hK2 _ ?_
  refine oS fun _ hK5=>?_
  refine oS fun _ hK6=>?_
  refine oW T_eqXs_ok ?_
  simp (maxSteps:=2000000)only[go_sem]
  repeat(with_reducible refine oA ?_)
  refine hK6 _ ?_
  refine oC rfl ?_ ?_
  ·
   intro c1
   refine oS fun _ hK7=>?_
   refine oW T_eqXs_ok ?_
   simp only[go_sem]
   refine hK7 _ ?_
   refine AWP_ret ?_
   simp only[hres,go_sem]
   first|exact oF|(refine⟨?_,oF⟩;clear hK1 hK2 hK3 hK5 hK6 hK7;simp_all [eqD])
  intro c1
  refine AWP_skip ?_
  simp only[go_sem]
  refine hK5 _ ?_
  refine oS fun _ hK8=>?_
  refine oS fun _ hK9=>?_
  refine oW T_eqXs_ok ?_
  simp (maxSteps:=2000000)only[go_sem]
  repeat(with_reducible refine oA ?_)
  refine hK9 _ ?_
  refine oC rfl ?_ ?_
  ·
   intro c2
   refine oS fun _ hK10=>?_
   refine oW T_eqXs_ok ?_
   simp only[go_sem]
   refine hK10 _ ?_
   refine AWP_ret ?_
   simp only[hres,go_sem]
   first|exact oF|(refine⟨?_,oF⟩;clear hK1 hK2 hK3 hK5 hK6 hK8 hK9 hK10;simp_all [eqD])
  intro c2
  refine AWP_skip ?_
  simp only[go_sem]
  refine hK8 _ ?_
  refine oS fun _ hK11=>?_
  refine oS fun _ hK12=>?_
  refine oW T_eqXs_ok ?_
  simp (maxSteps:=2000000)only[go_sem]
  repeat(with_reducible refine oA ?_)
  refine hK12 _ ?_
  refine oC rfl ?_ ?_
  ·
   intro c3
   refine oS fun _ hK13=>?_
   refine oW T_eqXs_ok ?_
   simp only[go_sem]
   refine hK13 _ ?_
   refine AWP_ret ?_
   simp only[hres,go_sem]
   first|exact oF|(refine⟨?_,oF⟩;clear hK1 hK2 hK3 hK5 hK6 hK8 hK9 hK11 hK12 hK13;simp_all [eqD])
  intro c3
  refine AWP_skip ?_
  simp only[go_sem]
  refine hK11 _ ?_
  refine oS fun _ hK14=>?_
  refine oS fun _ hK15=>?_
  refine oW T_eqXs_ok ?_
  simp (maxSteps:=2000000)only[go_sem]
  repeat(with_reducible refine oA ?_)
  refine hK15 _ ?_
  refine oC rfl ?_ ?_
  ·
   intro c4
   refine oS fun _ hK16=>?_
   refine oW T_eqXs_ok ?_
   simp only[go_sem]
   refine hK16 _ ?_
   refine AWP_ret ?_
   simp only[hres,go_sem]
   first|exact oF|(refine⟨?_,oF⟩;clear hK1 hK2 hK3 hK5 hK6 hK8 hK9 hK11 hK12 hK14 hK15 hK16;simp_all [eqD])
  intro c4
  refine AWP_skip ?_
  simp only[go_sem]
  refine hK14 _ ?_
  refine oS fun _ hK17=>?_
  refine oW T_eqXs_ok ?_
  simp only[go_sem]
  refine hK17 _ ?_
  refine AWP_ret ?_
  simp only[hres,go_sem]
  first|exact oF|(refine⟨?_,oF⟩;clear hK1 hK2 hK3 hK5 hK6 hK8 hK9 hK11 hK12 hK14 hK15 hK17;simp_all [eqD])
def T_eqG:Tab:=fun f=>if f=11 then some (.p K_eqG) else T_eqXs f
theorem T_eqG_ok:TabOk Try.prog T_eqG:=tabP eqG_ok (fnOk_of Try.func11 rfl (by decide)) T_eqXs_ok
attribute [go_sem] T_eqG K_eqG
end Go.Proofs.Ytenjbehedcegdaa
