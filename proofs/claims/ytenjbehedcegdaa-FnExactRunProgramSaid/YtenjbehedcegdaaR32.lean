/-
  Texts of this claim, joined (part 32). No condition beyond those of the theorems.
-/
import Derived.Test.YtenjbehedcegdaaR21
import Derived.Test.YtenjbehedcegdaaR25
import Derived.Test.YtenjbehedcegdaaR24
import Derived.Test.YtenjbehedcegdaaR31
namespace Go.Proofs.Ytenjbehedcegdaa
open Go.RowKit
set_option linter.unusedSimpArgs false
set_option linter.unusedVariables false
set_option maxRecDepth 100000
set_option maxHeartbeats 4000000
def T_mHpA0:Tab:=fun f=>match T_l06Look f with
 | some k=>some k
 | none=>T_l11Ok f
theorem T_mHpA0_ok:TabOk Try.prog T_mHpA0:=tabM T_l06Look_ok T_l11Ok_ok
attribute [go_sem] T_mHpA0 T0
def K_l11Dly:Con:=⟨[.val ((.row 49 (.prod (.int .i64) (.prod (.int .i64) (.prod (.int .i64) (.prod (.int .i64) (.prod (.row 2 (.int .i64)) (.int .i64)))))))),.val (.int .i64)],[⟨.int .i64,true⟩],fun x=>x.1.length≤48,fun x=>((dlyN x.1 x.2.1:Nat):Int)⟩
theorem l11Dly_ok:PureT Try.prog 49 K_l11Dly:=by
  refine pure_of_body Try.func49 rfl ?_
  have hres:Try.f49.results.toList=[.tmp 4]:=rfl
  rintro⟨(xs:List InstrD),(nn:Int),_⟩ hc hL
  simp only[K_l11Dly,go_sem] at hL
  simp only[K_l11Dly,St.init,St.initG,Try.ntmps49,go_sem] 
  have hxl:xs.length≤48:=hc
  have hx0:x0=((0,0,0,0,[],0):InstrD):=rfl
  refine oS fun _ hK1=>?_
  refine oW T_mHpA0_ok ?_
  simp only[go_sem]
  refine hK1 _ ?_
  refine oS fun _ hK2=>?_
  refine oS fun _ hK3=>?_
  refine oW T_mHpA0_ok ?_
  simp only[go_sem]
  refine hK3 _ ?_
  refine AWP_block ?_
  refine AWP_loop_k (ι:={ k:Nat // DlyI xs nn k }) (fun k=>⟨[.c (.rd [] 49 ((.prod (.int .i64) (.prod (.int .i64) (.prod (.int .i64) (.prod (.int .i64) (.prod (.row 2 (.int .i64)) (.int .i64))))))) (xs)),.c (.sc (.int .i64 (nn))),zz,zz,zz,.c (.sc (.int .i64 (k.1))),zz,zz,zz,zz,zz,zz,zz,zz,zz,zz,zz,zz,zz,zz,zz,zz,zz,zz,zz,zz,zz,zz],[]⟩) (fun k=>xs.length - k.1) ⟨0,Nat.zero_le _,fun j h=>by omega⟩ ?_ ?_
  ·
   refine oK ?_
   simp (maxSteps:=2000000)only[go_sem]
   all_goals((repeat' refine And.intro ?_ ?_)<;>first|rfl|(congr 1;done)|(simp;done))
  rintro⟨k,hp⟩ K4 hL4
  have hk:k≤xs.length:=hp.1
  refine oS fun _ hK5=>?_
  refine oS fun _ hK6=>?_
  refine oW T_mHpA0_ok ?_
  simp only[go_sem]
  refine hK6 _ ?_
  refine oC rfl ?_ ?_
  ·
   intro c0
   refine AWP_skip ?_
   simp only[go_sem]
   refine hK5 _ ?_
   refine oS fun _ hK7=>?_
   refine AWP_block ?_
   refine oS fun _ hK8=>?_
   refine oW T_mHpA0_ok ?_
   simp (maxSteps:=2000000)only[go_sem]
   repeat' (with_reducible first|refine oA ?_|refine oT (fun g4=>?_) (fun g4=>?_)|refine oE (fun g4=>?_) (fun g4=>?_))
   all_goals
    refine hK8 _ ?_
    refine AWP_cond rfl ?_ ?_
    ·
     intro c1
     try simp only[zA,zB,zC,zD,zE,zF,zG,zH,zI] at c1
     all_goals
      have hy1:(xs.getD k ((0,0,0,0,[],0):InstrD)).1=6:=by first|assumption|omega
      have hy2:(xs.getD k ((0,0,0,0,[],0):InstrD)).2.2.2.1=nn:=by first|assumption|omega
      refine oS fun _ hK9=>?_
      refine oW T_mHpA0_ok ?_
      simp only[go_sem]
      refine hK9 _ ?_
      refine AWP_ret ?_
      simp only[hres,go_sem]
      first|exact oF|(refine⟨?_,oF⟩;rw[hp.hit (by omega) hy1 hy2])
    ·
     intro c1
     try simp only[zA,zB,zC,zD,zE,zF,zG,zH,zI] at c1
     all_goals
      have hno:¬((xs.getD k ((0,0,0,0,[],0):InstrD)).1=6∧(xs.getD k ((0,0,0,0,[],0):InstrD)).2.2.2.1=nn):=by first|omega|(clear hK1 hK2 hK3 hL4 hK5 hK6 hK7 hK8;simp_all;done)
      refine AWP_skip ?_
      simp only[go_sem]
      refine hK7 _ ?_
      refine oW T_mHpA0_ok ?_
      simp only[go_sem]
      refine hL4 ⟨k+1,hp.next (by omega) hno⟩ _ (oK ?_) ?_
      ·
       simp (maxSteps:=2000000)only[go_sem]
       all_goals((repeat' refine And.intro ?_ ?_)<;>first|rfl|exact wk (by omega)|(congr 1;done))
      ·
       first|(simp only[];omega)|omega|(simp;omega)
  intro c0
  refine AWP_exit ?_
  simp only[go_sem]
  refine hK2 _ ?_
  refine oS fun _ hK10=>?_
  refine oW T_mHpA0_ok ?_
  simp only[go_sem]
  refine hK10 _ ?_
  refine AWP_ret ?_
  simp only[hres,go_sem]
  first|exact oF|(refine⟨?_,oF⟩;rw[hp.fin (by omega)];rfl)
def T_l11Dly:Tab:=fun f=>if f=49 then some (.p K_l11Dly) else T_mHpA0 f
theorem T_l11Dly_ok:TabOk Try.prog T_l11Dly:=tabP l11Dly_ok (fnOk_of Try.func49 rfl (by decide)) T_mHpA0_ok
attribute [go_sem] T_l11Dly K_l11Dly
def K_l06StartX:Con:=⟨[.ptr (.prod (.int .i64) (.prod (.int .i64) (.prod (.int .i64) (.row 2 (.int .i64)))))],[⟨(.row 2 (.int .i64)),true⟩],fun x=>startC x.1,fun x=>startV x.1⟩
theorem l06StartX_ok:PureT Try.prog 47 K_l06StartX:=by
  refine pure_of_body Try.func47 rfl ?_
  have hres:Try.f47.results.toList=[.tmp 2]:=rfl
  rintro⟨⟨(kd:Int),(a:Int),(bb:Int),(fr:List Int)⟩,_⟩ hc hL
  simp only[K_l06StartX,go_sem] at hL
  simp only[K_l06StartX,St.init,St.initG,Try.ntmps47,go_sem] 
  obtain⟨h1,h2,h3,h4⟩:=(show startC (kd,a,bb,fr) from hc)
  simp only at h1 h2 h3 h4
  refine oS fun _ hK1=>?_
  refine oW T_l11Dly_ok ?_
  simp only[go_sem]
  repeat(with_reducible first|refine oA ?_|refine And.intro (by first|exact inR_iff.2 (by omega)|decide) ?_)
  refine hK1 _ ?_
  refine oS fun _ hK2=>?_
  refine oS fun _ hK3=>?_
  refine oW T_l11Dly_ok ?_
  simp only[go_sem]
  repeat(with_reducible first|refine oA ?_|refine And.intro (by first|exact inR_iff.2 (by omega)|decide) ?_)
  refine hK3 _ ?_
  refine AWP_block ?_
  refine oS fun _ hK4=>?_
  refine oW T_l11Dly_ok ?_
  simp only[go_sem]
  repeat(with_reducible first|refine oA ?_|refine And.intro (by first|exact inR_iff.2 (by omega)|decide) ?_)
  refine hK4 _ ?_
  refine oC rfl ?_ ?_
  ·
   intro c0
   refine oS fun _ hK5=>?_
   refine oW T_l11Dly_ok ?_
   simp (maxSteps:=2000000)only[go_sem]
   repeat(with_reducible first|refine oA ?_|refine And.intro (by first|exact inR_iff.2 (by omega)|decide) ?_)
   refine hK5 _ ?_
   refine AWP_ret ?_
   simp only[hres,go_sem]
   first|exact oF|(refine⟨?_,oF⟩;first|(have e:kd=6:=(by assumption);subst e;rfl)|(exfalso;omega)|exact(startV_none (by omega) (by omega) (by omega) (by omega) (by omega) (by omega) (by omega)).symm)
  intro c0
  refine oS fun _ hK6=>?_
  refine oW T_l11Dly_ok ?_
  simp only[go_sem]
  repeat(with_reducible first|refine oA ?_|refine And.intro (by first|exact inR_iff.2 (by omega)|decide) ?_)
  refine hK6 _ ?_
  refine oC rfl ?_ ?_
  ·
   intro c1
   refine oS fun _ hK7=>?_
   refine oW T_l11Dly_ok ?_
   simp (maxSteps:=2000000)only[go_sem]
   repeat(with_reducible first|refine oA ?_|refine And.intro (by first|exact inR_iff.2 (by omega)|decide) ?_)
   refine hK7 _ ?_
   refine AWP_ret ?_
   simp only[hres,go_sem]
   first|exact oF|(refine⟨?_,oF⟩;first|(have e:kd=17:=(by assumption);subst e;rfl)|(exfalso;omega)|exact(startV_none (by omega) (by omega) (by omega) (by omega) (by omega) (by omega) (by omega)).symm)
  intro c1
  refine oS fun _ hK8=>?_
  refine oS fun _ hK9=>?_
  refine oW T_l11Dly_ok ?_
  simp only[go_sem]
  repeat(with_reducible first|refine oA ?_|refine And.intro (by first|exact inR_iff.2 (by omega)|decide) ?_)
  refine hK9 _ ?_
  refine oC rfl ?_ ?_
  ·
   intro c2
   refine AWP_skip ?_
   simp only[go_sem]
   refine hK8 _ ?_
   refine oC rfl ?_ ?_
   ·
    intro c4
    refine oS fun _ hK10=>?_
    refine oW T_l11Dly_ok ?_
    simp only[List.nodup_nil,go_sem]
    repeat(with_reducible first|refine oA ?_|refine And.intro (by first|exact inR_iff.2 (by omega)|decide) ?_)
    refine hK10 _ ?_
    refine AWP_ret ?_
    simp only[hres,go_sem]
    first|exact oF|(refine⟨?_,oF⟩;first|(have e:kd=7:=(by assumption);subst e;rfl)|(exfalso;omega)|exact(startV_none (by omega) (by omega) (by omega) (by omega) (by omega) (by omega) (by omega)).symm)
   intro c4
   refine oS fun _ hK11=>?_
   refine oS fun _ hK12=>?_
   refine oW T_l11Dly_ok ?_
   simp only[go_sem]
   repeat(with_reducible first|refine oA ?_|refine And.intro (by first|exact inR_iff.2 (by omega)|decide) ?_)
   refine hK12 _ ?_
   refine oC rfl ?_ ?_
   ·
    intro c5
    refine AWP_skip ?_
    simp only[go_sem]
    refine hK11 _ ?_
    refine oC rfl ?_ ?_
    ·
     intro c6
     refine oS fun _ hK13=>?_
     refine oW T_l11Dly_ok ?_
     simp (maxSteps:=2000000)only[List.nodup_nil,go_sem]
     repeat(with_reducible first|refine oA ?_|refine And.intro (by first|exact inR_iff.2 (by omega)|decide) ?_)
     refine hK13 _ ?_
     refine AWP_ret ?_
     simp only[hres,go_sem]
     first|exact oF|(refine⟨?_,oF⟩;first|(have e:kd=12:=(by assumption);subst e;rfl)|(exfalso;omega)|exact(startV_none (by omega) (by omega) (by omega) (by omega) (by omega) (by omega) (by omega)).symm)
    intro c6
    refine AWP_skip ?_
    simp only[go_sem]
    refine hK2 _ ?_
    refine oS fun _ hK14=>?_
    refine oW T_l11Dly_ok ?_
    simp only[List.nodup_nil,go_sem]
    repeat(with_reducible first|refine oA ?_|refine And.intro (by first|exact inR_iff.2 (by omega)|decide) ?_)
    refine hK14 _ ?_
    refine AWP_ret ?_
    simp only[hres,go_sem]
    first|exact oF|(refine⟨?_,oF⟩;first|(have e:kd=12:=(by assumption);subst e;rfl)|(exfalso;omega)|exact(startV_none (by omega) (by omega) (by omega) (by omega) (by omega) (by omega) (by omega)).symm)
   intro c5
   refine oW T_l11Dly_ok ?_
   simp only[go_sem]
   repeat(with_reducible first|refine oA ?_|refine And.intro (by first|exact inR_iff.2 (by omega)|decide) ?_)
   refine hK11 _ ?_
   refine oC rfl ?_ ?_
   ·
    intro c6
    refine oS fun _ hK15=>?_
    refine oW T_l11Dly_ok ?_
    simp (maxSteps:=2000000)only[List.nodup_nil,go_sem]
    repeat(with_reducible first|refine oA ?_|refine And.intro (by first|exact inR_iff.2 (by omega)|decide) ?_)
    refine hK15 _ ?_
    refine AWP_ret ?_
    simp only[hres,go_sem]
    first|exact oF|(refine⟨?_,oF⟩;first|(have e:kd=14:=(by assumption);subst e;rfl)|(exfalso;omega)|exact(startV_none (by omega) (by omega) (by omega) (by omega) (by omega) (by omega) (by omega)).symm)
   intro c6
   refine AWP_skip ?_
   simp only[go_sem]
   refine hK2 _ ?_
   refine oS fun _ hK16=>?_
   refine oW T_l11Dly_ok ?_
   simp only[List.nodup_nil,go_sem]
   repeat(with_reducible first|refine oA ?_|refine And.intro (by first|exact inR_iff.2 (by omega)|decide) ?_)
   refine hK16 _ ?_
   refine AWP_ret ?_
   simp only[hres,go_sem]
   first|exact oF|(refine⟨?_,oF⟩;first|(have e:kd=7:=(by assumption);subst e;rfl)|(exfalso;omega)|exact(startV_none (by omega) (by omega) (by omega) (by omega) (by omega) (by omega) (by omega)).symm)
  intro c2
  refine oS fun _ hK17=>?_
  refine oW T_l11Dly_ok ?_
  simp only[go_sem]
  repeat(with_reducible first|refine oA ?_|refine And.intro (by first|exact inR_iff.2 (by omega)|decide) ?_)
  refine hK17 _ ?_
  refine oC rfl ?_ ?_
  ·
   intro c3
   refine AWP_skip ?_
   simp only[go_sem]
   refine hK8 _ ?_
   refine oC rfl ?_ ?_
   ·
    intro c4
    refine oS fun _ hK18=>?_
    refine oW T_l11Dly_ok ?_
    simp only[List.nodup_nil,go_sem]
    repeat(with_reducible first|refine oA ?_|refine And.intro (by first|exact inR_iff.2 (by omega)|decide) ?_)
    refine hK18 _ ?_
    refine AWP_ret ?_
    simp only[hres,go_sem]
    first|exact oF|(refine⟨?_,oF⟩;first|(have e:kd=8:=(by assumption);subst e;rfl)|(exfalso;omega)|exact(startV_none (by omega) (by omega) (by omega) (by omega) (by omega) (by omega) (by omega)).symm)
   intro c4
   refine oS fun _ hK19=>?_
   refine oS fun _ hK20=>?_
   refine oW T_l11Dly_ok ?_
   simp only[go_sem]
   repeat(with_reducible first|refine oA ?_|refine And.intro (by first|exact inR_iff.2 (by omega)|decide) ?_)
   refine hK20 _ ?_
   refine oC rfl ?_ ?_
   ·
    intro c5
    refine AWP_skip ?_
    simp only[go_sem]
    refine hK19 _ ?_
    refine oC rfl ?_ ?_
    ·
     intro c6
     refine oS fun _ hK21=>?_
     refine oW T_l11Dly_ok ?_
     simp (maxSteps:=2000000)only[List.nodup_nil,go_sem]
     repeat(with_reducible first|refine oA ?_|refine And.intro (by first|exact inR_iff.2 (by omega)|decide) ?_)
     refine hK21 _ ?_
     refine AWP_ret ?_
     simp only[hres,go_sem]
     first|exact oF|(refine⟨?_,oF⟩;first|(have e:kd=12:=(by assumption);subst e;rfl)|(exfalso;omega)|exact(startV_none (by omega) (by omega) (by omega) (by omega) (by omega) (by omega) (by omega)).symm)
    intro c6
    refine AWP_skip ?_
    simp only[go_sem]
    refine hK2 _ ?_
    refine oS fun _ hK22=>?_
    refine oW T_l11Dly_ok ?_
    simp only[List.nodup_nil,go_sem]
    repeat(with_reducible first|refine oA ?_|refine And.intro (by first|exact inR_iff.2 (by omega)|decide) ?_)
    refine hK22 _ ?_
    refine AWP_ret ?_
    simp only[hres,go_sem]
    first|exact oF|(refine⟨?_,oF⟩;first|(have e:kd=12:=(by assumption);subst e;rfl)|(exfalso;omega)|exact(startV_none (by omega) (by omega) (by omega) (by omega) (by omega) (by omega) (by omega)).symm)
   intro c5
   refine oW T_l11Dly_ok ?_
   simp only[go_sem]
   repeat(with_reducible first|refine oA ?_|refine And.intro (by first|exact inR_iff.2 (by omega)|decide) ?_)
   refine hK19 _ ?_
   refine oC rfl ?_ ?_
   ·
    intro c6
    refine oS fun _ hK23=>?_
    refine oW T_l11Dly_ok ?_
    simp (maxSteps:=2000000)only[List.nodup_nil,go_sem]
    repeat(with_reducible first|refine oA ?_|refine And.intro (by first|exact inR_iff.2 (by omega)|decide) ?_)
    refine hK23 _ ?_
    refine AWP_ret ?_
    simp only[hres,go_sem]
    first|exact oF|(refine⟨?_,oF⟩;first|(have e:kd=14:=(by assumption);subst e;rfl)|(exfalso;omega)|exact(startV_none (by omega) (by omega) (by omega) (by omega) (by omega) (by omega) (by omega)).symm)
   intro c6
   refine AWP_skip ?_
   simp only[go_sem]
   refine hK2 _ ?_
   refine oS fun _ hK24=>?_
   refine oW T_l11Dly_ok ?_
   simp only[List.nodup_nil,go_sem]
   repeat(with_reducible first|refine oA ?_|refine And.intro (by first|exact inR_iff.2 (by omega)|decide) ?_)
   refine hK24 _ ?_
   refine AWP_ret ?_
   simp only[hres,go_sem]
   first|exact oF|(refine⟨?_,oF⟩;first|(have e:kd=8:=(by assumption);subst e;rfl)|(exfalso;omega)|exact(startV_none (by omega) (by omega) (by omega) (by omega) (by omega) (by omega) (by omega)).symm)
  intro c3
  refine oW T_l11Dly_ok ?_
  simp only[go_sem]
  repeat(with_reducible first|refine oA ?_|refine And.intro (by first|exact inR_iff.2 (by omega)|decide) ?_)
  refine hK8 _ ?_
  refine oC rfl ?_ ?_
  ·
   intro c4
   refine oS fun _ hK25=>?_
   refine oW T_l11Dly_ok ?_
   simp only[List.nodup_nil,go_sem]
   repeat(with_reducible first|refine oA ?_|refine And.intro (by first|exact inR_iff.2 (by omega)|decide) ?_)
   refine hK25 _ ?_
   refine AWP_ret ?_
   simp only[hres,go_sem]
   first|exact oF|(refine⟨?_,oF⟩;first|(have e:kd=16:=(by assumption);subst e;rfl)|(exfalso;omega)|exact(startV_none (by omega) (by omega) (by omega) (by omega) (by omega) (by omega) (by omega)).symm)
  intro c4
  refine oS fun _ hK26=>?_
  refine oS fun _ hK27=>?_
  refine oW T_l11Dly_ok ?_
  simp only[go_sem]
  repeat(with_reducible first|refine oA ?_|refine And.intro (by first|exact inR_iff.2 (by omega)|decide) ?_)
  refine hK27 _ ?_
  refine oC rfl ?_ ?_
  ·
   intro c5
   refine AWP_skip ?_
   simp only[go_sem]
   refine hK26 _ ?_
   refine oC rfl ?_ ?_
   ·
    intro c6
    refine oS fun _ hK28=>?_
    refine oW T_l11Dly_ok ?_
    simp (maxSteps:=2000000)only[List.nodup_nil,go_sem]
    repeat(with_reducible first|refine oA ?_|refine And.intro (by first|exact inR_iff.2 (by omega)|decide) ?_)
    refine hK28 _ ?_
    refine AWP_ret ?_
    simp only[hres,go_sem]
    first|exact oF|(refine⟨?_,oF⟩;first|(have e:kd=12:=(by assumption);subst e;rfl)|(exfalso;omega)|exact(startV_none (by omega) (by omega) (by omega) (by omega) (by omega) (by omega) (by omega)).symm)
   intro c6
   refine AWP_skip ?_
   simp only[go_sem]
   refine hK2 _ ?_
   refine oS fun _ hK29=>?_
   refine oW T_l11Dly_ok ?_
   simp only[List.nodup_nil,go_sem]
   repeat(with_reducible first|refine oA ?_|refine And.intro (by first|exact inR_iff.2 (by omega)|decide) ?_)
   refine hK29 _ ?_
   refine AWP_ret ?_
   simp only[hres,go_sem]
   first|exact oF|(refine⟨?_,oF⟩;first|(have e:kd=12:=(by assumption);subst e;rfl)|(exfalso;omega)|exact(startV_none (by omega) (by omega) (by omega) (by omega) (by omega) (by omega) (by omega)).symm)
  intro c5
  refine oW T_l11Dly_ok ?_
  simp only[go_sem]
  repeat(with_reducible first|refine oA ?_|refine And.intro (by first|exact inR_iff.2 (by omega)|decide) ?_)
  refine hK26 _ ?_
  refine oC rfl ?_ ?_
  ·
   intro c6
   refine oS fun _ hK30=>?_
   refine oW T_l11Dly_ok ?_
   simp (maxSteps:=2000000)only[List.nodup_nil,go_sem]
   repeat(with_reducible first|refine oA ?_|refine And.intro (by first|exact inR_iff.2 (by omega)|decide) ?_)
   refine hK30 _ ?_
   refine AWP_ret ?_
   simp only[hres,go_sem]
   first|exact oF|(refine⟨?_,oF⟩;first|(have e:kd=14:=(by assumption);subst e;rfl)|(exfalso;omega)|exact(startV_none (by omega) (by omega) (by omega) (by omega) (by omega) (by omega) (by omega)).symm)
  intro c6
  refine AWP_skip ?_
  simp only[go_sem]
  refine hK2 _ ?_
  refine oS fun _ hK31=>?_
  refine oW T_l11Dly_ok ?_
  simp only[List.nodup_nil,go_sem]
  repeat(with_reducible first|refine oA ?_|refine And.intro (by first|exact inR_iff.2 (by omega)|decide) ?_)
  refine hK31 _ ?_
  refine AWP_ret ?_
  simp only[hres,go_sem]
  first|exact oF|(refine⟨?_,oF⟩;first|(have e:kd=0:=(by assumption);subst e;rfl)|(exfalso;omega)|exact(startV_none (by omega) (by omega) (by omega) (by omega) (by omega) (by omega) (by omega)).symm)
def T_l06StartX:Tab:=fun f=>if f=47 then some (.p K_l06StartX) else T_l11Dly f
theorem T_l06StartX_ok:TabOk Try.prog T_l06StartX:=tabP l06StartX_ok (fnOk_of Try.func47 rfl (by decide)) T_l11Dly_ok
attribute [go_sem] T_l06StartX K_l06StartX
def K_l11Start:Con:=⟨[.ptr (.prod (.int .i64) (.prod (.int .i64) (.prod (.int .i64) (.prod (.int .i64) (.prod (.row 2 (.int .i64)) (.int .i64))))))],[⟨(.row 2 (.int .i64)),true⟩],fun x=>¬x.1.1=18→startC (nodeX x.1),fun x=>startI x.1⟩
theorem l11Start_ok:PureT Try.prog 20 K_l11Start:=by
  refine pure_of_body Try.func20 rfl ?_
  have hres:Try.f20.results.toList=[.tmp 2]:=rfl
  rintro⟨⟨(kd:Int),(a:Int),(bb:Int),(nd:Int),(fr:List Int),(tt:Int)⟩,_⟩ hc hL
  simp only[K_l11Start,go_sem] at hL
  simp only[K_l11Start,St.init,St.initG,Try.ntmps20,go_sem] 
  refine oS fun _ hK1=>?_
  refine oW T_l06StartX_ok ?_
  simp only[go_sem]
  refine hK1 _ ?_
  refine oS fun _ hK2=>?_
  refine oS fun _ hK3=>?_
  refine oW T_l06StartX_ok ?_
  simp (maxSteps:=2000000)only[go_sem]
  repeat(with_reducible refine oA ?_)
  refine hK3 _ ?_
  refine oC rfl ?_ ?_
  ·
   intro c0
   refine oS fun _ hK4=>?_
   refine oW T_l06StartX_ok ?_
   simp only[List.nodup_cons,List.nodup_nil,List.not_mem_nil,not_false_eq_true,go_sem]
   repeat(with_reducible refine oA ?_)
   refine hK4 _ ?_
   refine AWP_ret ?_
   simp only[hres,go_sem]
   first|exact oF|(refine⟨?_,oF⟩;exact(startI_t (x:=(kd,a,bb,nd,fr,tt)) c0).symm)
  intro c0
  have hsc:=hc (by first|assumption|omega)
  have h18:¬kd=18:=by first|assumption|omega
  refine AWP_skip ?_
  simp only[go_sem]
  refine hK2 _ ?_
  refine oS fun _ hK5=>?_
  refine oW T_l06StartX_ok ?_
  simp only[go_sem]
  repeat(with_reducible refine oA ?_)
  refine hK5 _ ?_
  refine oS fun _ hK6=>?_
  refine oW T_l06StartX_ok ?_
  simp only[go_sem]
  repeat(with_reducible first|refine oA ?_|refine And.intro (by first|exact hsc) ?_)
  refine hK6 _ ?_
  refine AWP_ret ?_
  simp only[hres,go_sem]
  first|exact oF|(refine⟨?_,oF⟩;exact(startI_f (x:=(kd,a,bb,nd,fr,tt)) h18).symm)
def T_l11Start:Tab:=fun f=>if f=20 then some (.p K_l11Start) else T_l06StartX f
theorem T_l11Start_ok:TabOk Try.prog T_l11Start:=tabP l11Start_ok (fnOk_of Try.func20 rfl (by decide)) T_l06StartX_ok
attribute [go_sem] T_l11Start K_l11Start
end Go.Proofs.Ytenjbehedcegdaa
