/-
  Texts of this claim, joined (part 34). No condition beyond those of the theorems.
-/
import Derived.Test.YtenjbehedcegdaaR06
import Derived.Test.YtenjbehedcegdaaR05
import Derived.Test.YtenjbehedcegdaaR25
namespace Go.Proofs.Ytenjbehedcegdaa
open Go.RowKit
set_option linter.unusedSimpArgs false
set_option linter.unusedVariables false
set_option maxRecDepth 100000
set_option maxHeartbeats 4000000
def K_l00Own:Con:=⟨[.val ((.row 2 (.int .i64)))],[⟨(.row 2 (.int .i64)),true⟩],fun x=>x.1.length≤1099511627776,fun x=>x.1⟩
theorem l00Own_ok:PureT Try.prog 50 K_l00Own:=by
  refine pure_of_body Try.func50 rfl ?_
  have hres:Try.f50.results.toList=[.tmp 2]:=rfl
  rintro⟨(xs:List Int),_⟩ hc hL
  simp only[K_l00Own,go_sem] at hL
  simp only[K_l00Own,St.init,St.initG,Try.ntmps50,go_sem] 
  have hx:xs.length≤1099511627776:=hc
  refine oS fun _ hK1=>?_
  refine oW T_kinds_ok ?_
  simp only[go_sem]
  refine hK1 _ ?_
  refine oS fun _ hK2=>?_
  refine oW T_kinds_ok ?_
  simp only[go_sem]
  repeat(with_reducible refine oA ?_)
  refine hK2 _ ?_
  refine AWP_ret ?_
  simp only[hres,go_sem]
  first|exact oF|exact oFr
def T_l00Own:Tab:=fun f=>if f=50 then some (.p K_l00Own) else T_kinds f
theorem T_l00Own_ok:TabOk Try.prog T_l00Own:=tabP l00Own_ok (fnOk_of Try.func50 rfl (by decide)) T_kinds_ok
attribute [go_sem] T_l00Own K_l00Own
def T_l07Own:Tab:=T_l00Own
theorem T_l07Own_ok:TabOk Try.prog T_l07Own:=T_l00Own_ok
attribute [go_sem] T_l07Own
set_option maxRecDepth 100000
set_option maxHeartbeats 8000000
def T_mHr80:Tab:=fun f=>match T_l06Look f with
 | some k=>some k
 | none=>T_l07Own f
theorem T_mHr80_ok:TabOk Try.prog T_mHr80:=tabM T_l06Look_ok T_l07Own_ok
attribute [go_sem] T_mHr80 T0
def K_l06Next:Con:=⟨[.ptr (.prod (.int .i64) (.prod (.int .i64) (.prod (.int .i64) (.row 2 (.int .i64))))),.val ((.row 2 (.int .i64))),.val ((.row 2 (.int .i64))),.val (.int .i64)],[⟨(.row 2 (.int .i64)),true⟩],fun x=>∃tabs,stepC x.1 tabs x.2.1 x.2.2.1,fun x=>nextV x.1.1 x.2.1 x.2.2.1 x.2.2.2.1⟩
theorem l06Next_ok:PureT Try.prog 52 K_l06Next:=by
  refine pure_of_body Try.func52 rfl ?_
  have hres:Try.f52.results.toList=[.tmp 8]:=rfl
  rintro⟨⟨(kd:Int),(a:Int),(bb:Int),(fr:List Int)⟩,(ii:List Int),(ss:List Int),(oo:Int),_⟩ hc hL
  simp only[K_l06Next,go_sem] at hL
  simp only[K_l06Next,St.init,St.initG,Try.ntmps52,go_sem] 
  obtain⟨tb,hS⟩:∃tb,stepC (kd,a,bb,fr) tb ii ss:=hc
  obtain⟨h1,h2,h3,h4,h5,h6,h7,h8,h9,h10,h11,h12,h13⟩:=stepC_parts hS
  have hi0:=stepC_smp hS 0
  have hi1:=stepC_smp hS 1
  refine oS fun _ hK1=>?_
  refine oW T_mHr80_ok ?_
  simp only[go_sem]
  refine hK1 _ ?_
  refine oS fun _ hK2=>?_
  refine oS fun _ hK3=>?_
  refine oW T_mHr80_ok ?_
  simp only[go_sem]
  repeat(with_reducible refine oA ?_)
  refine hK3 _ ?_
  refine AWP_block ?_
  refine oS fun _ hK4=>?_
  refine oW T_mHr80_ok ?_
  simp only[go_sem]
  refine hK4 _ ?_
  refine oC rfl ?_ ?_
  ·
   intro c0
   refine oS fun _ hK5=>?_
   refine oR T_mHr80_ok
     [[],[0],[0,1],[],[3],[3,4],[3,4,5],[0,1,2,3,4,5,6],[0,1,2,3,4,5,6,7]]
     [[436],[436],[436],[372,373,374,375,376,377,378,379,380,381,382,383,384,385,386,387],[372,373,374,375,376,377,378,379,380,381,382,383,384,385,386,387],[372,373,374,375,376,377,378,379,380,381,382,383,384,385,386,387],[372,373,374,375,376,377,378,379,380,381,382,383,384,385,386,387],[],[]]
     [[],[],[372,373,374,375,376,377,378,379,380,381,382,383,384,385,386,387],[],[],[],[436],[],[]] (by kernel_rfl) (by kernel_rfl) (adrawR_ok (acc:=[]) ?_)
   simp (maxSteps:=2000000)only[List.nodup_nil,List.take_length,List.length_drop,go_sem]
   repeat(with_reducible refine oD ?_)
   refine hK5 _ ?_
   refine AWP_ret ?_
   simp only[hres,go_sem]
   first|exact oF|(refine⟨?_,oF⟩;first|(have e:kd=6:=(by assumption);subst e;rfl)|(exfalso;omega)|exact(nextV_none (by omega) (by omega) (by omega) (by omega) (by omega) (by omega) (by omega)).symm)
  intro c0
  refine oS fun _ hK6=>?_
  refine oW T_mHr80_ok ?_
  simp only[List.nodup_nil,List.take_length,List.length_drop,go_sem]
  refine hK6 _ ?_
  refine oC rfl ?_ ?_
  ·
   intro c1
   refine oS fun _ hK7=>?_
   refine oW T_mHr80_ok ?_
   simp (maxSteps:=2000000)only[List.nodup_nil,List.take_length,List.length_drop,go_sem]
   repeat(with_reducible refine oA ?_)
   refine hK7 _ ?_
   refine AWP_ret ?_
   simp only[hres,go_sem]
   first|exact oF|(refine⟨?_,oF⟩;first|(have e:kd=17:=(by assumption);subst e;rfl)|(exfalso;omega)|exact(nextV_none (by omega) (by omega) (by omega) (by omega) (by omega) (by omega) (by omega)).symm)
  intro c1
  refine oS fun _ hK8=>?_
  refine oS fun _ hK9=>?_
  refine oW T_mHr80_ok ?_
  simp only[List.nodup_nil,List.take_length,List.length_drop,go_sem]
  refine hK9 _ ?_
  refine oC rfl ?_ ?_
  ·
   intro c2
   refine AWP_skip ?_
   simp only[go_sem]
   refine hK8 _ ?_
   refine oC rfl ?_ ?_
   ·
    intro c3
    refine oS fun _ hK10=>?_
    refine oW T_mHr80_ok ?_
    simp only[List.nodup_nil,List.take_length,List.length_drop,go_sem]
    repeat(with_reducible refine oA ?_)
    refine hK10 _ ?_
    refine AWP_ret ?_
    simp only[hres,go_sem]
    first|exact oF|(refine⟨?_,oF⟩;first|(have e:kd=7:=(by assumption);subst e;rfl)|(exfalso;omega)|exact(nextV_none (by omega) (by omega) (by omega) (by omega) (by omega) (by omega) (by omega)).symm)
   intro c3
   refine oS fun _ hK11=>?_
   refine oW T_mHr80_ok ?_
   simp only[List.nodup_nil,List.take_length,List.length_drop,go_sem]
   refine hK11 _ ?_
   refine oC rfl ?_ ?_
   ·
    intro c4
    refine oS fun _ hK12=>?_
    refine oW T_mHr80_ok ?_
    simp (maxSteps:=2000000)only[List.nodup_nil,List.take_length,List.length_drop,go_sem]
    repeat(with_reducible refine oA ?_)
    refine hK12 _ ?_
    refine AWP_ret ?_
    simp only[hres,go_sem]
    first|exact oF|(refine⟨?_,oF⟩;first|(have e:kd=8:=(by assumption);subst e;rfl)|(exfalso;omega)|exact(nextV_none (by omega) (by omega) (by omega) (by omega) (by omega) (by omega) (by omega)).symm)
   intro c4
   refine oS fun _ hK13=>?_
   refine oW T_mHr80_ok ?_
   simp only[List.nodup_nil,List.take_length,List.length_drop,go_sem]
   refine hK13 _ ?_
   refine oC rfl ?_ ?_
   ·
    intro c5
    refine oS fun _ hK14=>?_
    refine oR T_mHr80_ok
      [[],[0],[0,1],[],[3],[3,4],[0,1,2,3,4,5],[0,1,2,3,4,5,6],[0,1,2,3,4,5,6,7]]
      [[],[],[],[],[],[],[],[],[]]
      [[],[],[],[],[],[],[],[],[]] (by kernel_rfl) (by kernel_rfl) (adrawR_ok (acc:=[]) ?_)
    simp (maxSteps:=2000000)only[List.nodup_nil,List.take_length,List.length_drop,go_sem]
    repeat(with_reducible refine oD ?_)
    refine hK14 _ ?_
    refine AWP_ret ?_
    simp only[hres,go_sem]
    first|exact oF|(refine⟨?_,oF⟩;first|(have e:kd=12:=(by assumption);subst e;rfl)|(exfalso;omega)|exact(nextV_none (by omega) (by omega) (by omega) (by omega) (by omega) (by omega) (by omega)).symm)
   intro c5
   refine oS fun _ hK15=>?_
   refine oW T_mHr80_ok ?_
   simp only[List.nodup_nil,List.take_length,List.length_drop,go_sem]
   refine hK15 _ ?_
   refine oC rfl ?_ ?_
   ·
    intro c6
    refine oS fun _ hK16=>?_
    refine oW T_mHr80_ok ?_
    simp (maxSteps:=2000000)only[List.nodup_nil,List.take_length,List.length_drop,go_sem]
    repeat(with_reducible refine oA ?_)
    refine hK16 _ ?_
    refine AWP_ret ?_
    simp only[hres,go_sem]
    first|exact oF|(refine⟨?_,oF⟩;first|(have e:kd=14:=(by assumption);subst e;rfl)|(exfalso;omega)|exact(nextV_none (by omega) (by omega) (by omega) (by omega) (by omega) (by omega) (by omega)).symm)
   intro c6
   refine AWP_skip ?_
   simp only[go_sem]
   refine hK2 _ ?_
   refine oS fun _ hK17=>?_
   refine oW T_mHr80_ok ?_
   simp only[List.nodup_nil,List.take_length,List.length_drop,go_sem]
   repeat(with_reducible refine oA ?_)
   refine hK17 _ ?_
   refine AWP_ret ?_
   simp only[hres,go_sem]
   first|exact oF|(refine⟨?_,oF⟩;first|(have e:kd=7:=(by assumption);subst e;rfl)|(exfalso;omega)|exact(nextV_none (by omega) (by omega) (by omega) (by omega) (by omega) (by omega) (by omega)).symm)
  intro c2
  refine oW T_mHr80_ok ?_
  simp only[List.nodup_nil,List.take_length,List.length_drop,go_sem]
  refine hK8 _ ?_
  refine oC rfl ?_ ?_
  ·
   intro c3
   refine oS fun _ hK18=>?_
   refine oW T_mHr80_ok ?_
   simp only[List.nodup_nil,List.take_length,List.length_drop,go_sem]
   repeat(with_reducible refine oA ?_)
   refine hK18 _ ?_
   refine AWP_ret ?_
   simp only[hres,go_sem]
   first|exact oF|(refine⟨?_,oF⟩;first|(have e:kd=16:=(by assumption);subst e;rfl)|(exfalso;omega)|exact(nextV_none (by omega) (by omega) (by omega) (by omega) (by omega) (by omega) (by omega)).symm)
  intro c3
  refine oS fun _ hK19=>?_
  refine oW T_mHr80_ok ?_
  simp only[List.nodup_nil,List.take_length,List.length_drop,go_sem]
  refine hK19 _ ?_
  refine oC rfl ?_ ?_
  ·
   intro c4
   refine oS fun _ hK20=>?_
   refine oW T_mHr80_ok ?_
   simp (maxSteps:=2000000)only[List.nodup_nil,List.take_length,List.length_drop,go_sem]
   repeat(with_reducible refine oA ?_)
   refine hK20 _ ?_
   refine AWP_ret ?_
   simp only[hres,go_sem]
   first|exact oF|(refine⟨?_,oF⟩;first|(have e:kd=8:=(by assumption);subst e;rfl)|(exfalso;omega)|exact(nextV_none (by omega) (by omega) (by omega) (by omega) (by omega) (by omega) (by omega)).symm)
  intro c4
  refine oS fun _ hK21=>?_
  refine oW T_mHr80_ok ?_
  simp only[List.nodup_nil,List.take_length,List.length_drop,go_sem]
  refine hK21 _ ?_
  refine oC rfl ?_ ?_
  ·
   intro c5
   refine oS fun _ hK22=>?_
   refine oR T_mHr80_ok
     [[],[0],[0,1],[],[3],[3,4],[0,1,2,3,4,5],[0,1,2,3,4,5,6],[0,1,2,3,4,5,6,7]]
     [[],[],[],[],[],[],[],[],[]]
     [[],[],[],[],[],[],[],[],[]] (by kernel_rfl) (by kernel_rfl) (adrawR_ok (acc:=[]) ?_)
   simp (maxSteps:=2000000)only[List.nodup_nil,List.take_length,List.length_drop,go_sem]
   repeat(with_reducible refine oD ?_)
   refine hK22 _ ?_
   refine AWP_ret ?_
   simp only[hres,go_sem]
   first|exact oF|(refine⟨?_,oF⟩;first|(have e:kd=12:=(by assumption);subst e;rfl)|(exfalso;omega)|exact(nextV_none (by omega) (by omega) (by omega) (by omega) (by omega) (by omega) (by omega)).symm)
  intro c5
  refine oS fun _ hK23=>?_
  refine oW T_mHr80_ok ?_
  simp only[List.nodup_nil,List.take_length,List.length_drop,go_sem]
  refine hK23 _ ?_
  refine oC rfl ?_ ?_
  ·
   intro c6
   refine oS fun _ hK24=>?_
   refine oW T_mHr80_ok ?_
   simp (maxSteps:=2000000)only[List.nodup_nil,List.take_length,List.length_drop,go_sem]
   repeat(with_reducible refine oA ?_)
   refine hK24 _ ?_
   refine AWP_ret ?_
   simp only[hres,go_sem]
   first|exact oF|(refine⟨?_,oF⟩;first|(have e:kd=14:=(by assumption);subst e;rfl)|(exfalso;omega)|exact(nextV_none (by omega) (by omega) (by omega) (by omega) (by omega) (by omega) (by omega)).symm)
  intro c6
  refine AWP_skip ?_
  simp only[go_sem]
  refine hK2 _ ?_
  refine oS fun _ hK25=>?_
  refine oW T_mHr80_ok ?_
  simp only[List.nodup_nil,List.take_length,List.length_drop,go_sem]
  repeat(with_reducible refine oA ?_)
  refine hK25 _ ?_
  refine AWP_ret ?_
  simp only[hres,go_sem]
  first|exact oF|(refine⟨?_,oF⟩;first|(have e:kd=0:=(by assumption);subst e;rfl)|(exfalso;omega)|exact(nextV_none (by omega) (by omega) (by omega) (by omega) (by omega) (by omega) (by omega)).symm)
def T_l06Next:Tab:=fun f=>if f=52 then some (.p K_l06Next) else T_mHr80 f
theorem T_l06Next_ok:TabOk Try.prog T_l06Next:=tabP l06Next_ok (fnOk_of Try.func52 rfl (by decide)) T_mHr80_ok
attribute [go_sem] T_l06Next K_l06Next
end Go.Proofs.Ytenjbehedcegdaa
