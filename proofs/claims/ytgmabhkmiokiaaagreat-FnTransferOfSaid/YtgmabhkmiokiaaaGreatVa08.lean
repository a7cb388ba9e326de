/-
  Texts of this claim, joined (part 8). No condition beyond those of the theorems.
-/
import Derived.Test.YtgmabhkmiokiaaaGreatVa07
namespace Go.Proofs.YtgmabhkmiokiaaaGreat
open Go.RowKit
set_option linter.unusedSimpArgs false
set_option linter.unusedVariables false
set_option maxRecDepth 100000
set_option maxHeartbeats 1000000
def K_l06Start:Con:=⟨[.ptr (.prod (.int .i64) (.prod (.int .i64) (.prod (.int .i64) (.row 2 (.int .i64)))))],[⟨(.row 2 (.int .i64)),true⟩],fun x=>nodeC x.1,fun x=>startV x.1⟩
theorem l06Start_ok:PureT Tryz.prog 103 K_l06Start:=by
  refine pure_of_body Tryz.func103 rfl ?_
  have hres:Tryz.f103.results.toList=[.tmp 2]:=rfl
  rintro ⟨⟨(kd:Int),(a:Int),(bb:Int),(fr:List Int)⟩,_⟩ hc hL
  simp only[K_l06Start,go_sem] at hL
  simp only[K_l06Start,St.init,St.initG,Tryz.ntmps103,go_sem] 
  obtain ⟨h1,h2,h3,h4⟩:=nodeC_parts (show nodeC (kd,a,bb,fr) from hc)
  refine oS fun _ hK1=>?_;refine oW T_l07Map_ok ?_;simp only[go_sem];repeat (with_reducible first | refine oA ?_ | refine And.intro (by first | exact inR_iff.2 (by omega) | decide) ?_)
  refine hK1 _ ?_;refine oS fun _ hK2=>?_;refine oS fun _ hK3=>?_;refine oW T_l07Map_ok ?_;simp only[go_sem];repeat (with_reducible first | refine oA ?_ | refine And.intro (by first | exact inR_iff.2 (by omega) | decide) ?_)
  refine hK3 _ ?_;refine AWP_block ?_;refine oS fun _ hK4=>?_;refine oW T_l07Map_ok ?_;simp only[go_sem];repeat (with_reducible first | refine oA ?_ | refine And.intro (by first | exact inR_iff.2 (by omega) | decide) ?_)
  refine hK4 _ ?_;refine oC rfl ?_ ?_
  ·
   intro c0;refine oS fun _ hK5=>?_;refine oW T_l07Map_ok ?_;simp (maxSteps:=2000000)only[go_sem];repeat (with_reducible first | refine oA ?_ | refine And.intro (by first | exact inR_iff.2 (by omega) | decide) ?_)
   refine hK5 _ ?_;refine AWP_ret ?_;simp only[hres,go_sem];first | exact oF | (refine ⟨?_,oF⟩; first | (have e:kd=6:=(by assumption); subst e; rfl) | (exfalso; omega) | exact (startV_none (by omega) (by omega) (by omega) (by omega) (by omega) (by omega) (by omega)).symm)
  intro c0;refine oS fun _ hK6=>?_;refine oW T_l07Map_ok ?_;simp only[go_sem];repeat (with_reducible first | refine oA ?_ | refine And.intro (by first | exact inR_iff.2 (by omega) | decide) ?_)
  refine hK6 _ ?_;refine oC rfl ?_ ?_
  ·
   intro c1;refine oS fun _ hK7=>?_;refine oW T_l07Map_ok ?_;simp (maxSteps:=2000000)only[go_sem];repeat (with_reducible first | refine oA ?_ | refine And.intro (by first | exact inR_iff.2 (by omega) | decide) ?_)
   refine hK7 _ ?_;refine AWP_ret ?_;simp only[hres,go_sem];first | exact oF | (refine ⟨?_,oF⟩; first | (have e:kd=17:=(by assumption); subst e; rfl) | (exfalso; omega) | exact (startV_none (by omega) (by omega) (by omega) (by omega) (by omega) (by omega) (by omega)).symm)
  intro c1;refine oS fun _ hK8=>?_;refine oS fun _ hK9=>?_;refine oW T_l07Map_ok ?_;simp only[go_sem];repeat (with_reducible first | refine oA ?_ | refine And.intro (by first | exact inR_iff.2 (by omega) | decide) ?_)
  refine hK9 _ ?_;refine oC rfl ?_ ?_
  ·
   intro c2;refine AWP_skip ?_;simp only[go_sem];refine hK8 _ ?_;refine oC rfl ?_ ?_
   ·
    intro c4;refine oS fun _ hK10=>?_;refine oW T_l07Map_ok ?_;simp only[List.nodup_nil,go_sem];repeat (with_reducible first | refine oA ?_ | refine And.intro (by first | exact inR_iff.2 (by omega) | decide) ?_)
    refine hK10 _ ?_;refine AWP_ret ?_;simp only[hres,go_sem];first | exact oF | (refine ⟨?_,oF⟩; first | (have e:kd=7:=(by assumption); subst e; rfl) | (exfalso; omega) | exact (startV_none (by omega) (by omega) (by omega) (by omega) (by omega) (by omega) (by omega)).symm)
   intro c4;refine oS fun _ hK11=>?_;refine oS fun _ hK12=>?_;refine oW T_l07Map_ok ?_;simp only[go_sem];repeat (with_reducible first | refine oA ?_ | refine And.intro (by first | exact inR_iff.2 (by omega) | decide) ?_)
   refine hK12 _ ?_;refine oC rfl ?_ ?_
   ·
    intro c5;refine AWP_skip ?_;simp only[go_sem];refine hK11 _ ?_;refine oC rfl ?_ ?_
    ·
     intro c6;refine oS fun _ hK13=>?_;refine oW T_l07Map_ok ?_;simp (maxSteps:=2000000)only[List.nodup_nil,go_sem];repeat (with_reducible first | refine oA ?_ | refine And.intro (by first | exact inR_iff.2 (by omega) | decide) ?_)
     refine hK13 _ ?_;refine AWP_ret ?_;simp only[hres,go_sem];first | exact oF | (refine ⟨?_,oF⟩; first | (have e:kd=12:=(by assumption); subst e; rfl) | (exfalso; omega) | exact (startV_none (by omega) (by omega) (by omega) (by omega) (by omega) (by omega) (by omega)).symm)
    intro c6;refine AWP_skip ?_;simp only[go_sem];refine hK2 _ ?_;refine oS fun _ hK14=>?_;refine oW T_l07Map_ok ?_;simp only[List.nodup_nil,go_sem];repeat (with_reducible first | refine oA ?_ | refine And.intro (by first | exact inR_iff.2 (by omega) | decide) ?_)
    refine hK14 _ ?_;refine AWP_ret ?_;simp only[hres,go_sem];first | exact oF | (refine ⟨?_,oF⟩; first | (have e:kd=12:=(by assumption); subst e; rfl) | (exfalso; omega) | exact (startV_none (by omega) (by omega) (by omega) (by omega) (by omega) (by omega) (by omega)).symm)
   intro c5;refine oW T_l07Map_ok ?_;simp only[go_sem];repeat (with_reducible first | refine oA ?_ | refine And.intro (by first | exact inR_iff.2 (by omega) | decide) ?_)
   refine hK11 _ ?_;refine oC rfl ?_ ?_
   ·
    intro c6;refine oS fun _ hK15=>?_;refine oW T_l07Map_ok ?_;simp (maxSteps:=2000000)only[List.nodup_nil,go_sem];repeat (with_reducible first | refine oA ?_ | refine And.intro (by first | exact inR_iff.2 (by omega) | decide) ?_)
    refine hK15 _ ?_;refine AWP_ret ?_;simp only[hres,go_sem];first | exact oF | (refine ⟨?_,oF⟩; first | (have e:kd=14:=(by assumption); subst e; rfl) | (exfalso; omega) | exact (startV_none (by omega) (by omega) (by omega) (by omega) (by omega) (by omega) (by omega)).symm)
   intro c6;refine AWP_skip ?_;simp only[go_sem];refine hK2 _ ?_;refine oS fun _ hK16=>?_;refine oW T_l07Map_ok ?_;simp only[List.nodup_nil,go_sem];repeat (with_reducible first | refine oA ?_ | refine And.intro (by first | exact inR_iff.2 (by omega) | decide) ?_)
   refine hK16 _ ?_;refine AWP_ret ?_;simp only[hres,go_sem];first | exact oF | (refine ⟨?_,oF⟩; first | (have e:kd=7:=(by assumption); subst e; rfl) | (exfalso; omega) | exact (startV_none (by omega) (by omega) (by omega) (by omega) (by omega) (by omega) (by omega)).symm)
  intro c2;refine oS fun _ hK17=>?_;refine oW T_l07Map_ok ?_;simp only[go_sem];repeat (with_reducible first | refine oA ?_ | refine And.intro (by first | exact inR_iff.2 (by omega) | decide) ?_)
  refine hK17 _ ?_;refine oC rfl ?_ ?_
  ·
   intro c3;refine AWP_skip ?_;simp only[go_sem];refine hK8 _ ?_;refine oC rfl ?_ ?_
   ·
    intro c4;refine oS fun _ hK18=>?_;refine oW T_l07Map_ok ?_;simp only[List.nodup_nil,go_sem];repeat (with_reducible first | refine oA ?_ | refine And.intro (by first | exact inR_iff.2 (by omega) | decide) ?_)
    refine hK18 _ ?_;refine AWP_ret ?_;simp only[hres,go_sem];first | exact oF | (refine ⟨?_,oF⟩; first | (have e:kd=8:=(by assumption); subst e; rfl) | (exfalso; omega) | exact (startV_none (by omega) (by omega) (by omega) (by omega) (by omega) (by omega) (by omega)).symm)
   intro c4;refine oS fun _ hK19=>?_;refine oS fun _ hK20=>?_;refine oW T_l07Map_ok ?_;simp only[go_sem];repeat (with_reducible first | refine oA ?_ | refine And.intro (by first | exact inR_iff.2 (by omega) | decide) ?_)
   refine hK20 _ ?_;refine oC rfl ?_ ?_
   ·
    intro c5;refine AWP_skip ?_;simp only[go_sem];refine hK19 _ ?_;refine oC rfl ?_ ?_
    ·
     intro c6;refine oS fun _ hK21=>?_;refine oW T_l07Map_ok ?_;simp (maxSteps:=2000000)only[List.nodup_nil,go_sem];repeat (with_reducible first | refine oA ?_ | refine And.intro (by first | exact inR_iff.2 (by omega) | decide) ?_)
     refine hK21 _ ?_;refine AWP_ret ?_;simp only[hres,go_sem];first | exact oF | (refine ⟨?_,oF⟩; first | (have e:kd=12:=(by assumption); subst e; rfl) | (exfalso; omega) | exact (startV_none (by omega) (by omega) (by omega) (by omega) (by omega) (by omega) (by omega)).symm)
    intro c6;refine AWP_skip ?_;simp only[go_sem];refine hK2 _ ?_;refine oS fun _ hK22=>?_;refine oW T_l07Map_ok ?_;simp only[List.nodup_nil,go_sem];repeat (with_reducible first | refine oA ?_ | refine And.intro (by first | exact inR_iff.2 (by omega) | decide) ?_)
    refine hK22 _ ?_;refine AWP_ret ?_;simp only[hres,go_sem];first | exact oF | (refine ⟨?_,oF⟩; first | (have e:kd=12:=(by assumption); subst e; rfl) | (exfalso; omega) | exact (startV_none (by omega) (by omega) (by omega) (by omega) (by omega) (by omega) (by omega)).symm)
   intro c5;refine oW T_l07Map_ok ?_;simp only[go_sem];repeat (with_reducible first | refine oA ?_ | refine And.intro (by first | exact inR_iff.2 (by omega) | decide) ?_)
   refine hK19 _ ?_;refine oC rfl ?_ ?_
   ·
    intro c6;refine oS fun _ hK23=>?_;refine oW T_l07Map_ok ?_;simp (maxSteps:=2000000)only[List.nodup_nil,go_sem];repeat (with_reducible first | refine oA ?_ | refine And.intro (by first | exact inR_iff.2 (by omega) | decide) ?_)
    refine hK23 _ ?_;refine AWP_ret ?_;simp only[hres,go_sem];first | exact oF | (refine ⟨?_,oF⟩; first | (have e:kd=14:=(by assumption); subst e; rfl) | (exfalso; omega) | exact (startV_none (by omega) (by omega) (by omega) (by omega) (by omega) (by omega) (by omega)).symm)
   intro c6;refine AWP_skip ?_;simp only[go_sem];refine hK2 _ ?_;refine oS fun _ hK24=>?_;refine oW T_l07Map_ok ?_;simp only[List.nodup_nil,go_sem];repeat (with_reducible first | refine oA ?_ | refine And.intro (by first | exact inR_iff.2 (by omega) | decide) ?_)
   refine hK24 _ ?_;refine AWP_ret ?_;simp only[hres,go_sem];first | exact oF | (refine ⟨?_,oF⟩; first | (have e:kd=8:=(by assumption); subst e; rfl) | (exfalso; omega) | exact (startV_none (by omega) (by omega) (by omega) (by omega) (by omega) (by omega) (by omega)).symm)
  intro c3;refine oW T_l07Map_ok ?_;simp only[go_sem];repeat (with_reducible first | refine oA ?_ | refine And.intro (by first | exact inR_iff.2 (by omega) | decide) ?_)
  refine hK8 _ ?_;refine oC rfl ?_ ?_
  ·
   intro c4;refine oS fun _ hK25=>?_;refine oW T_l07Map_ok ?_;simp only[List.nodup_nil,go_sem];repeat (with_reducible first | refine oA ?_ | refine And.intro (by first | exact inR_iff.2 (by omega) | decide) ?_)
   refine hK25 _ ?_;refine AWP_ret ?_;simp only[hres,go_sem];first | exact oF | (refine ⟨?_,oF⟩; first | (have e:kd=16:=(by assumption); subst e; rfl) | (exfalso; omega) | exact (startV_none (by omega) (by omega) (by omega) (by omega) (by omega) (by omega) (by omega)).symm)
  intro c4;refine oS fun _ hK26=>?_;refine oS fun _ hK27=>?_;refine oW T_l07Map_ok ?_;simp only[go_sem];repeat (with_reducible first | refine oA ?_ | refine And.intro (by first | exact inR_iff.2 (by omega) | decide) ?_)
  refine hK27 _ ?_;refine oC rfl ?_ ?_
  ·
   intro c5;refine AWP_skip ?_;simp only[go_sem];refine hK26 _ ?_;refine oC rfl ?_ ?_
   ·
    intro c6;refine oS fun _ hK28=>?_;refine oW T_l07Map_ok ?_;simp (maxSteps:=2000000)only[List.nodup_nil,go_sem];repeat (with_reducible first | refine oA ?_ | refine And.intro (by first | exact inR_iff.2 (by omega) | decide) ?_)
    refine hK28 _ ?_;refine AWP_ret ?_;simp only[hres,go_sem];first | exact oF | (refine ⟨?_,oF⟩; first | (have e:kd=12:=(by assumption); subst e; rfl) | (exfalso; omega) | exact (startV_none (by omega) (by omega) (by omega) (by omega) (by omega) (by omega) (by omega)).symm)
   intro c6;refine AWP_skip ?_;simp only[go_sem];refine hK2 _ ?_;refine oS fun _ hK29=>?_;refine oW T_l07Map_ok ?_;simp only[List.nodup_nil,go_sem];repeat (with_reducible first | refine oA ?_ | refine And.intro (by first | exact inR_iff.2 (by omega) | decide) ?_)
   refine hK29 _ ?_;refine AWP_ret ?_;simp only[hres,go_sem];first | exact oF | (refine ⟨?_,oF⟩; first | (have e:kd=12:=(by assumption); subst e; rfl) | (exfalso; omega) | exact (startV_none (by omega) (by omega) (by omega) (by omega) (by omega) (by omega) (by omega)).symm)
  intro c5;refine oW T_l07Map_ok ?_;simp only[go_sem];repeat (with_reducible first | refine oA ?_ | refine And.intro (by first | exact inR_iff.2 (by omega) | decide) ?_)
  refine hK26 _ ?_;refine oC rfl ?_ ?_
  ·
   intro c6;refine oS fun _ hK30=>?_;refine oW T_l07Map_ok ?_;simp (maxSteps:=2000000)only[List.nodup_nil,go_sem];repeat (with_reducible first | refine oA ?_ | refine And.intro (by first | exact inR_iff.2 (by omega) | decide) ?_)
   refine hK30 _ ?_;refine AWP_ret ?_;simp only[hres,go_sem];first | exact oF | (refine ⟨?_,oF⟩; first | (have e:kd=14:=(by assumption); subst e; rfl) | (exfalso; omega) | exact (startV_none (by omega) (by omega) (by omega) (by omega) (by omega) (by omega) (by omega)).symm)
  intro c6;refine AWP_skip ?_;simp only[go_sem];refine hK2 _ ?_;refine oS fun _ hK31=>?_;refine oW T_l07Map_ok ?_;simp only[List.nodup_nil,go_sem];repeat (with_reducible first | refine oA ?_ | refine And.intro (by first | exact inR_iff.2 (by omega) | decide) ?_)
  refine hK31 _ ?_;refine AWP_ret ?_;simp only[hres,go_sem];first | exact oF | (refine ⟨?_,oF⟩; first | (have e:kd=0:=(by assumption); subst e; rfl) | (exfalso; omega) | exact (startV_none (by omega) (by omega) (by omega) (by omega) (by omega) (by omega) (by omega)).symm)
def T_l06Start:Tab:=fun f=>if f=103 then some (.p K_l06Start) else T_l07Map f
theorem T_l06Start_ok:TabOk Tryz.prog T_l06Start:=tabP l06Start_ok (fnOk_of Tryz.func103 rfl (by decide)) T_l07Map_ok
attribute [go_sem] T_l06Start K_l06Start
set_option maxRecDepth 100000
set_option maxHeartbeats 1000000
def K_l01Wrap:Con:=⟨[.val (.int .i64)],[⟨.int .i64,true⟩],fun _=>True,fun x=>wrap32 x.1⟩
theorem l01Wrap_ok:PureT Tryz.prog 129 K_l01Wrap:=by
  refine pure_of_body Tryz.func129 rfl ?_
  have hres:Tryz.f129.results.toList=[.tmp 2]:=rfl
  rintro ⟨(x:Int),_⟩ hc hL
  simp only[K_l01Wrap,go_sem] at hL
  simp only[K_l01Wrap,St.init,St.initG,Tryz.ntmps129,go_sem] 
  have hu:=uns_bd x
  refine oS fun _ hK1=>?_;refine oW T_l06Start_ok ?_;simp only[go_sem];refine hK1 _ ?_;refine oS fun _ hK2=>?_;refine oW T_l06Start_ok ?_;simp only[andM',go_sem];refine hK2 _ ?_;refine oS fun _ hK3=>?_;refine oS fun _ hK4=>?_;refine oW T_l06Start_ok ?_;simp only[go_sem];refine hK4 _ ?_;refine oC rfl ?_ ?_
  ·
   intro c0;have hw:IntKind.i64.wrap (uns x - 4294967296)=uns x - 4294967296:=wrapI (by omega)
   refine oW T_l06Start_ok ?_;simp only[hw,go_sem];refine hK3 _ ?_;refine oS fun _ hK5=>?_;refine oW T_l06Start_ok ?_;simp only[go_sem];refine hK5 _ ?_;refine AWP_ret ?_;simp only[hres,go_sem];first | exact oF | (refine ⟨?_,oF⟩; first | exact wrap32_t c0 | exact wrap32_f c0)
  intro c0;refine AWP_skip ?_;simp only[go_sem];refine hK3 _ ?_;refine oS fun _ hK6=>?_;refine oW T_l06Start_ok ?_;simp only[go_sem];refine hK6 _ ?_;refine AWP_ret ?_;simp only[hres,go_sem];first | exact oF | (refine ⟨?_,oF⟩; first | exact wrap32_t c0 | exact wrap32_f c0)
def T_l01Wrap:Tab:=fun f=>if f=129 then some (.p K_l01Wrap) else T_l06Start f
theorem T_l01Wrap_ok:TabOk Tryz.prog T_l01Wrap:=tabP l01Wrap_ok (fnOk_of Tryz.func129 rfl (by decide)) T_l06Start_ok
attribute [go_sem] T_l01Wrap K_l01Wrap
def K_l01Add:Con:=⟨[.val (.int .i64),.val (.int .i64)],[⟨.int .i64,true⟩],fun _=>True,fun x=>wrap32 (x.1+x.2.1)⟩
theorem l01Add_ok:PureT Tryz.prog 93 K_l01Add:=by
  refine pure_of_body Tryz.func93 rfl ?_
  have hres:Tryz.f93.results.toList=[.tmp 4]:=rfl
  rintro ⟨(x:Int),(y:Int),_⟩ hc hL
  simp only[K_l01Add,go_sem] at hL
  simp only[K_l01Add,St.init,St.initG,Tryz.ntmps93,go_sem] 
  refine oS fun _ hK1=>?_;refine oW T_l01Wrap_ok ?_;simp only[go_sem];refine hK1 _ ?_;refine oS fun _ hK2=>?_;refine oW T_l01Wrap_ok ?_;simp (maxSteps:=2000000)only[go_sem];repeat (with_reducible refine oA ?_)
  refine hK2 _ ?_;refine AWP_ret ?_;simp only[hres,go_sem];first | exact oF | (refine ⟨?_,oF⟩; exact wAdd x y)
def T_l01Add:Tab:=fun f=>if f=93 then some (.p K_l01Add) else T_l01Wrap f
theorem T_l01Add_ok:TabOk Tryz.prog T_l01Add:=tabP l01Add_ok (fnOk_of Tryz.func93 rfl (by decide)) T_l01Wrap_ok
attribute [go_sem] T_l01Add K_l01Add
def K_l01Sub:Con:=⟨[.val (.int .i64),.val (.int .i64)],[⟨.int .i64,true⟩],fun _=>True,fun x=>wrap32 (x.1 - x.2.1)⟩
theorem l01Sub_ok:PureT Tryz.prog 91 K_l01Sub:=by
  refine pure_of_body Tryz.func91 rfl ?_
  have hres:Tryz.f91.results.toList=[.tmp 4]:=rfl
  rintro ⟨(x:Int),(y:Int),_⟩ hc hL
  simp only[K_l01Sub,go_sem] at hL
  simp only[K_l01Sub,St.init,St.initG,Tryz.ntmps91,go_sem] 
  refine oS fun _ hK1=>?_;refine oW T_l01Add_ok ?_;simp only[go_sem];refine hK1 _ ?_;refine oS fun _ hK2=>?_;refine oW T_l01Add_ok ?_;simp (maxSteps:=2000000)only[go_sem];repeat (with_reducible refine oA ?_)
  refine hK2 _ ?_;refine AWP_ret ?_;simp only[hres,go_sem];first | exact oF | (refine ⟨?_,oF⟩; exact wSub x y)
def T_l01Sub:Tab:=fun f=>if f=91 then some (.p K_l01Sub) else T_l01Add f
theorem T_l01Sub_ok:TabOk Tryz.prog T_l01Sub:=tabP l01Sub_ok (fnOk_of Tryz.func91 rfl (by decide)) T_l01Add_ok
attribute [go_sem] T_l01Sub K_l01Sub
def K_l01Mul:Con:=⟨[.val (.int .i64),.val (.int .i64)],[⟨.int .i64,true⟩],fun _=>True,fun x=>wrap32 (x.1 * x.2.1)⟩
theorem l01Mul_ok:PureT Tryz.prog 94 K_l01Mul:=by
  refine pure_of_body Tryz.func94 rfl ?_
  have hres:Tryz.f94.results.toList=[.tmp 4]:=rfl
  rintro ⟨(x:Int),(y:Int),_⟩ hc hL
  simp only[K_l01Mul,go_sem] at hL
  simp only[K_l01Mul,St.init,St.initG,Tryz.ntmps94,go_sem] 
  refine oS fun _ hK1=>?_;refine oW T_l01Sub_ok ?_;simp only[go_sem];refine hK1 _ ?_;refine oS fun _ hK2=>?_;refine oW T_l01Sub_ok ?_;simp (maxSteps:=2000000)only[go_sem];repeat (with_reducible refine oA ?_)
  refine hK2 _ ?_;refine AWP_ret ?_;simp only[hres,go_sem];first | exact oF | (refine ⟨?_,oF⟩; exact wMul x y)
def T_l01Mul:Tab:=fun f=>if f=94 then some (.p K_l01Mul) else T_l01Sub f
theorem T_l01Mul_ok:TabOk Tryz.prog T_l01Mul:=tabP l01Mul_ok (fnOk_of Tryz.func94 rfl (by decide)) T_l01Sub_ok
attribute [go_sem] T_l01Mul K_l01Mul
def K_l06Noise:Con:=⟨[.val (.int .i64)],[⟨.int .i64,true⟩],fun _=>True,fun x=>noiseV x.1⟩
theorem l06Noise_ok:PureT Tryz.prog 147 K_l06Noise:=by
  refine pure_of_body Tryz.func147 rfl ?_
  have hres:Tryz.f147.results.toList=[.tmp 2]:=rfl
  rintro ⟨(x:Int),_⟩ hc hL
  simp only[K_l06Noise,go_sem] at hL
  simp only[K_l06Noise,St.init,St.initG,Tryz.ntmps147,go_sem] 
  have hu:=uns_bd x
  refine oS fun _ hK1=>?_;refine oW T_l01Mul_ok ?_;simp only[go_sem];repeat (with_reducible first | refine oA ?_ | refine And.intro (by first | decide) ?_)
  refine hK1 _ ?_;refine oS fun _ hK2=>?_;refine oW T_l01Mul_ok ?_;simp only[andM',go_sem];repeat (with_reducible first | refine oA ?_ | refine And.intro (by first | decide) ?_)
  refine hK2 _ ?_;refine oS fun _ hK3=>?_;refine oS fun _ hK4=>?_;refine oW T_l01Mul_ok ?_;simp only[and1',go_sem];repeat (with_reducible first | refine oA ?_ | refine And.intro (by first | decide) ?_)
  refine hK4 _ ?_;refine oC rfl ?_ ?_
  ·
   intro c0;refine oS fun _ hK5=>?_;refine oW T_l01Mul_ok ?_;simp (maxSteps:=2000000)only[fdiv1',xorE',go_sem];repeat (with_reducible first | refine oA ?_ | refine And.intro (by first | decide) ?_)
   refine hK5 _ ?_;refine AWP_ret ?_;simp only[hres,go_sem];first | exact oF | (refine ⟨?_,oF⟩; first | exact (noiseU_t c0).symm | exact (noiseU_f c0).symm)
  intro c0;refine AWP_skip ?_;simp only[go_sem];refine hK3 _ ?_;refine oS fun _ hK6=>?_;refine oW T_l01Mul_ok ?_;simp only[fdiv1',go_sem];repeat (with_reducible first | refine oA ?_ | refine And.intro (by first | decide) ?_)
  refine hK6 _ ?_;refine AWP_ret ?_;simp only[hres,go_sem];first | exact oF | (refine ⟨?_,oF⟩; first | exact (noiseU_t c0).symm | exact (noiseU_f c0).symm)
def T_l06Noise:Tab:=fun f=>if f=147 then some (.p K_l06Noise) else T_l01Mul f
theorem T_l06Noise_ok:TabOk Tryz.prog T_l06Noise:=tabP l06Noise_ok (fnOk_of Tryz.func147 rfl (by decide)) T_l01Mul_ok
attribute [go_sem] T_l06Noise K_l06Noise
def K_l06Look:Con:=⟨[.val ((.row 2 (.int .i64))),.val (.int .i64)],[⟨.int .i64,true⟩],fun x=>1≤x.1.length∧x.1.length≤16,fun x=>lookV x.1 x.2.1⟩
theorem l06Look_ok:PureT Tryz.prog 146 K_l06Look:=by
  refine pure_of_body Tryz.func146 rfl ?_
  have hres:Tryz.f146.results.toList=[.tmp 4]:=rfl
  rintro ⟨(xs:List Int),(x:Int),_⟩ hc hL
  simp only[K_l06Look,go_sem] at hL
  simp only[K_l06Look,St.init,St.initG,Tryz.ntmps146,go_sem] 
  obtain ⟨h1,h2⟩:=(show 1≤xs.length∧xs.length≤16 from hc)
  obtain ⟨hl1,hl2,hl3,hl4⟩:=look_bd (t:=xs) (x:=x) h1 h2
  have hlw:IntKind.i64.wrap ((xs.length:Int) * uns x)=(xs.length:Int) * uns x:=wrapI (by omega)
  refine oS fun _ hK1=>?_;refine oW T_l06Noise_ok ?_;simp only[go_sem];refine hK1 _ ?_;refine oS fun _ hK2=>?_;refine oW T_l06Noise_ok ?_;simp (maxSteps:=2000000)only[andM',hlw,fdiv32',go_sem];repeat (with_reducible first | refine oA ?_ | refine And.intro (by first | decide) ?_)
  refine hK2 _ ?_;refine AWP_ret ?_;simp only[hres,go_sem];first | exact oF | exact oFr
def T_l06Look:Tab:=fun f=>if f=146 then some (.p K_l06Look) else T_l06Noise f
theorem T_l06Look_ok:TabOk Tryz.prog T_l06Look:=tabP l06Look_ok (fnOk_of Tryz.func146 rfl (by decide)) T_l06Noise_ok
attribute [go_sem] T_l06Look K_l06Look
end Go.Proofs.YtgmabhkmiokiaaaGreat
