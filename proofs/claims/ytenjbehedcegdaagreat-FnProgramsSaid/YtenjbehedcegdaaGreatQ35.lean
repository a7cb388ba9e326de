/-
  Texts of this claim, joined (part 35). No condition beyond those of the theorems.
-/
import Derived.Test.YtenjbehedcegdaaGreatQ09
namespace Go.Proofs.YtenjbehedcegdaaGreat
open Go.RowKit
set_option linter.unusedSimpArgs false
set_option linter.unusedVariables false
set_option maxRecDepth 100000
set_option maxHeartbeats 1000000
def t0:Con:=⟨[.ptr (.prod (.int .i64) (.prod (.int .i64) (.prod (.int .i64) (.row 2 (.int .i64)))))],[⟨(.row 2 (.int .i64)),true⟩],fun x=>B2y x.1,fun x=>I0 x.1⟩
theorem B0b:C8 Tryz.prog 84 t0:=by
  refine A4 Tryz.func84 rfl ?_
  have hres:Tryz.f84.results.toList=[.tmp 2]:=rfl
  rintro⟨⟨(kd:Int),(a:Int),(bb:Int),(fr:List Int)⟩,_⟩ hc hL
  simp only[t0,go_sem] at hL
  simp only[t0,St.init,St.initG,Tryz.ntmps84,go_sem] 
  obtain⟨h1,h2,h3,h4⟩:=A4e (show B2y (kd,a,bb,fr) from hc)
  refine oS fun _ hK1=>?_;refine oW A9 ?_;simp only[go_sem];repeat(with_reducible first|refine oA ?_|refine And.intro (by first|exact B4.2 (by omega)|decide) ?_)
  refine hK1 _ ?_;refine oS fun _ hK2=>?_;refine oS fun _ hK3=>?_;refine oW A9 ?_;simp only[go_sem];repeat(with_reducible first|refine oA ?_|refine And.intro (by first|exact B4.2 (by omega)|decide) ?_)
  refine hK3 _ ?_;refine A3 ?_;refine oS fun _ hK4=>?_;refine oW A9 ?_;simp only[go_sem];repeat(with_reducible first|refine oA ?_|refine And.intro (by first|exact B4.2 (by omega)|decide) ?_)
  refine hK4 _ ?_;refine oC rfl ?_ ?_
  ·
   intro c0;refine oS fun _ hK5=>?_;refine oW A9 ?_;simp (maxSteps:=2000000)only[go_sem];repeat(with_reducible first|refine oA ?_|refine And.intro (by first|exact B4.2 (by omega)|decide) ?_)
   refine hK5 _ ?_;refine A0 ?_;simp only[hres,go_sem];first|exact oF|(refine⟨?_,oF⟩;first|(have e:kd=6:=(by assumption);subst e;rfl)|(exfalso;omega)|exact(C2 (by omega) (by omega) (by omega) (by omega) (by omega) (by omega) (by omega)).symm)
  intro c0;refine oS fun _ hK6=>?_;refine oW A9 ?_;simp only[go_sem];repeat(with_reducible first|refine oA ?_|refine And.intro (by first|exact B4.2 (by omega)|decide) ?_)
  refine hK6 _ ?_;refine oC rfl ?_ ?_
  ·
   intro c1;refine oS fun _ hK7=>?_;refine oW A9 ?_;simp (maxSteps:=2000000)only[go_sem];repeat(with_reducible first|refine oA ?_|refine And.intro (by first|exact B4.2 (by omega)|decide) ?_)
   refine hK7 _ ?_;refine A0 ?_;simp only[hres,go_sem];first|exact oF|(refine⟨?_,oF⟩;first|(have e:kd=17:=(by assumption);subst e;rfl)|(exfalso;omega)|exact(C2 (by omega) (by omega) (by omega) (by omega) (by omega) (by omega) (by omega)).symm)
  intro c1;refine oS fun _ hK8=>?_;refine oS fun _ hK9=>?_;refine oW A9 ?_;simp only[go_sem];repeat(with_reducible first|refine oA ?_|refine And.intro (by first|exact B4.2 (by omega)|decide) ?_)
  refine hK9 _ ?_;refine oC rfl ?_ ?_
  ·
   intro c2;refine A2 ?_;simp only[go_sem];refine hK8 _ ?_;refine oC rfl ?_ ?_
   ·
    intro c4;refine oS fun _ hK10=>?_;refine oW A9 ?_;simp only[List.nodup_nil,go_sem];repeat(with_reducible first|refine oA ?_|refine And.intro (by first|exact B4.2 (by omega)|decide) ?_)
    refine hK10 _ ?_;refine A0 ?_;simp only[hres,go_sem];first|exact oF|(refine⟨?_,oF⟩;first|(have e:kd=7:=(by assumption);subst e;rfl)|(exfalso;omega)|exact(C2 (by omega) (by omega) (by omega) (by omega) (by omega) (by omega) (by omega)).symm)
   intro c4;refine oS fun _ hK11=>?_;refine oS fun _ hK12=>?_;refine oW A9 ?_;simp only[go_sem];repeat(with_reducible first|refine oA ?_|refine And.intro (by first|exact B4.2 (by omega)|decide) ?_)
   refine hK12 _ ?_;refine oC rfl ?_ ?_
   ·
    intro c5;refine A2 ?_;simp only[go_sem];refine hK11 _ ?_;refine oC rfl ?_ ?_
    ·
     intro c6;refine oS fun _ hK13=>?_;refine oW A9 ?_;simp (maxSteps:=2000000)only[List.nodup_nil,go_sem];repeat(with_reducible first|refine oA ?_|refine And.intro (by first|exact B4.2 (by omega)|decide) ?_)
     refine hK13 _ ?_;refine A0 ?_;simp only[hres,go_sem];first|exact oF|(refine⟨?_,oF⟩;first|(have e:kd=12:=(by assumption);subst e;rfl)|(exfalso;omega)|exact(C2 (by omega) (by omega) (by omega) (by omega) (by omega) (by omega) (by omega)).symm)
    intro c6;refine A2 ?_;simp only[go_sem];refine hK2 _ ?_;refine oS fun _ hK14=>?_;refine oW A9 ?_;simp only[List.nodup_nil,go_sem];repeat(with_reducible first|refine oA ?_|refine And.intro (by first|exact B4.2 (by omega)|decide) ?_)
    refine hK14 _ ?_;refine A0 ?_;simp only[hres,go_sem];first|exact oF|(refine⟨?_,oF⟩;first|(have e:kd=12:=(by assumption);subst e;rfl)|(exfalso;omega)|exact(C2 (by omega) (by omega) (by omega) (by omega) (by omega) (by omega) (by omega)).symm)
   intro c5;refine oW A9 ?_;simp only[go_sem];repeat(with_reducible first|refine oA ?_|refine And.intro (by first|exact B4.2 (by omega)|decide) ?_)
   refine hK11 _ ?_;refine oC rfl ?_ ?_
   ·
    intro c6;refine oS fun _ hK15=>?_;refine oW A9 ?_;simp (maxSteps:=2000000)only[List.nodup_nil,go_sem];repeat(with_reducible first|refine oA ?_|refine And.intro (by first|exact B4.2 (by omega)|decide) ?_)
    refine hK15 _ ?_;refine A0 ?_;simp only[hres,go_sem];first|exact oF|(refine⟨?_,oF⟩;first|(have e:kd=14:=(by assumption);subst e;rfl)|(exfalso;omega)|exact(C2 (by omega) (by omega) (by omega) (by omega) (by omega) (by omega) (by omega)).symm)
   intro c6;refine A2 ?_;simp only[go_sem];refine hK2 _ ?_;refine oS fun _ hK16=>?_;refine oW A9 ?_;simp only[List.nodup_nil,go_sem];repeat(with_reducible first|refine oA ?_|refine And.intro (by first|exact B4.2 (by omega)|decide) ?_)
   refine hK16 _ ?_;refine A0 ?_;simp only[hres,go_sem];first|exact oF|(refine⟨?_,oF⟩;first|(have e:kd=7:=(by assumption);subst e;rfl)|(exfalso;omega)|exact(C2 (by omega) (by omega) (by omega) (by omega) (by omega) (by omega) (by omega)).symm)
  intro c2;refine oS fun _ hK17=>?_;refine oW A9 ?_;simp only[go_sem];repeat(with_reducible first|refine oA ?_|refine And.intro (by first|exact B4.2 (by omega)|decide) ?_)
  refine hK17 _ ?_;refine oC rfl ?_ ?_
  ·
   intro c3;refine A2 ?_;simp only[go_sem];refine hK8 _ ?_;refine oC rfl ?_ ?_
   ·
    intro c4;refine oS fun _ hK18=>?_;refine oW A9 ?_;simp only[List.nodup_nil,go_sem];repeat(with_reducible first|refine oA ?_|refine And.intro (by first|exact B4.2 (by omega)|decide) ?_)
    refine hK18 _ ?_;refine A0 ?_;simp only[hres,go_sem];first|exact oF|(refine⟨?_,oF⟩;first|(have e:kd=8:=(by assumption);subst e;rfl)|(exfalso;omega)|exact(C2 (by omega) (by omega) (by omega) (by omega) (by omega) (by omega) (by omega)).symm)
   intro c4;refine oS fun _ hK19=>?_;refine oS fun _ hK20=>?_;refine oW A9 ?_;simp only[go_sem];repeat(with_reducible first|refine oA ?_|refine And.intro (by first|exact B4.2 (by omega)|decide) ?_)
   refine hK20 _ ?_;refine oC rfl ?_ ?_
   ·
    intro c5;refine A2 ?_;simp only[go_sem];refine hK19 _ ?_;refine oC rfl ?_ ?_
    ·
     intro c6;refine oS fun _ hK21=>?_;refine oW A9 ?_;simp (maxSteps:=2000000)only[List.nodup_nil,go_sem];repeat(with_reducible first|refine oA ?_|refine And.intro (by first|exact B4.2 (by omega)|decide) ?_)
     refine hK21 _ ?_;refine A0 ?_;simp only[hres,go_sem];first|exact oF|(refine⟨?_,oF⟩;first|(have e:kd=12:=(by assumption);subst e;rfl)|(exfalso;omega)|exact(C2 (by omega) (by omega) (by omega) (by omega) (by omega) (by omega) (by omega)).symm)
    intro c6;refine A2 ?_;simp only[go_sem];refine hK2 _ ?_;refine oS fun _ hK22=>?_;refine oW A9 ?_;simp only[List.nodup_nil,go_sem];repeat(with_reducible first|refine oA ?_|refine And.intro (by first|exact B4.2 (by omega)|decide) ?_)
    refine hK22 _ ?_;refine A0 ?_;simp only[hres,go_sem];first|exact oF|(refine⟨?_,oF⟩;first|(have e:kd=12:=(by assumption);subst e;rfl)|(exfalso;omega)|exact(C2 (by omega) (by omega) (by omega) (by omega) (by omega) (by omega) (by omega)).symm)
   intro c5;refine oW A9 ?_;simp only[go_sem];repeat(with_reducible first|refine oA ?_|refine And.intro (by first|exact B4.2 (by omega)|decide) ?_)
   refine hK19 _ ?_;refine oC rfl ?_ ?_
   ·
    intro c6;refine oS fun _ hK23=>?_;refine oW A9 ?_;simp (maxSteps:=2000000)only[List.nodup_nil,go_sem];repeat(with_reducible first|refine oA ?_|refine And.intro (by first|exact B4.2 (by omega)|decide) ?_)
    refine hK23 _ ?_;refine A0 ?_;simp only[hres,go_sem];first|exact oF|(refine⟨?_,oF⟩;first|(have e:kd=14:=(by assumption);subst e;rfl)|(exfalso;omega)|exact(C2 (by omega) (by omega) (by omega) (by omega) (by omega) (by omega) (by omega)).symm)
   intro c6;refine A2 ?_;simp only[go_sem];refine hK2 _ ?_;refine oS fun _ hK24=>?_;refine oW A9 ?_;simp only[List.nodup_nil,go_sem];repeat(with_reducible first|refine oA ?_|refine And.intro (by first|exact B4.2 (by omega)|decide) ?_)
   refine hK24 _ ?_;refine A0 ?_;simp only[hres,go_sem];first|exact oF|(refine⟨?_,oF⟩;first|(have e:kd=8:=(by assumption);subst e;rfl)|(exfalso;omega)|exact(C2 (by omega) (by omega) (by omega) (by omega) (by omega) (by omega) (by omega)).symm)
  intro c3;refine oW A9 ?_;simp only[go_sem];repeat(with_reducible first|refine oA ?_|refine And.intro (by first|exact B4.2 (by omega)|decide) ?_)
  refine hK8 _ ?_;refine oC rfl ?_ ?_
  ·
   intro c4;refine oS fun _ hK25=>?_;refine oW A9 ?_;simp only[List.nodup_nil,go_sem];repeat(with_reducible first|refine oA ?_|refine And.intro (by first|exact B4.2 (by omega)|decide) ?_)
   refine hK25 _ ?_;refine A0 ?_;simp only[hres,go_sem];first|exact oF|(refine⟨?_,oF⟩;first|(have e:kd=16:=(by assumption);subst e;rfl)|(exfalso;omega)|exact(C2 (by omega) (by omega) (by omega) (by omega) (by omega) (by omega) (by omega)).symm)
  intro c4;refine oS fun _ hK26=>?_;refine oS fun _ hK27=>?_;refine oW A9 ?_;simp only[go_sem];repeat(with_reducible first|refine oA ?_|refine And.intro (by first|exact B4.2 (by omega)|decide) ?_)
  refine hK27 _ ?_;refine oC rfl ?_ ?_
  ·
   intro c5;refine A2 ?_;simp only[go_sem];refine hK26 _ ?_;refine oC rfl ?_ ?_
   ·
    intro c6;refine oS fun _ hK28=>?_;refine oW A9 ?_;simp (maxSteps:=2000000)only[List.nodup_nil,go_sem];repeat(with_reducible first|refine oA ?_|refine And.intro (by first|exact B4.2 (by omega)|decide) ?_)
    refine hK28 _ ?_;refine A0 ?_;simp only[hres,go_sem];first|exact oF|(refine⟨?_,oF⟩;first|(have e:kd=12:=(by assumption);subst e;rfl)|(exfalso;omega)|exact(C2 (by omega) (by omega) (by omega) (by omega) (by omega) (by omega) (by omega)).symm)
   intro c6;refine A2 ?_;simp only[go_sem];refine hK2 _ ?_;refine oS fun _ hK29=>?_;refine oW A9 ?_;simp only[List.nodup_nil,go_sem];repeat(with_reducible first|refine oA ?_|refine And.intro (by first|exact B4.2 (by omega)|decide) ?_)
   refine hK29 _ ?_;refine A0 ?_;simp only[hres,go_sem];first|exact oF|(refine⟨?_,oF⟩;first|(have e:kd=12:=(by assumption);subst e;rfl)|(exfalso;omega)|exact(C2 (by omega) (by omega) (by omega) (by omega) (by omega) (by omega) (by omega)).symm)
  intro c5;refine oW A9 ?_;simp only[go_sem];repeat(with_reducible first|refine oA ?_|refine And.intro (by first|exact B4.2 (by omega)|decide) ?_)
  refine hK26 _ ?_;refine oC rfl ?_ ?_
  ·
   intro c6;refine oS fun _ hK30=>?_;refine oW A9 ?_;simp (maxSteps:=2000000)only[List.nodup_nil,go_sem];repeat(with_reducible first|refine oA ?_|refine And.intro (by first|exact B4.2 (by omega)|decide) ?_)
   refine hK30 _ ?_;refine A0 ?_;simp only[hres,go_sem];first|exact oF|(refine⟨?_,oF⟩;first|(have e:kd=14:=(by assumption);subst e;rfl)|(exfalso;omega)|exact(C2 (by omega) (by omega) (by omega) (by omega) (by omega) (by omega) (by omega)).symm)
  intro c6;refine A2 ?_;simp only[go_sem];refine hK2 _ ?_;refine oS fun _ hK31=>?_;refine oW A9 ?_;simp only[List.nodup_nil,go_sem];repeat(with_reducible first|refine oA ?_|refine And.intro (by first|exact B4.2 (by omega)|decide) ?_)
  refine hK31 _ ?_;refine A0 ?_;simp only[hres,go_sem];first|exact oF|(refine⟨?_,oF⟩;first|(have e:kd=0:=(by assumption);subst e;rfl)|(exfalso;omega)|exact(C2 (by omega) (by omega) (by omega) (by omega) (by omega) (by omega) (by omega)).symm)
def A0l:G4:=fun f=>if f=84 then some (.p t0) else s8 f
theorem M7:B5 Tryz.prog A0l:=F8 B0b (B0 Tryz.func84 rfl (by decide)) A9
attribute [go_sem] A0l t0
end Go.Proofs.YtenjbehedcegdaaGreat
