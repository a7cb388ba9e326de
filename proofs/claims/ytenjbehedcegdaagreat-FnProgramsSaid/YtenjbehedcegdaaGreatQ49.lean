/-
  Texts of this claim, joined (part 49). No condition beyond those of the theorems.
-/
import Derived.Test.YtenjbehedcegdaaGreatQ36
import Derived.Test.YtenjbehedcegdaaGreatQ30
namespace Go.Proofs.YtenjbehedcegdaaGreat
open Go.RowKit
set_option linter.unusedSimpArgs false
set_option linter.unusedVariables false
set_option maxRecDepth 100000
set_option maxHeartbeats 8000000
def A8p:G4:=fun f=>match A0J f with
 | some k=>some k
 | none=>A2u f
theorem A5:B5 Tryz.prog A8p:=W6 F9 G8
attribute [go_sem] A8p T0
def A20:Con:=⟨[.ptr (.prod (.int .i64) (.prod (.int .i64) (.prod (.int .i64) (.row 2 (.int .i64))))),.val ((.row 26 (.row 2 (.int .i64)))),.val ((.row 2 (.int .i64))),.val ((.row 2 (.int .i64)))],[⟨.int .i64,true⟩],fun x=>X2 x.1 x.2.1 x.2.2.1 x.2.2.2.1,fun x=>x4 x.1.1 x.1.2.1 x.2.1 x.2.2.1 x.2.2.2.1⟩
theorem B4L:C8 Tryz.prog 100 A20:=by
  refine A4 Tryz.func100 rfl ?_
  have hres:Tryz.f100.results.toList=[.tmp 8]:=rfl
  rintro⟨⟨(kd:Int),(a:Int),(bb:Int),(fr:List Int)⟩,(tb:List (List Int)),(ii:List Int),(ss:List Int),_⟩ hc hL
  simp only[A20,go_sem] at hL
  simp only[A20,St.init,St.initG,Tryz.ntmps100,go_sem] 
  have hS:X2 (kd,a,bb,fr) tb ii ss:=hc
  obtain⟨h1,h2,h3,h4,h5,h6,h7,h8,h9,h10,h11,h12,h13⟩:=z0 hS
  have hi0:=V4 hS 0
  have hi1:=V4 hS 1
  have hua:0≤a→IntKind.u64.wrap a=a:=fun h=>B5v (by omega)
  refine oS fun _ hK1=>?_;refine oW A5 ?_;simp only[go_sem];repeat(with_reducible first|refine oA ?_|refine And.intro (by first|exact⟨by omega,by omega⟩) ?_)
  refine hK1 _ ?_;refine oS fun _ hK2=>?_;refine oS fun _ hK3=>?_;refine oW A5 ?_;simp only[go_sem];repeat(with_reducible first|refine oA ?_|refine And.intro (by first|exact⟨by omega,by omega⟩) ?_)
  refine hK3 _ ?_;refine A3 ?_;refine oS fun _ hK4=>?_;refine oW A5 ?_;simp only[go_sem];repeat(with_reducible first|refine oA ?_|refine And.intro (by first|exact⟨by omega,by omega⟩) ?_)
  refine hK4 _ ?_;refine oC rfl ?_ ?_
  ·
   intro c0;refine oS fun _ hK5=>?_;refine oW A5 ?_;simp only[go_sem];repeat(with_reducible first|refine oA ?_|refine And.intro (by first|exact⟨by omega,by omega⟩) ?_)
   refine hK5 _ ?_;refine A0 ?_;simp only[hres,go_sem];first|exact oF|(refine⟨?_,oF⟩;first|(have e:kd=1:=(by assumption);subst e;rfl)|(exfalso;omega)|(have e:kd=17:=(by omega);subst e;exact wAM _ _ _)|fail)
  intro c0;refine oS fun _ hK6=>?_;refine oW A5 ?_;simp only[go_sem];repeat(with_reducible first|refine oA ?_|refine And.intro (by first|exact⟨by omega,by omega⟩) ?_)
  refine hK6 _ ?_;refine oC rfl ?_ ?_
  ·
   intro c1;refine oS fun _ hK7=>?_;refine oW A5 ?_;simp (maxSteps:=2000000)only[go_sem];repeat(with_reducible first|refine oA ?_|refine And.intro (by first|exact⟨by omega,by omega⟩) ?_)
   refine hK7 _ ?_;refine A0 ?_;simp only[hres,go_sem];first|exact oF|(refine⟨?_,oF⟩;first|(have e:kd=2:=(by assumption);subst e;rfl)|(exfalso;omega)|(have e:kd=17:=(by omega);subst e;exact wAM _ _ _)|fail)
  intro c1;refine oS fun _ hK8=>?_;refine oW A5 ?_;simp only[go_sem];repeat(with_reducible first|refine oA ?_|refine And.intro (by first|exact⟨by omega,by omega⟩) ?_)
  refine hK8 _ ?_;refine oC rfl ?_ ?_
  ·
   intro c2;refine oS fun _ hK9=>?_
   refine oR A5
     [[],[0],[0,1],[],[3],[3,4],[0,1,2,3,4,5],[0,1,2,3,4,5,6]]
     [[],[],[],[],[],[],[],[]]
     [[],[],[],[],[],[],[],[]] (by kernel_rfl) (by kernel_rfl) (A7 (acc:=[]) ?_)
   simp (maxSteps:=2000000)only[go_sem];repeat(with_reducible first|refine oD ?_|refine And.intro (by first|exact⟨by omega,by omega⟩) ?_)
   refine hK9 _ ?_;refine A0 ?_;simp only[hres,go_sem];first|exact oF|(refine⟨?_,oF⟩;first|(have e:kd=3:=(by assumption);subst e;rfl)|(exfalso;omega)|(have e:kd=17:=(by omega);subst e;exact wAM _ _ _)|fail)
  intro c2;refine oS fun _ hK10=>?_;refine oW A5 ?_;simp only[go_sem];repeat(with_reducible first|refine oA ?_|refine And.intro (by first|exact⟨by omega,by omega⟩) ?_)
  refine hK10 _ ?_;refine oC rfl ?_ ?_
  ·
   intro c3;refine oS fun _ hK11=>?_
   refine oR A5
     [[],[0],[0,1],[],[3],[3,4],[0,1,2,3,4,5],[0,1,2,3,4,5,6]]
     [[],[],[],[],[],[],[],[]]
     [[],[],[],[],[],[],[],[]] (by kernel_rfl) (by kernel_rfl) (A7 (acc:=[]) ?_)
   simp (maxSteps:=2000000)only[go_sem];repeat(with_reducible first|refine oD ?_|refine And.intro (by first|exact⟨by omega,by omega⟩) ?_)
   refine hK11 _ ?_;refine A0 ?_;simp only[hres,go_sem];first|exact oF|(refine⟨?_,oF⟩;first|(have e:kd=4:=(by assumption);subst e;rfl)|(exfalso;omega)|(have e:kd=17:=(by omega);subst e;exact wAM _ _ _)|fail)
  intro c3;refine oS fun _ hK12=>?_;refine oW A5 ?_;simp only[go_sem];repeat(with_reducible first|refine oA ?_|refine And.intro (by first|exact⟨by omega,by omega⟩) ?_)
  refine hK12 _ ?_;refine oC rfl ?_ ?_
  ·
   intro c4;refine oS fun _ hK13=>?_
   refine oR A5
     [[],[0],[0,1],[0,1,2],[],[4],[4,5],[0,1,2,3,4,5,6],[0,1,2,3,4,5,6,7]]
     [[],[],[],[],[],[],[],[],[]]
     [[],[],[],[],[],[],[],[],[]] (by kernel_rfl) (by kernel_rfl) (A7 (acc:=[]) ?_)
   simp (maxSteps:=2000000)only[go_sem];repeat(with_reducible first|refine oD ?_|refine And.intro (by first|exact⟨by omega,by omega⟩) ?_)
   refine hK13 _ ?_;refine A0 ?_;simp only[hres,go_sem];first|exact oF|(refine⟨?_,oF⟩;first|(have e:kd=5:=(by assumption);subst e;rfl)|(exfalso;omega)|(have e:kd=17:=(by omega);subst e;exact wAM _ _ _)|fail)
  intro c4;refine oS fun _ hK14=>?_;refine oS fun _ hK15=>?_;refine oW A5 ?_;simp only[go_sem];repeat(with_reducible first|refine oA ?_|refine And.intro (by first|exact⟨by omega,by omega⟩) ?_)
  refine hK15 _ ?_;refine oC rfl ?_ ?_
  ·
   intro c5;refine A2 ?_;simp only[go_sem];refine hK14 _ ?_;refine oC rfl ?_ ?_
   ·
    intro c7;refine oS fun _ hK16=>?_;refine oW A5 ?_;simp only[go_sem];repeat(with_reducible first|refine oA ?_|refine And.intro (by first|exact⟨by omega,by omega⟩) ?_)
    refine hK16 _ ?_;refine A0 ?_;simp only[hres,go_sem];first|exact oF|(refine⟨?_,oF⟩;first|(have e:kd=6:=(by assumption);subst e;rfl)|(exfalso;omega)|(have e:kd=17:=(by omega);subst e;exact wAM _ _ _)|fail)
   intro c7;refine oS fun _ hK17=>?_;refine oW A5 ?_;simp only[go_sem];repeat(with_reducible first|refine oA ?_|refine And.intro (by first|exact⟨by omega,by omega⟩) ?_)
   refine hK17 _ ?_;refine oC rfl ?_ ?_
   ·
    intro c8;refine oS fun _ hK18=>?_
    refine oR A5
      [[],[0],[0,1],[],[3],[3,4],[0,1,2,3,4,5],[0,1,2,3,4,5,6]]
      [[],[],[],[],[],[],[],[]]
      [[],[],[],[],[],[],[],[]] (by kernel_rfl) (by kernel_rfl) (A7 (acc:=[]) ?_)
    simp (maxSteps:=2000000)only[go_sem];repeat(with_reducible first|refine oD ?_|refine And.intro (by first|exact⟨by omega,by omega⟩) ?_)
    refine hK18 _ ?_;refine A0 ?_;simp only[hres,go_sem];first|exact oF|(refine⟨?_,oF⟩;first|(have e:kd=7:=(by assumption);subst e;rfl)|(exfalso;omega)|(have e:kd=17:=(by omega);subst e;exact wAM _ _ _)|fail)
   intro c8;refine oS fun _ hK19=>?_;refine oW A5 ?_;simp only[go_sem];repeat(with_reducible first|refine oA ?_|refine And.intro (by first|exact⟨by omega,by omega⟩) ?_)
   refine hK19 _ ?_;refine oC rfl ?_ ?_
   ·
    intro c9;refine oS fun _ hK20=>?_
    refine oR A5
      [[],[0],[0,1],[],[3],[3,4],[0,1,2,3,4,5],[0,1,2,3,4,5,6]]
      [[],[],[],[],[],[],[],[]]
      [[],[],[],[],[],[],[],[]] (by kernel_rfl) (by kernel_rfl) (A7 (acc:=[]) ?_)
    simp (maxSteps:=2000000)only[go_sem];repeat(with_reducible first|refine oD ?_|refine And.intro (by first|exact⟨by omega,by omega⟩) ?_)
    refine hK20 _ ?_;refine A0 ?_;simp only[hres,go_sem];first|exact oF|(refine⟨?_,oF⟩;first|(have e:kd=8:=(by assumption);subst e;rfl)|(exfalso;omega)|(have e:kd=17:=(by omega);subst e;exact wAM _ _ _)|fail)
   intro c9;refine oS fun _ hK21=>?_;refine oW A5 ?_;simp only[go_sem];repeat(with_reducible first|refine oA ?_|refine And.intro (by first|exact⟨by omega,by omega⟩) ?_)
   refine hK21 _ ?_;refine oC rfl ?_ ?_
   ·
    intro c10;refine oS fun _ hK22=>?_
    refine oR A5
      [[],[0],[0,1],[],[3],[3,4],[0,1,2,3,4,5],[0,1,2,3,4,5,6]]
      [[],[],[],[],[],[],[],[]]
      [[],[],[],[],[],[],[],[]] (by kernel_rfl) (by kernel_rfl) (A7 (acc:=[]) ?_)
    simp (maxSteps:=2000000)only[go_sem];repeat(with_reducible first|refine oD ?_|refine And.intro (by first|exact⟨by omega,by omega⟩) ?_)
    refine hK22 _ ?_;refine A0 ?_;simp only[hres,go_sem];first|exact oF|(refine⟨?_,oF⟩;first|(have e:kd=9:=(by assumption);subst e;rfl)|(exfalso;omega)|(have e:kd=17:=(by omega);subst e;exact wAM _ _ _)|fail)
   intro c10;refine oS fun _ hK23=>?_;refine oW A5 ?_;simp only[go_sem];repeat(with_reducible first|refine oA ?_|refine And.intro (by first|exact⟨by omega,by omega⟩) ?_)
   refine hK23 _ ?_;refine oC rfl ?_ ?_
   ·
    intro c11;refine oS fun _ hK24=>?_
    refine oR A5
      [[],[0],[0,1],[],[3],[3,4],[3,4,5],[3,4,5,6],[0,1,2,3,4,5,6,7],[0,1,2,3,4,5,6,7,8]]
      [[],[],[],[],[],[],[],[],[],[]]
      [[],[],[],[],[],[],[],[],[],[]] (by kernel_rfl) (by kernel_rfl) (A7 (acc:=[]) ?_)
    simp (maxSteps:=2000000)only[go_sem];repeat(with_reducible first|refine oD ?_|refine And.intro (by first|exact⟨by omega,by omega⟩) ?_)
    refine hK24 _ ?_;refine A0 ?_;simp only[hres,go_sem];first|exact oF|(refine⟨?_,oF⟩;first|(have e:kd=10:=(by assumption);subst e;rw[hua (by omega)];rfl)|(exfalso;omega))
   intro c11;refine oS fun _ hK25=>?_;refine oW A5 ?_;simp only[go_sem];repeat(with_reducible first|refine oA ?_|refine And.intro (by first|exact⟨by omega,by omega⟩) ?_)
   refine hK25 _ ?_;refine oC rfl ?_ ?_
   ·
    intro c12;refine oS fun _ hK26=>?_
    refine oR A5
      [[],[0],[0,1],[0,1,2],[0,1,2,3],[],[5],[5,6],[],[8],[8,9],[8,9,10],[5,6,7,8,9,10,11],[0,1,2,3,4,5,6,7,8,9,10,11,12],[0,1,2,3,4,5,6,7,8,9,10,11,12,13]]
      [[],[],[],[],[],[],[],[],[],[],[],[],[],[],[]]
      [[],[],[],[],[],[],[],[],[],[],[],[],[],[],[]] (by kernel_rfl) (by kernel_rfl) (A7 (acc:=[]) ?_)
    simp (maxSteps:=2000000)only[go_sem];repeat(with_reducible first|refine oD ?_|refine And.intro (by first|exact⟨by omega,by omega⟩) ?_)
    refine hK26 _ ?_;refine A0 ?_;simp only[hres,go_sem];first|exact oF|(refine⟨?_,oF⟩;first|(have e:kd=11:=(by assumption);subst e;exact A6o (by omega))|(exfalso;omega))
   intro c12;refine oS fun _ hK27=>?_;refine oW A5 ?_;simp only[go_sem];repeat(with_reducible first|refine oA ?_|refine And.intro (by first|exact⟨by omega,by omega⟩) ?_)
   refine hK27 _ ?_;refine oC rfl ?_ ?_
   ·
    intro c13;refine oS fun _ hK28=>?_
    refine oR A5
      [[],[],[1],[1,2],[1,2,3],[0,1,2,3,4],[0,1,2,3,4,5],[],[7],[7,8],[0,1,2,3,4,5,6,7,8,9],[0,1,2,3,4,5,6,7,8,9,10]]
      [[],[],[],[],[],[],[],[],[],[],[],[]]
      [[],[],[],[],[],[],[],[],[],[],[],[]] (by kernel_rfl) (by kernel_rfl) (A7 (acc:=[]) ?_)
    simp (maxSteps:=2000000)only[go_sem];repeat(with_reducible first|refine oD ?_|refine And.intro (by first|exact⟨by omega,by omega⟩) ?_)
    refine hK28 _ ?_;refine A0 ?_;simp only[hres,go_sem];first|exact oF|(refine⟨?_,oF⟩;first|(have e:kd=13:=(by assumption);subst e;rfl)|(exfalso;omega)|(have e:kd=17:=(by omega);subst e;exact wAM _ _ _)|fail)
   intro c13;refine oS fun _ hK29=>?_;refine oW A5 ?_;simp only[go_sem];repeat(with_reducible first|refine oA ?_|refine And.intro (by first|exact⟨by omega,by omega⟩) ?_)
   refine hK29 _ ?_;refine oC rfl ?_ ?_
   ·
    intro c14;refine oS fun _ hK30=>?_;refine oS fun _ hK31=>?_;refine oW A5 ?_;simp only[go_sem];repeat(with_reducible first|refine oA ?_|refine And.intro (by first|exact⟨by omega,by omega⟩) ?_)
    refine hK31 _ ?_;refine oC rfl ?_ ?_
    ·
     intro c15;refine oS fun _ hK32=>?_;refine oW A5 ?_;simp only[go_sem];repeat(with_reducible first|refine oA ?_|refine And.intro (by first|exact⟨by omega,by omega⟩) ?_)
     refine hK32 _ ?_;refine A0 ?_;simp only[hres,go_sem];first|exact oF|(refine⟨?_,oF⟩;first|(have e:kd=15:=(by assumption);subst e;first|exact(L5 (by assumption)).symm|exact(L6 (by omega)).symm)|(exfalso;omega))
    intro c15;refine A2 ?_;simp only[go_sem];refine hK30 _ ?_;refine oS fun _ hK33=>?_;refine oW A5 ?_;simp only[go_sem];repeat(with_reducible first|refine oA ?_|refine And.intro (by first|exact⟨by omega,by omega⟩) ?_)
    refine hK33 _ ?_;refine A0 ?_;simp only[hres,go_sem];first|exact oF|(refine⟨?_,oF⟩;first|(have e:kd=15:=(by assumption);subst e;first|exact(L5 (by assumption)).symm|exact(L6 (by omega)).symm)|(exfalso;omega))
   intro c14;refine oS fun _ hK34=>?_;refine oW A5 ?_;simp only[go_sem];repeat(with_reducible first|refine oA ?_|refine And.intro (by first|exact⟨by omega,by omega⟩) ?_)
   refine hK34 _ ?_;refine oC rfl ?_ ?_
   ·
    intro c16;refine oS fun _ hK35=>?_;refine oS fun _ hK36=>?_;refine oW A5 ?_;simp only[go_sem];repeat(with_reducible first|refine oA ?_|refine And.intro (by first|exact⟨by omega,by omega⟩) ?_)
    refine hK36 _ ?_;refine oC rfl ?_ ?_
    ·
     intro c17;refine oS fun _ hK37=>?_;refine oW A5 ?_;simp only[go_sem];repeat(with_reducible first|refine oA ?_|refine And.intro (by first|exact⟨by omega,by omega⟩) ?_)
     refine hK37 _ ?_;refine A0 ?_;simp only[hres,go_sem];first|exact oF|(refine⟨?_,oF⟩;first|(have e:kd=16:=(by assumption);subst e;first|exact(N4 (by assumption)).symm|exact(N1 (by omega)).symm)|(exfalso;omega))
    intro c17;refine A2 ?_;simp only[go_sem];refine hK35 _ ?_;refine oS fun _ hK38=>?_;refine oW A5 ?_;simp only[go_sem];repeat(with_reducible first|refine oA ?_|refine And.intro (by first|exact⟨by omega,by omega⟩) ?_)
    refine hK38 _ ?_;refine A0 ?_;simp only[hres,go_sem];first|exact oF|(refine⟨?_,oF⟩;first|(have e:kd=16:=(by assumption);subst e;first|exact(N4 (by assumption)).symm|exact(N1 (by omega)).symm)|(exfalso;omega))
   intro c16;refine A2 ?_;simp only[go_sem];refine hK2 _ ?_;refine oS fun _ hK39=>?_
   refine oR A5
     [[],[0],[0,1],[],[3],[3,4],[3,4,5],[],[7],[7,8],[3,4,5,6,7,8,9],[0,1,2,3,4,5,6,7,8,9,10],[0,1,2,3,4,5,6,7,8,9,10,11]]
     [[],[],[],[],[],[],[],[],[],[],[],[],[]]
     [[],[],[],[],[],[],[],[],[],[],[],[],[]] (by kernel_rfl) (by kernel_rfl) (A7 (acc:=[]) ?_)
   simp (maxSteps:=2000000)only[go_sem];repeat(with_reducible first|refine oD ?_|refine And.intro (by first|exact⟨by omega,by omega⟩) ?_)
   refine hK39 _ ?_;refine A0 ?_;simp only[hres,go_sem];first|exact oF|(refine⟨?_,oF⟩;first|(have e:kd=6:=(by assumption);subst e;rfl)|(exfalso;omega)|(have e:kd=17:=(by omega);subst e;exact wAM _ _ _)|fail)
  intro c5;refine oS fun _ hK40=>?_;refine oW A5 ?_;simp only[go_sem];repeat(with_reducible first|refine oA ?_|refine And.intro (by first|exact⟨by omega,by omega⟩) ?_)
  refine hK40 _ ?_;refine oC rfl ?_ ?_
  ·
   intro c6;refine A2 ?_;simp only[go_sem];refine hK14 _ ?_;refine oC rfl ?_ ?_
   ·
    intro c7;refine oS fun _ hK41=>?_;refine oW A5 ?_;simp only[go_sem];repeat(with_reducible first|refine oA ?_|refine And.intro (by first|exact⟨by omega,by omega⟩) ?_)
    refine hK41 _ ?_;refine A0 ?_;simp only[hres,go_sem];first|exact oF|(refine⟨?_,oF⟩;first|(have e:kd=12:=(by assumption);subst e;rfl)|(exfalso;omega)|(have e:kd=17:=(by omega);subst e;exact wAM _ _ _)|fail)
   intro c7;refine oS fun _ hK42=>?_;refine oW A5 ?_;simp only[go_sem];repeat(with_reducible first|refine oA ?_|refine And.intro (by first|exact⟨by omega,by omega⟩) ?_)
   refine hK42 _ ?_;refine oC rfl ?_ ?_
   ·
    intro c8;refine oS fun _ hK43=>?_
    refine oR A5
      [[],[0],[0,1],[],[3],[3,4],[0,1,2,3,4,5],[0,1,2,3,4,5,6]]
      [[],[],[],[],[],[],[],[]]
      [[],[],[],[],[],[],[],[]] (by kernel_rfl) (by kernel_rfl) (A7 (acc:=[]) ?_)
    simp (maxSteps:=2000000)only[go_sem];repeat(with_reducible first|refine oD ?_|refine And.intro (by first|exact⟨by omega,by omega⟩) ?_)
    refine hK43 _ ?_;refine A0 ?_;simp only[hres,go_sem];first|exact oF|(refine⟨?_,oF⟩;first|(have e:kd=7:=(by assumption);subst e;rfl)|(exfalso;omega)|(have e:kd=17:=(by omega);subst e;exact wAM _ _ _)|fail)
   intro c8;refine oS fun _ hK44=>?_;refine oW A5 ?_;simp only[go_sem];repeat(with_reducible first|refine oA ?_|refine And.intro (by first|exact⟨by omega,by omega⟩) ?_)
   refine hK44 _ ?_;refine oC rfl ?_ ?_
   ·
    intro c9;refine oS fun _ hK45=>?_
    refine oR A5
      [[],[0],[0,1],[],[3],[3,4],[0,1,2,3,4,5],[0,1,2,3,4,5,6]]
      [[],[],[],[],[],[],[],[]]
      [[],[],[],[],[],[],[],[]] (by kernel_rfl) (by kernel_rfl) (A7 (acc:=[]) ?_)
    simp (maxSteps:=2000000)only[go_sem];repeat(with_reducible first|refine oD ?_|refine And.intro (by first|exact⟨by omega,by omega⟩) ?_)
    refine hK45 _ ?_;refine A0 ?_;simp only[hres,go_sem];first|exact oF|(refine⟨?_,oF⟩;first|(have e:kd=8:=(by assumption);subst e;rfl)|(exfalso;omega)|(have e:kd=17:=(by omega);subst e;exact wAM _ _ _)|fail)
   intro c9;refine oS fun _ hK46=>?_;refine oW A5 ?_;simp only[go_sem];repeat(with_reducible first|refine oA ?_|refine And.intro (by first|exact⟨by omega,by omega⟩) ?_)
   refine hK46 _ ?_;refine oC rfl ?_ ?_
   ·
    intro c10;refine oS fun _ hK47=>?_
    refine oR A5
      [[],[0],[0,1],[],[3],[3,4],[0,1,2,3,4,5],[0,1,2,3,4,5,6]]
      [[],[],[],[],[],[],[],[]]
      [[],[],[],[],[],[],[],[]] (by kernel_rfl) (by kernel_rfl) (A7 (acc:=[]) ?_)
    simp (maxSteps:=2000000)only[go_sem];repeat(with_reducible first|refine oD ?_|refine And.intro (by first|exact⟨by omega,by omega⟩) ?_)
    refine hK47 _ ?_;refine A0 ?_;simp only[hres,go_sem];first|exact oF|(refine⟨?_,oF⟩;first|(have e:kd=9:=(by assumption);subst e;rfl)|(exfalso;omega)|(have e:kd=17:=(by omega);subst e;exact wAM _ _ _)|fail)
   intro c10;refine oS fun _ hK48=>?_;refine oW A5 ?_;simp only[go_sem];repeat(with_reducible first|refine oA ?_|refine And.intro (by first|exact⟨by omega,by omega⟩) ?_)
   refine hK48 _ ?_;refine oC rfl ?_ ?_
   ·
    intro c11;refine oS fun _ hK49=>?_
    refine oR A5
      [[],[0],[0,1],[],[3],[3,4],[3,4,5],[3,4,5,6],[0,1,2,3,4,5,6,7],[0,1,2,3,4,5,6,7,8]]
      [[],[],[],[],[],[],[],[],[],[]]
      [[],[],[],[],[],[],[],[],[],[]] (by kernel_rfl) (by kernel_rfl) (A7 (acc:=[]) ?_)
    simp (maxSteps:=2000000)only[go_sem];repeat(with_reducible first|refine oD ?_|refine And.intro (by first|exact⟨by omega,by omega⟩) ?_)
    refine hK49 _ ?_;refine A0 ?_;simp only[hres,go_sem];first|exact oF|(refine⟨?_,oF⟩;first|(have e:kd=10:=(by assumption);subst e;rw[hua (by omega)];rfl)|(exfalso;omega))
   intro c11;refine oS fun _ hK50=>?_;refine oW A5 ?_;simp only[go_sem];repeat(with_reducible first|refine oA ?_|refine And.intro (by first|exact⟨by omega,by omega⟩) ?_)
   refine hK50 _ ?_;refine oC rfl ?_ ?_
   ·
    intro c12;refine oS fun _ hK51=>?_
    refine oR A5
      [[],[0],[0,1],[0,1,2],[0,1,2,3],[],[5],[5,6],[],[8],[8,9],[8,9,10],[5,6,7,8,9,10,11],[0,1,2,3,4,5,6,7,8,9,10,11,12],[0,1,2,3,4,5,6,7,8,9,10,11,12,13]]
      [[],[],[],[],[],[],[],[],[],[],[],[],[],[],[]]
      [[],[],[],[],[],[],[],[],[],[],[],[],[],[],[]] (by kernel_rfl) (by kernel_rfl) (A7 (acc:=[]) ?_)
    simp (maxSteps:=2000000)only[go_sem];repeat(with_reducible first|refine oD ?_|refine And.intro (by first|exact⟨by omega,by omega⟩) ?_)
    refine hK51 _ ?_;refine A0 ?_;simp only[hres,go_sem];first|exact oF|(refine⟨?_,oF⟩;first|(have e:kd=11:=(by assumption);subst e;exact A6o (by omega))|(exfalso;omega))
   intro c12;refine oS fun _ hK52=>?_;refine oW A5 ?_;simp only[go_sem];repeat(with_reducible first|refine oA ?_|refine And.intro (by first|exact⟨by omega,by omega⟩) ?_)
   refine hK52 _ ?_;refine oC rfl ?_ ?_
   ·
    intro c13;refine oS fun _ hK53=>?_
    refine oR A5
      [[],[],[1],[1,2],[1,2,3],[0,1,2,3,4],[0,1,2,3,4,5],[],[7],[7,8],[0,1,2,3,4,5,6,7,8,9],[0,1,2,3,4,5,6,7,8,9,10]]
      [[],[],[],[],[],[],[],[],[],[],[],[]]
      [[],[],[],[],[],[],[],[],[],[],[],[]] (by kernel_rfl) (by kernel_rfl) (A7 (acc:=[]) ?_)
    simp (maxSteps:=2000000)only[go_sem];repeat(with_reducible first|refine oD ?_|refine And.intro (by first|exact⟨by omega,by omega⟩) ?_)
    refine hK53 _ ?_;refine A0 ?_;simp only[hres,go_sem];first|exact oF|(refine⟨?_,oF⟩;first|(have e:kd=13:=(by assumption);subst e;rfl)|(exfalso;omega)|(have e:kd=17:=(by omega);subst e;exact wAM _ _ _)|fail)
   intro c13;refine oS fun _ hK54=>?_;refine oW A5 ?_;simp only[go_sem];repeat(with_reducible first|refine oA ?_|refine And.intro (by first|exact⟨by omega,by omega⟩) ?_)
   refine hK54 _ ?_;refine oC rfl ?_ ?_
   ·
    intro c14;refine oS fun _ hK55=>?_;refine oS fun _ hK56=>?_;refine oW A5 ?_;simp only[go_sem];repeat(with_reducible first|refine oA ?_|refine And.intro (by first|exact⟨by omega,by omega⟩) ?_)
    refine hK56 _ ?_;refine oC rfl ?_ ?_
    ·
     intro c15;refine oS fun _ hK57=>?_;refine oW A5 ?_;simp only[go_sem];repeat(with_reducible first|refine oA ?_|refine And.intro (by first|exact⟨by omega,by omega⟩) ?_)
     refine hK57 _ ?_;refine A0 ?_;simp only[hres,go_sem];first|exact oF|(refine⟨?_,oF⟩;first|(have e:kd=15:=(by assumption);subst e;first|exact(L5 (by assumption)).symm|exact(L6 (by omega)).symm)|(exfalso;omega))
    intro c15;refine A2 ?_;simp only[go_sem];refine hK55 _ ?_;refine oS fun _ hK58=>?_;refine oW A5 ?_;simp only[go_sem];repeat(with_reducible first|refine oA ?_|refine And.intro (by first|exact⟨by omega,by omega⟩) ?_)
    refine hK58 _ ?_;refine A0 ?_;simp only[hres,go_sem];first|exact oF|(refine⟨?_,oF⟩;first|(have e:kd=15:=(by assumption);subst e;first|exact(L5 (by assumption)).symm|exact(L6 (by omega)).symm)|(exfalso;omega))
   intro c14;refine oS fun _ hK59=>?_;refine oW A5 ?_;simp only[go_sem];repeat(with_reducible first|refine oA ?_|refine And.intro (by first|exact⟨by omega,by omega⟩) ?_)
   refine hK59 _ ?_;refine oC rfl ?_ ?_
   ·
    intro c16;refine oS fun _ hK60=>?_;refine oS fun _ hK61=>?_;refine oW A5 ?_;simp only[go_sem];repeat(with_reducible first|refine oA ?_|refine And.intro (by first|exact⟨by omega,by omega⟩) ?_)
    refine hK61 _ ?_;refine oC rfl ?_ ?_
    ·
     intro c17;refine oS fun _ hK62=>?_;refine oW A5 ?_;simp only[go_sem];repeat(with_reducible first|refine oA ?_|refine And.intro (by first|exact⟨by omega,by omega⟩) ?_)
     refine hK62 _ ?_;refine A0 ?_;simp only[hres,go_sem];first|exact oF|(refine⟨?_,oF⟩;first|(have e:kd=16:=(by assumption);subst e;first|exact(N4 (by assumption)).symm|exact(N1 (by omega)).symm)|(exfalso;omega))
    intro c17;refine A2 ?_;simp only[go_sem];refine hK60 _ ?_;refine oS fun _ hK63=>?_;refine oW A5 ?_;simp only[go_sem];repeat(with_reducible first|refine oA ?_|refine And.intro (by first|exact⟨by omega,by omega⟩) ?_)
    refine hK63 _ ?_;refine A0 ?_;simp only[hres,go_sem];first|exact oF|(refine⟨?_,oF⟩;first|(have e:kd=16:=(by assumption);subst e;first|exact(N4 (by assumption)).symm|exact(N1 (by omega)).symm)|(exfalso;omega))
   intro c16;refine A2 ?_;simp only[go_sem];refine hK2 _ ?_;refine oS fun _ hK64=>?_
   refine oR A5
     [[],[0],[0,1],[],[3],[3,4],[3,4,5],[],[7],[7,8],[3,4,5,6,7,8,9],[0,1,2,3,4,5,6,7,8,9,10],[0,1,2,3,4,5,6,7,8,9,10,11]]
     [[],[],[],[],[],[],[],[],[],[],[],[],[]]
     [[],[],[],[],[],[],[],[],[],[],[],[],[]] (by kernel_rfl) (by kernel_rfl) (A7 (acc:=[]) ?_)
   simp (maxSteps:=2000000)only[go_sem];repeat(with_reducible first|refine oD ?_|refine And.intro (by first|exact⟨by omega,by omega⟩) ?_)
   refine hK64 _ ?_;refine A0 ?_;simp only[hres,go_sem];first|exact oF|(refine⟨?_,oF⟩;first|(have e:kd=12:=(by assumption);subst e;rfl)|(exfalso;omega)|(have e:kd=17:=(by omega);subst e;exact wAM _ _ _)|fail)
  intro c6;refine oW A5 ?_;simp only[go_sem];repeat(with_reducible first|refine oA ?_|refine And.intro (by first|exact⟨by omega,by omega⟩) ?_)
  refine hK14 _ ?_;refine oC rfl ?_ ?_
  ·
   intro c7;refine oS fun _ hK65=>?_;refine oW A5 ?_;simp only[go_sem];repeat(with_reducible first|refine oA ?_|refine And.intro (by first|exact⟨by omega,by omega⟩) ?_)
   refine hK65 _ ?_;refine A0 ?_;simp only[hres,go_sem];first|exact oF|(refine⟨?_,oF⟩;first|(have e:kd=14:=(by assumption);subst e;rfl)|(exfalso;omega)|(have e:kd=17:=(by omega);subst e;exact wAM _ _ _)|fail)
  intro c7;refine oS fun _ hK66=>?_;refine oW A5 ?_;simp only[go_sem];repeat(with_reducible first|refine oA ?_|refine And.intro (by first|exact⟨by omega,by omega⟩) ?_)
  refine hK66 _ ?_;refine oC rfl ?_ ?_
  ·
   intro c8;refine oS fun _ hK67=>?_
   refine oR A5
     [[],[0],[0,1],[],[3],[3,4],[0,1,2,3,4,5],[0,1,2,3,4,5,6]]
     [[],[],[],[],[],[],[],[]]
     [[],[],[],[],[],[],[],[]] (by kernel_rfl) (by kernel_rfl) (A7 (acc:=[]) ?_)
   simp (maxSteps:=2000000)only[go_sem];repeat(with_reducible first|refine oD ?_|refine And.intro (by first|exact⟨by omega,by omega⟩) ?_)
   refine hK67 _ ?_;refine A0 ?_;simp only[hres,go_sem];first|exact oF|(refine⟨?_,oF⟩;first|(have e:kd=7:=(by assumption);subst e;rfl)|(exfalso;omega)|(have e:kd=17:=(by omega);subst e;exact wAM _ _ _)|fail)
  intro c8;refine oS fun _ hK68=>?_;refine oW A5 ?_;simp only[go_sem];repeat(with_reducible first|refine oA ?_|refine And.intro (by first|exact⟨by omega,by omega⟩) ?_)
  refine hK68 _ ?_;refine oC rfl ?_ ?_
  ·
   intro c9;refine oS fun _ hK69=>?_
   refine oR A5
     [[],[0],[0,1],[],[3],[3,4],[0,1,2,3,4,5],[0,1,2,3,4,5,6]]
     [[],[],[],[],[],[],[],[]]
     [[],[],[],[],[],[],[],[]] (by kernel_rfl) (by kernel_rfl) (A7 (acc:=[]) ?_)
   simp (maxSteps:=2000000)only[go_sem];repeat(with_reducible first|refine oD ?_|refine And.intro (by first|exact⟨by omega,by omega⟩) ?_)
   refine hK69 _ ?_;refine A0 ?_;simp only[hres,go_sem];first|exact oF|(refine⟨?_,oF⟩;first|(have e:kd=8:=(by assumption);subst e;rfl)|(exfalso;omega)|(have e:kd=17:=(by omega);subst e;exact wAM _ _ _)|fail)
  intro c9;refine oS fun _ hK70=>?_;refine oW A5 ?_;simp only[go_sem];repeat(with_reducible first|refine oA ?_|refine And.intro (by first|exact⟨by omega,by omega⟩) ?_)
  refine hK70 _ ?_;refine oC rfl ?_ ?_
  ·
   intro c10;refine oS fun _ hK71=>?_
   refine oR A5
     [[],[0],[0,1],[],[3],[3,4],[0,1,2,3,4,5],[0,1,2,3,4,5,6]]
     [[],[],[],[],[],[],[],[]]
     [[],[],[],[],[],[],[],[]] (by kernel_rfl) (by kernel_rfl) (A7 (acc:=[]) ?_)
   simp (maxSteps:=2000000)only[go_sem];repeat(with_reducible first|refine oD ?_|refine And.intro (by first|exact⟨by omega,by omega⟩) ?_)
   refine hK71 _ ?_;refine A0 ?_;simp only[hres,go_sem];first|exact oF|(refine⟨?_,oF⟩;first|(have e:kd=9:=(by assumption);subst e;rfl)|(exfalso;omega)|(have e:kd=17:=(by omega);subst e;exact wAM _ _ _)|fail)
  intro c10;refine oS fun _ hK72=>?_;refine oW A5 ?_;simp only[go_sem];repeat(with_reducible first|refine oA ?_|refine And.intro (by first|exact⟨by omega,by omega⟩) ?_)
  refine hK72 _ ?_;refine oC rfl ?_ ?_
  ·
   intro c11;refine oS fun _ hK73=>?_
   refine oR A5
     [[],[0],[0,1],[],[3],[3,4],[3,4,5],[3,4,5,6],[0,1,2,3,4,5,6,7],[0,1,2,3,4,5,6,7,8]]
     [[],[],[],[],[],[],[],[],[],[]]
     [[],[],[],[],[],[],[],[],[],[]] (by kernel_rfl) (by kernel_rfl) (A7 (acc:=[]) ?_)
   simp (maxSteps:=2000000)only[go_sem];repeat(with_reducible first|refine oD ?_|refine And.intro (by first|exact⟨by omega,by omega⟩) ?_)
   refine hK73 _ ?_;refine A0 ?_;simp only[hres,go_sem];first|exact oF|(refine⟨?_,oF⟩;first|(have e:kd=10:=(by assumption);subst e;rw[hua (by omega)];rfl)|(exfalso;omega))
  intro c11;refine oS fun _ hK74=>?_;refine oW A5 ?_;simp only[go_sem];repeat(with_reducible first|refine oA ?_|refine And.intro (by first|exact⟨by omega,by omega⟩) ?_)
  refine hK74 _ ?_;refine oC rfl ?_ ?_
  ·
   intro c12;refine oS fun _ hK75=>?_
   refine oR A5
     [[],[0],[0,1],[0,1,2],[0,1,2,3],[],[5],[5,6],[],[8],[8,9],[8,9,10],[5,6,7,8,9,10,11],[0,1,2,3,4,5,6,7,8,9,10,11,12],[0,1,2,3,4,5,6,7,8,9,10,11,12,13]]
     [[],[],[],[],[],[],[],[],[],[],[],[],[],[],[]]
     [[],[],[],[],[],[],[],[],[],[],[],[],[],[],[]] (by kernel_rfl) (by kernel_rfl) (A7 (acc:=[]) ?_)
   simp (maxSteps:=2000000)only[go_sem];repeat(with_reducible first|refine oD ?_|refine And.intro (by first|exact⟨by omega,by omega⟩) ?_)
   refine hK75 _ ?_;refine A0 ?_;simp only[hres,go_sem];first|exact oF|(refine⟨?_,oF⟩;first|(have e:kd=11:=(by assumption);subst e;exact A6o (by omega))|(exfalso;omega))
  intro c12;refine oS fun _ hK76=>?_;refine oW A5 ?_;simp only[go_sem];repeat(with_reducible first|refine oA ?_|refine And.intro (by first|exact⟨by omega,by omega⟩) ?_)
  refine hK76 _ ?_;refine oC rfl ?_ ?_
  ·
   intro c13;refine oS fun _ hK77=>?_
   refine oR A5
     [[],[],[1],[1,2],[1,2,3],[0,1,2,3,4],[0,1,2,3,4,5],[],[7],[7,8],[0,1,2,3,4,5,6,7,8,9],[0,1,2,3,4,5,6,7,8,9,10]]
     [[],[],[],[],[],[],[],[],[],[],[],[]]
     [[],[],[],[],[],[],[],[],[],[],[],[]] (by kernel_rfl) (by kernel_rfl) (A7 (acc:=[]) ?_)
   simp (maxSteps:=2000000)only[go_sem];repeat(with_reducible first|refine oD ?_|refine And.intro (by first|exact⟨by omega,by omega⟩) ?_)
   refine hK77 _ ?_;refine A0 ?_;simp only[hres,go_sem];first|exact oF|(refine⟨?_,oF⟩;first|(have e:kd=13:=(by assumption);subst e;rfl)|(exfalso;omega)|(have e:kd=17:=(by omega);subst e;exact wAM _ _ _)|fail)
  intro c13;refine oS fun _ hK78=>?_;refine oW A5 ?_;simp only[go_sem];repeat(with_reducible first|refine oA ?_|refine And.intro (by first|exact⟨by omega,by omega⟩) ?_)
  refine hK78 _ ?_;refine oC rfl ?_ ?_
  ·
   intro c14;refine oS fun _ hK79=>?_;refine oS fun _ hK80=>?_;refine oW A5 ?_;simp only[go_sem];repeat(with_reducible first|refine oA ?_|refine And.intro (by first|exact⟨by omega,by omega⟩) ?_)
   refine hK80 _ ?_;refine oC rfl ?_ ?_
   ·
    intro c15;refine oS fun _ hK81=>?_;refine oW A5 ?_;simp only[go_sem];repeat(with_reducible first|refine oA ?_|refine And.intro (by first|exact⟨by omega,by omega⟩) ?_)
    refine hK81 _ ?_;refine A0 ?_;simp only[hres,go_sem];first|exact oF|(refine⟨?_,oF⟩;first|(have e:kd=15:=(by assumption);subst e;first|exact(L5 (by assumption)).symm|exact(L6 (by omega)).symm)|(exfalso;omega))
   intro c15;refine A2 ?_;simp only[go_sem];refine hK79 _ ?_;refine oS fun _ hK82=>?_;refine oW A5 ?_;simp only[go_sem];repeat(with_reducible first|refine oA ?_|refine And.intro (by first|exact⟨by omega,by omega⟩) ?_)
   refine hK82 _ ?_;refine A0 ?_;simp only[hres,go_sem];first|exact oF|(refine⟨?_,oF⟩;first|(have e:kd=15:=(by assumption);subst e;first|exact(L5 (by assumption)).symm|exact(L6 (by omega)).symm)|(exfalso;omega))
  intro c14;refine oS fun _ hK83=>?_;refine oW A5 ?_;simp only[go_sem];repeat(with_reducible first|refine oA ?_|refine And.intro (by first|exact⟨by omega,by omega⟩) ?_)
  refine hK83 _ ?_;refine oC rfl ?_ ?_
  ·
   intro c16;refine oS fun _ hK84=>?_;refine oS fun _ hK85=>?_;refine oW A5 ?_;simp only[go_sem];repeat(with_reducible first|refine oA ?_|refine And.intro (by first|exact⟨by omega,by omega⟩) ?_)
   refine hK85 _ ?_;refine oC rfl ?_ ?_
   ·
    intro c17;refine oS fun _ hK86=>?_;refine oW A5 ?_;simp only[go_sem];repeat(with_reducible first|refine oA ?_|refine And.intro (by first|exact⟨by omega,by omega⟩) ?_)
    refine hK86 _ ?_;refine A0 ?_;simp only[hres,go_sem];first|exact oF|(refine⟨?_,oF⟩;first|(have e:kd=16:=(by assumption);subst e;first|exact(N4 (by assumption)).symm|exact(N1 (by omega)).symm)|(exfalso;omega))
   intro c17;refine A2 ?_;simp only[go_sem];refine hK84 _ ?_;refine oS fun _ hK87=>?_;refine oW A5 ?_;simp only[go_sem];repeat(with_reducible first|refine oA ?_|refine And.intro (by first|exact⟨by omega,by omega⟩) ?_)
   refine hK87 _ ?_;refine A0 ?_;simp only[hres,go_sem];first|exact oF|(refine⟨?_,oF⟩;first|(have e:kd=16:=(by assumption);subst e;first|exact(N4 (by assumption)).symm|exact(N1 (by omega)).symm)|(exfalso;omega))
  intro c16;refine A2 ?_;simp only[go_sem];refine hK2 _ ?_;refine oS fun _ hK88=>?_
  refine oR A5
    [[],[0],[0,1],[],[3],[3,4],[3,4,5],[],[7],[7,8],[3,4,5,6,7,8,9],[0,1,2,3,4,5,6,7,8,9,10],[0,1,2,3,4,5,6,7,8,9,10,11]]
    [[],[],[],[],[],[],[],[],[],[],[],[],[]]
    [[],[],[],[],[],[],[],[],[],[],[],[],[]] (by kernel_rfl) (by kernel_rfl) (A7 (acc:=[]) ?_)
  simp (maxSteps:=2000000)only[go_sem];repeat(with_reducible first|refine oD ?_|refine And.intro (by first|exact⟨by omega,by omega⟩) ?_)
  refine hK88 _ ?_;refine A0 ?_;simp only[hres,go_sem];first|exact oF|(refine⟨?_,oF⟩;first|(have e:kd=0:=(by assumption);subst e;rfl)|(exfalso;omega)|(have e:kd=17:=(by omega);subst e;exact wAM _ _ _)|fail)
def A5l:G4:=fun f=>if f=100 then some (.p A20) else A8p f
theorem B0g:B5 Tryz.prog A5l:=F8 B4L (B0 Tryz.func100 rfl (by decide)) A5
attribute [go_sem] A5l A20
end Go.Proofs.YtenjbehedcegdaaGreat
