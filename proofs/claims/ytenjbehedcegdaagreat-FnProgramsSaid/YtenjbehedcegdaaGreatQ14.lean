/-
  Texts of this claim, joined (part 14). No condition beyond those of the theorems.
-/
import Derived.Test.YtenjbehedcegdaaGreatQ09
namespace Go.Proofs.YtenjbehedcegdaaGreat
open Go.RowKit
set_option linter.unusedSimpArgs false
set_option linter.unusedVariables false
set_option maxRecDepth 100000
set_option maxHeartbeats 8000000
def A1q:Con:=⟨[.val ((.prod (.int .i64) (.prod (.int .i64) (.prod (.int .i64) (.row 2 (.int .i64)))))),.val ((.row 26 (.row 2 (.int .i64)))),.val ((.row 2 (.int .i64)))],[⟨.int .i64,true⟩],fun x=>(∃s,X2 x.1 x.2.1 x.2.2.1 s)∧(x.1.1=1∨x.1.1=2∨x.1.1=3∨x.1.1=4∨x.1.1=5∨x.1.1=9∨x.1.1=10∨x.1.1=11∨x.1.1=13∨x.1.1=15),fun x=>x4 x.1.1 x.1.2.1 x.2.1 x.2.2.1 []⟩
theorem B41:C8 Tryz.prog 91 A1q:=by
  refine A4 Tryz.func91 rfl ?_
  have hres:Tryz.f91.results.toList=[.tmp 6]:=rfl
  rintro⟨⟨(kd:Int),(a:Int),(bb:Int),(fr:List Int)⟩,(tb:List (List Int)),(ii:List Int),_⟩ hc hL
  simp only[A1q,go_sem] at hL
  simp only[A1q,St.init,St.initG,Tryz.ntmps91,go_sem] 
  obtain⟨⟨ss,hS⟩,hK⟩:=(show (∃s,X2 (kd,a,bb,fr) tb ii s)∧(kd=1∨kd=2∨kd=3∨kd=4∨kd=5∨kd=9∨kd=10∨kd=11∨kd=13∨kd=15) from hc)
  obtain⟨h1,h2,h3,h4,h5,h6,h7,h8,h9,h10,h11,h12,h13⟩:=z0 hS
  have hi0:=V4 hS 0
  have hi1:=V4 hS 1
  refine oS fun _ hK1=>?_;refine oW A9 ?_;simp only[go_sem];refine hK1 _ ?_;refine oS fun _ hK2=>?_;refine oS fun _ hK3=>?_;refine oW A9 ?_;simp only[go_sem];repeat(with_reducible refine oA ?_)
  refine hK3 _ ?_;refine A3 ?_;refine oS fun _ hK4=>?_;refine oW A9 ?_;simp only[go_sem];refine hK4 _ ?_;refine oC rfl ?_ ?_
  ·
   intro c0;refine oS fun _ hK5=>?_;refine oW A9 ?_;simp only[go_sem];repeat(with_reducible refine oA ?_)
   refine hK5 _ ?_;refine A0 ?_;simp only[hres,go_sem];first|exact oF|(refine⟨?_,oF⟩;first|(have e:kd=2:=(by assumption);subst e;rfl)|(rw[F4];first|(have e:kd=2:=(by assumption);subst e;rfl))|(have e:kd=1:=(by omega);subst e;rfl)|(have e:kd=15:=(by assumption);subst e;first|exact(L5 (by assumption)).symm|exact(L6 (by omega)).symm)|(exfalso;omega)|(have e:kd=11:=(by assumption);subst e;exact W8 (by omega)))
  intro c0;refine oS fun _ hK6=>?_;refine oW A9 ?_;simp only[go_sem];refine hK6 _ ?_;refine oC rfl ?_ ?_
  ·
   intro c1;refine oS fun _ hK7=>?_
   refine oR A9
     [[],[0],[0,1],[],[3],[3,4],[0,1,2,3,4,5],[0,1,2,3,4,5,6],[0,1,2,3,4,5,6,7]]
     [[],[],[],[],[],[],[],[],[]]
     [[],[],[],[],[],[],[],[],[]] (by kernel_rfl) (by kernel_rfl) (A7 (acc:=[]) ?_)
   simp (maxSteps:=2000000)only[F4,go_sem];repeat(with_reducible refine oD ?_)
   refine hK7 _ ?_;refine A0 ?_;simp only[hres,go_sem];first|exact oF|(refine⟨?_,oF⟩;first|(have e:kd=3:=(by assumption);subst e;rfl)|(rw[F4];first|(have e:kd=3:=(by assumption);subst e;rfl))|(have e:kd=1:=(by omega);subst e;rfl)|(have e:kd=15:=(by assumption);subst e;first|exact(L5 (by assumption)).symm|exact(L6 (by omega)).symm)|(exfalso;omega)|(have e:kd=11:=(by assumption);subst e;exact W8 (by omega)))
  intro c1;refine oS fun _ hK8=>?_;refine oW A9 ?_;simp only[go_sem];refine hK8 _ ?_;refine oC rfl ?_ ?_
  ·
   intro c2;refine oS fun _ hK9=>?_
   refine oR A9
     [[],[0],[0,1],[],[3],[3,4],[0,1,2,3,4,5],[0,1,2,3,4,5,6],[0,1,2,3,4,5,6,7]]
     [[],[],[],[],[],[],[],[],[]]
     [[],[],[],[],[],[],[],[],[]] (by kernel_rfl) (by kernel_rfl) (A7 (acc:=[]) ?_)
   simp (maxSteps:=2000000)only[F4,go_sem];repeat(with_reducible refine oD ?_)
   refine hK9 _ ?_;refine A0 ?_;simp only[hres,go_sem];first|exact oF|(refine⟨?_,oF⟩;first|(have e:kd=4:=(by assumption);subst e;rfl)|(rw[F4];first|(have e:kd=4:=(by assumption);subst e;rfl))|(have e:kd=1:=(by omega);subst e;rfl)|(have e:kd=15:=(by assumption);subst e;first|exact(L5 (by assumption)).symm|exact(L6 (by omega)).symm)|(exfalso;omega)|(have e:kd=11:=(by assumption);subst e;exact W8 (by omega)))
  intro c2;refine oS fun _ hK10=>?_;refine oW A9 ?_;simp only[go_sem];refine hK10 _ ?_;refine oC rfl ?_ ?_
  ·
   intro c3;refine oS fun _ hK11=>?_
   refine oR A9
     [[],[0],[],[2],[2,3],[0,1,2,3,4],[0,1,2,3,4,5],[0,1,2,3,4,5,6]]
     [[],[],[],[],[],[],[],[]]
     [[],[],[],[],[],[],[],[]] (by kernel_rfl) (by kernel_rfl) (A7 (acc:=[]) ?_)
   simp (maxSteps:=2000000)only[F4,go_sem];repeat(with_reducible refine oD ?_)
   refine hK11 _ ?_;refine A0 ?_;simp only[hres,go_sem];first|exact oF|(refine⟨?_,oF⟩;first|(have e:kd=5:=(by assumption);subst e;rfl)|(rw[F4];first|(have e:kd=5:=(by assumption);subst e;rfl))|(have e:kd=1:=(by omega);subst e;rfl)|(have e:kd=15:=(by assumption);subst e;first|exact(L5 (by assumption)).symm|exact(L6 (by omega)).symm)|(exfalso;omega)|(have e:kd=11:=(by assumption);subst e;exact W8 (by omega)))
  intro c3;refine oS fun _ hK12=>?_;refine oW A9 ?_;simp only[go_sem];refine hK12 _ ?_;refine oC rfl ?_ ?_
  ·
   intro c4;refine oS fun _ hK13=>?_
   refine oR A9
     [[],[0],[0,1],[],[3],[3,4],[0,1,2,3,4,5],[0,1,2,3,4,5,6],[0,1,2,3,4,5,6,7]]
     [[],[],[],[],[],[],[],[],[]]
     [[],[],[],[],[],[],[],[],[]] (by kernel_rfl) (by kernel_rfl) (A7 (acc:=[]) ?_)
   simp (maxSteps:=2000000)only[F4,go_sem];repeat(with_reducible refine oD ?_)
   refine hK13 _ ?_;refine A0 ?_;simp only[hres,go_sem];first|exact oF|(refine⟨?_,oF⟩;first|(have e:kd=9:=(by assumption);subst e;rfl)|(rw[F4];first|(have e:kd=9:=(by assumption);subst e;rfl))|(have e:kd=1:=(by omega);subst e;rfl)|(have e:kd=15:=(by assumption);subst e;first|exact(L5 (by assumption)).symm|exact(L6 (by omega)).symm)|(exfalso;omega)|(have e:kd=11:=(by assumption);subst e;exact W8 (by omega)))
  intro c4;refine oS fun _ hK14=>?_;refine oW A9 ?_;simp only[go_sem];refine hK14 _ ?_;refine oC rfl ?_ ?_
  ·
   intro c5;refine oS fun _ hK15=>?_;have hua:IntKind.u64.wrap a=a:=B5v (by omega)
   refine oR A9
     [[],[0],[0,1],[],[3],[3,4],[0,1,2,3,4,5],[0,1,2,3,4,5,6]]
     [[],[],[],[],[],[],[],[]]
     [[],[],[],[],[],[],[],[]] (by kernel_rfl) (by kernel_rfl) (A7 (acc:=[]) ?_)
   simp (maxSteps:=2000000)only[hua,go_sem];repeat(with_reducible refine oD ?_)
   refine hK15 _ ?_;refine A0 ?_;simp only[hres,go_sem];first|exact oF|(refine⟨?_,oF⟩;first|(have e:kd=10:=(by assumption);subst e;rfl)|(rw[F4];first|(have e:kd=10:=(by assumption);subst e;rfl))|(have e:kd=1:=(by omega);subst e;rfl)|(have e:kd=15:=(by assumption);subst e;first|exact(L5 (by assumption)).symm|exact(L6 (by omega)).symm)|(exfalso;omega)|(have e:kd=11:=(by assumption);subst e;exact W8 (by omega)))
  intro c5;refine oS fun _ hK16=>?_;refine oW A9 ?_;simp only[go_sem];refine hK16 _ ?_;refine oC rfl ?_ ?_
  ·
   intro c6;refine oS fun _ hK17=>?_;have hna:IntKind.i64.wrap (-a)=-a:=H4 (by omega)
   refine oR A9
     [[],[0],[0,1],[],[3],[],[5],[5,6],[3,4,5,6,7],[0,1,2,3,4,5,6,7,8],[0,1,2,3,4,5,6,7,8,9]]
     [[],[],[],[],[],[],[],[],[],[],[]]
     [[],[],[],[],[],[],[],[],[],[],[]] (by kernel_rfl) (by kernel_rfl) (A7 (acc:=[]) ?_)
   simp (maxSteps:=2000000)only[hna,go_sem];repeat(with_reducible refine oD ?_)
   refine hK17 _ ?_;refine A0 ?_;simp only[hres,go_sem];first|exact oF|(refine⟨?_,oF⟩;first|(have e:kd=11:=(by assumption);subst e;rfl)|(rw[F4];first|(have e:kd=11:=(by assumption);subst e;rfl))|(have e:kd=1:=(by omega);subst e;rfl)|(have e:kd=15:=(by assumption);subst e;first|exact(L5 (by assumption)).symm|exact(L6 (by omega)).symm)|(exfalso;omega)|(have e:kd=11:=(by assumption);subst e;exact W8 (by omega)))
  intro c6;refine oS fun _ hK18=>?_;refine oW A9 ?_;simp only[go_sem];refine hK18 _ ?_;refine oC rfl ?_ ?_
  ·
   intro c7;refine oS fun _ hK19=>?_;refine oW A9 ?_;simp (maxSteps:=2000000)only[go_sem];repeat(with_reducible refine oA ?_)
   refine hK19 _ ?_;refine oS fun _ hK20=>?_;obtain⟨hl1,hl2,hl3,hl4⟩:=B2T (t:=tb.getD a.toNat []) (x:=ii.getD 0 0) (by omega) (by omega)
   have hlw:IntKind.i64.wrap (((tb.getD a.toNat []).length:Int) * uns (ii.getD 0 0))=((tb.getD a.toNat []).length:Int) * uns (ii.getD 0 0):=H4 (by omega)
   refine oR A9
     [[],[],[1],[],[3],[3,4],[1,2,3,4,5],[1,2,3,4,5,6],[1,2,3,4,5,6,7],[0,1,2,3,4,5,6,7,8],[0,1,2,3,4,5,6,7,8,9],[0,1,2,3,4,5,6,7,8,9,10]]
     [[],[],[],[],[],[],[],[],[],[],[],[]]
     [[],[],[],[],[],[],[],[],[],[],[],[]] (by kernel_rfl) (by kernel_rfl) (A7 (acc:=[]) ?_)
   simp (maxSteps:=2000000)only[hlw,B2f,go_sem];repeat(with_reducible refine oD ?_)
   refine hK20 _ ?_;refine A0 ?_;simp only[hres,go_sem];first|exact oF|(refine⟨?_,oF⟩;first|(have e:kd=13:=(by assumption);subst e;rfl)|(rw[F4];first|(have e:kd=13:=(by assumption);subst e;rfl))|(have e:kd=1:=(by omega);subst e;rfl)|(have e:kd=15:=(by assumption);subst e;first|exact(L5 (by assumption)).symm|exact(L6 (by omega)).symm)|(exfalso;omega)|(have e:kd=11:=(by assumption);subst e;exact W8 (by omega)))
  intro c7;refine oS fun _ hK21=>?_;refine oW A9 ?_;simp only[go_sem];refine hK21 _ ?_;refine oC rfl ?_ ?_
  ·
   intro c8;refine oS fun _ hK22=>?_;refine oS fun _ hK23=>?_;refine oW A9 ?_;simp only[go_sem];repeat(with_reducible refine oA ?_)
   refine hK23 _ ?_;refine oC rfl ?_ ?_
   ·
    intro c9;refine oS fun _ hK24=>?_;refine oW A9 ?_;simp only[go_sem];repeat(with_reducible refine oA ?_)
    refine hK24 _ ?_;refine A0 ?_;simp only[hres,go_sem];first|exact oF|(refine⟨?_,oF⟩;first|(have e:kd=15:=(by assumption);subst e;rfl)|(rw[F4];first|(have e:kd=15:=(by assumption);subst e;rfl))|(have e:kd=1:=(by omega);subst e;rfl)|(have e:kd=15:=(by assumption);subst e;first|exact(L5 (by assumption)).symm|exact(L6 (by omega)).symm)|(exfalso;omega)|(have e:kd=11:=(by assumption);subst e;exact W8 (by omega)))
   intro c9;refine A2 ?_;simp only[go_sem];refine hK22 _ ?_;refine oS fun _ hK25=>?_;refine oW A9 ?_;simp only[go_sem];repeat(with_reducible refine oA ?_)
   refine hK25 _ ?_;refine A0 ?_;simp only[hres,go_sem];first|exact oF|(refine⟨?_,oF⟩;first|(have e:kd=15:=(by assumption);subst e;rfl)|(rw[F4];first|(have e:kd=15:=(by assumption);subst e;rfl))|(have e:kd=1:=(by omega);subst e;rfl)|(have e:kd=15:=(by assumption);subst e;first|exact(L5 (by assumption)).symm|exact(L6 (by omega)).symm)|(exfalso;omega)|(have e:kd=11:=(by assumption);subst e;exact W8 (by omega)))
  intro c8;refine A2 ?_;simp only[go_sem];refine hK2 _ ?_;refine oS fun _ hK26=>?_;refine oW A9 ?_;simp only[go_sem];repeat(with_reducible refine oA ?_)
  refine hK26 _ ?_;refine A0 ?_;simp only[hres,go_sem];first|exact oF|(refine⟨?_,oF⟩;first|(have e:kd=0:=(by assumption);subst e;rfl)|(rw[F4];first|(have e:kd=0:=(by assumption);subst e;rfl))|(have e:kd=1:=(by omega);subst e;rfl)|(have e:kd=15:=(by assumption);subst e;first|exact(L5 (by assumption)).symm|exact(L6 (by omega)).symm)|(exfalso;omega)|(have e:kd=11:=(by assumption);subst e;exact W8 (by omega)))
def A5h:G4:=fun f=>if f=91 then some (.p A1q) else s8 f
theorem B01:B5 Tryz.prog A5h:=F8 B41 (B0 Tryz.func91 rfl (by decide)) A9
attribute [go_sem] A5h A1q
end Go.Proofs.YtenjbehedcegdaaGreat
