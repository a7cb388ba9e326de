/-
  Texts of this claim, joined (part 40). No condition beyond those of the theorems.
-/
import Derived.Test.YtgaogcnfijbahaaGreatQ06
import Derived.Test.YtgaogcnfijbahaaGreatQ33
import Derived.Test.YtgaogcnfijbahaaGreatQ04
namespace Go.Proofs.YtgaogcnfijbahaaGreat
open Go.RowKit
set_option linter.unusedSimpArgs false
set_option linter.unusedVariables false
set_option maxRecDepth 100000
set_option maxHeartbeats 8000000
def A3M:Con:=⟨[.val ((.prod (.int .i64) (.prod (.int .i64) (.prod (.int .i64) (.row 2 (.int .i64)))))),.val ((.row 26 (.row 2 (.int .i64)))),.val ((.row 2 (.int .i64)))],[⟨.int .i64,true⟩],fun x=>(∃s,m6 x.1 x.2.1 x.2.2.1 s)∧(x.1.1=1∨x.1.1=2∨x.1.1=3∨x.1.1=4∨x.1.1=5∨x.1.1=9∨x.1.1=10∨x.1.1=11∨x.1.1=13∨x.1.1=15),fun x=>o7 x.1.1 x.1.2.1 x.2.1 x.2.2.1 []⟩
theorem C1G:C9 Tryz.prog 148 A3M:=by
  refine A4 Tryz.func148 rfl ?_
  have hres:Tryz.f148.results.toList=[.tmp 6]:=rfl
  rintro⟨⟨(kd:Int),(a:Int),(bb:Int),(fr:List Int)⟩,(tb:List (List Int)),(ii:List Int),_⟩ hc hL
  simp only[A3M,go_sem] at hL
  simp only[A3M,St.init,St.initG,Tryz.ntmps148,go_sem] 
  obtain⟨⟨ss,hS⟩,hK⟩:=(show (∃s,m6 (kd,a,bb,fr) tb ii s)∧(kd=1∨kd=2∨kd=3∨kd=4∨kd=5∨kd=9∨kd=10∨kd=11∨kd=13∨kd=15) from hc)
  obtain⟨h1,h2,h3,h4,h5,h6,h7,h8,h9,h10,h11,h12,h13⟩:=b7 hS
  have hi0:=b6 hS 0
  have hi1:=b6 hS 1
  refine oS fun _ hK1=>?_;refine oW A5 ?_;simp only[go_sem];refine hK1 _ ?_;refine oS fun _ hK2=>?_;refine oS fun _ hK3=>?_;refine oW A5 ?_;simp only[go_sem];repeat(with_reducible refine oA ?_)
  refine hK3 _ ?_;refine A1 ?_;refine oS fun _ hK4=>?_;refine oW A5 ?_;simp only[go_sem];refine hK4 _ ?_;refine oC rfl ?_ ?_
  ·
   intro c0;refine oS fun _ hK5=>?_;refine oW A5 ?_;simp only[go_sem];repeat(with_reducible refine oA ?_)
   refine hK5 _ ?_;refine A0 ?_;simp only[hres,go_sem];first|exact oF|(refine⟨?_,oF⟩;first|(have e:kd=2:=(by assumption);subst e;rfl)|(rw[F5];first|(have e:kd=2:=(by assumption);subst e;rfl))|(have e:kd=1:=(by omega);subst e;rfl)|(have e:kd=15:=(by assumption);subst e;first|exact(N3 (by assumption)).symm|exact(N7 (by omega)).symm)|(exfalso;omega)|(have e:kd=11:=(by assumption);subst e;exact i8 (by omega)))
  intro c0;refine oS fun _ hK6=>?_;refine oW A5 ?_;simp only[go_sem];refine hK6 _ ?_;refine oC rfl ?_ ?_
  ·
   intro c1;refine oS fun _ hK7=>?_
   refine oR A5
     [[],[0],[0,1],[],[3],[3,4],[0,1,2,3,4,5],[0,1,2,3,4,5,6],[0,1,2,3,4,5,6,7]]
     [[],[],[],[],[],[],[],[],[]]
     [[],[],[],[],[],[],[],[],[]] (by kernel_rfl) (by kernel_rfl) (A9 (acc:=[]) ?_)
   simp (maxSteps:=2000000)only[F5,go_sem];repeat(with_reducible refine oD ?_)
   refine hK7 _ ?_;refine A0 ?_;simp only[hres,go_sem];first|exact oF|(refine⟨?_,oF⟩;first|(have e:kd=3:=(by assumption);subst e;rfl)|(rw[F5];first|(have e:kd=3:=(by assumption);subst e;rfl))|(have e:kd=1:=(by omega);subst e;rfl)|(have e:kd=15:=(by assumption);subst e;first|exact(N3 (by assumption)).symm|exact(N7 (by omega)).symm)|(exfalso;omega)|(have e:kd=11:=(by assumption);subst e;exact i8 (by omega)))
  intro c1;refine oS fun _ hK8=>?_;refine oW A5 ?_;simp only[go_sem];refine hK8 _ ?_;refine oC rfl ?_ ?_
  ·
   intro c2;refine oS fun _ hK9=>?_
   refine oR A5
     [[],[0],[0,1],[],[3],[3,4],[0,1,2,3,4,5],[0,1,2,3,4,5,6],[0,1,2,3,4,5,6,7]]
     [[],[],[],[],[],[],[],[],[]]
     [[],[],[],[],[],[],[],[],[]] (by kernel_rfl) (by kernel_rfl) (A9 (acc:=[]) ?_)
   simp (maxSteps:=2000000)only[F5,go_sem];repeat(with_reducible refine oD ?_)
   refine hK9 _ ?_;refine A0 ?_;simp only[hres,go_sem];first|exact oF|(refine⟨?_,oF⟩;first|(have e:kd=4:=(by assumption);subst e;rfl)|(rw[F5];first|(have e:kd=4:=(by assumption);subst e;rfl))|(have e:kd=1:=(by omega);subst e;rfl)|(have e:kd=15:=(by assumption);subst e;first|exact(N3 (by assumption)).symm|exact(N7 (by omega)).symm)|(exfalso;omega)|(have e:kd=11:=(by assumption);subst e;exact i8 (by omega)))
  intro c2;refine oS fun _ hK10=>?_;refine oW A5 ?_;simp only[go_sem];refine hK10 _ ?_;refine oC rfl ?_ ?_
  ·
   intro c3;refine oS fun _ hK11=>?_
   refine oR A5
     [[],[0],[],[2],[2,3],[0,1,2,3,4],[0,1,2,3,4,5],[0,1,2,3,4,5,6]]
     [[],[],[],[],[],[],[],[]]
     [[],[],[],[],[],[],[],[]] (by kernel_rfl) (by kernel_rfl) (A9 (acc:=[]) ?_)
   simp (maxSteps:=2000000)only[F5,go_sem];repeat(with_reducible refine oD ?_)
   refine hK11 _ ?_;refine A0 ?_;simp only[hres,go_sem];first|exact oF|(refine⟨?_,oF⟩;first|(have e:kd=5:=(by assumption);subst e;rfl)|(rw[F5];first|(have e:kd=5:=(by assumption);subst e;rfl))|(have e:kd=1:=(by omega);subst e;rfl)|(have e:kd=15:=(by assumption);subst e;first|exact(N3 (by assumption)).symm|exact(N7 (by omega)).symm)|(exfalso;omega)|(have e:kd=11:=(by assumption);subst e;exact i8 (by omega)))
  intro c3;refine oS fun _ hK12=>?_;refine oW A5 ?_;simp only[go_sem];refine hK12 _ ?_;refine oC rfl ?_ ?_
  ·
   intro c4;refine oS fun _ hK13=>?_
   refine oR A5
     [[],[0],[0,1],[],[3],[3,4],[0,1,2,3,4,5],[0,1,2,3,4,5,6],[0,1,2,3,4,5,6,7]]
     [[],[],[],[],[],[],[],[],[]]
     [[],[],[],[],[],[],[],[],[]] (by kernel_rfl) (by kernel_rfl) (A9 (acc:=[]) ?_)
   simp (maxSteps:=2000000)only[F5,go_sem];repeat(with_reducible refine oD ?_)
   refine hK13 _ ?_;refine A0 ?_;simp only[hres,go_sem];first|exact oF|(refine⟨?_,oF⟩;first|(have e:kd=9:=(by assumption);subst e;rfl)|(rw[F5];first|(have e:kd=9:=(by assumption);subst e;rfl))|(have e:kd=1:=(by omega);subst e;rfl)|(have e:kd=15:=(by assumption);subst e;first|exact(N3 (by assumption)).symm|exact(N7 (by omega)).symm)|(exfalso;omega)|(have e:kd=11:=(by assumption);subst e;exact i8 (by omega)))
  intro c4;refine oS fun _ hK14=>?_;refine oW A5 ?_;simp only[go_sem];refine hK14 _ ?_;refine oC rfl ?_ ?_
  ·
   intro c5;refine oS fun _ hK15=>?_;have hua:IntKind.u64.wrap a=a:=C1Y (by omega)
   refine oR A5
     [[],[0],[0,1],[],[3],[3,4],[0,1,2,3,4,5],[0,1,2,3,4,5,6]]
     [[],[],[],[],[],[],[],[]]
     [[],[],[],[],[],[],[],[]] (by kernel_rfl) (by kernel_rfl) (A9 (acc:=[]) ?_)
   simp (maxSteps:=2000000)only[hua,go_sem];repeat(with_reducible refine oD ?_)
   refine hK15 _ ?_;refine A0 ?_;simp only[hres,go_sem];first|exact oF|(refine⟨?_,oF⟩;first|(have e:kd=10:=(by assumption);subst e;rfl)|(rw[F5];first|(have e:kd=10:=(by assumption);subst e;rfl))|(have e:kd=1:=(by omega);subst e;rfl)|(have e:kd=15:=(by assumption);subst e;first|exact(N3 (by assumption)).symm|exact(N7 (by omega)).symm)|(exfalso;omega)|(have e:kd=11:=(by assumption);subst e;exact i8 (by omega)))
  intro c5;refine oS fun _ hK16=>?_;refine oW A5 ?_;simp only[go_sem];refine hK16 _ ?_;refine oC rfl ?_ ?_
  ·
   intro c6;refine oS fun _ hK17=>?_;have hna:IntKind.i64.wrap (-a)=-a:=F3 (by omega)
   refine oR A5
     [[],[0],[0,1],[],[3],[],[5],[5,6],[3,4,5,6,7],[0,1,2,3,4,5,6,7,8],[0,1,2,3,4,5,6,7,8,9]]
     [[],[],[],[],[],[],[],[],[],[],[]]
     [[],[],[],[],[],[],[],[],[],[],[]] (by kernel_rfl) (by kernel_rfl) (A9 (acc:=[]) ?_)
   simp (maxSteps:=2000000)only[hna,go_sem];repeat(with_reducible refine oD ?_)
   refine hK17 _ ?_;refine A0 ?_;simp only[hres,go_sem];first|exact oF|(refine⟨?_,oF⟩;first|(have e:kd=11:=(by assumption);subst e;rfl)|(rw[F5];first|(have e:kd=11:=(by assumption);subst e;rfl))|(have e:kd=1:=(by omega);subst e;rfl)|(have e:kd=15:=(by assumption);subst e;first|exact(N3 (by assumption)).symm|exact(N7 (by omega)).symm)|(exfalso;omega)|(have e:kd=11:=(by assumption);subst e;exact i8 (by omega)))
  intro c6;refine oS fun _ hK18=>?_;refine oW A5 ?_;simp only[go_sem];refine hK18 _ ?_;refine oC rfl ?_ ?_
  ·
   intro c7;refine oS fun _ hK19=>?_;refine oW A5 ?_;simp (maxSteps:=2000000)only[go_sem];repeat(with_reducible refine oA ?_)
   refine hK19 _ ?_;refine oS fun _ hK20=>?_;obtain⟨hl1,hl2,hl3,hl4⟩:=B9U (t:=tb.getD a.toNat []) (x:=ii.getD 0 0) (by omega) (by omega)
   have hlw:IntKind.i64.wrap (((tb.getD a.toNat []).length:Int) * uns (ii.getD 0 0))=((tb.getD a.toNat []).length:Int) * uns (ii.getD 0 0):=F3 (by omega)
   refine oR A5
     [[],[],[1],[],[3],[3,4],[1,2,3,4,5],[1,2,3,4,5,6],[1,2,3,4,5,6,7],[0,1,2,3,4,5,6,7,8],[0,1,2,3,4,5,6,7,8,9],[0,1,2,3,4,5,6,7,8,9,10]]
     [[],[],[],[],[],[],[],[],[],[],[],[]]
     [[],[],[],[],[],[],[],[],[],[],[],[]] (by kernel_rfl) (by kernel_rfl) (A9 (acc:=[]) ?_)
   simp (maxSteps:=2000000)only[hlw,B8K,go_sem];repeat(with_reducible refine oD ?_)
   refine hK20 _ ?_;refine A0 ?_;simp only[hres,go_sem];first|exact oF|(refine⟨?_,oF⟩;first|(have e:kd=13:=(by assumption);subst e;rfl)|(rw[F5];first|(have e:kd=13:=(by assumption);subst e;rfl))|(have e:kd=1:=(by omega);subst e;rfl)|(have e:kd=15:=(by assumption);subst e;first|exact(N3 (by assumption)).symm|exact(N7 (by omega)).symm)|(exfalso;omega)|(have e:kd=11:=(by assumption);subst e;exact i8 (by omega)))
  intro c7;refine oS fun _ hK21=>?_;refine oW A5 ?_;simp only[go_sem];refine hK21 _ ?_;refine oC rfl ?_ ?_
  ·
   intro c8;refine oS fun _ hK22=>?_;refine oS fun _ hK23=>?_;refine oW A5 ?_;simp only[go_sem];repeat(with_reducible refine oA ?_)
   refine hK23 _ ?_;refine oC rfl ?_ ?_
   ·
    intro c9;refine oS fun _ hK24=>?_;refine oW A5 ?_;simp only[go_sem];repeat(with_reducible refine oA ?_)
    refine hK24 _ ?_;refine A0 ?_;simp only[hres,go_sem];first|exact oF|(refine⟨?_,oF⟩;first|(have e:kd=15:=(by assumption);subst e;rfl)|(rw[F5];first|(have e:kd=15:=(by assumption);subst e;rfl))|(have e:kd=1:=(by omega);subst e;rfl)|(have e:kd=15:=(by assumption);subst e;first|exact(N3 (by assumption)).symm|exact(N7 (by omega)).symm)|(exfalso;omega)|(have e:kd=11:=(by assumption);subst e;exact i8 (by omega)))
   intro c9;refine A2 ?_;simp only[go_sem];refine hK22 _ ?_;refine oS fun _ hK25=>?_;refine oW A5 ?_;simp only[go_sem];repeat(with_reducible refine oA ?_)
   refine hK25 _ ?_;refine A0 ?_;simp only[hres,go_sem];first|exact oF|(refine⟨?_,oF⟩;first|(have e:kd=15:=(by assumption);subst e;rfl)|(rw[F5];first|(have e:kd=15:=(by assumption);subst e;rfl))|(have e:kd=1:=(by omega);subst e;rfl)|(have e:kd=15:=(by assumption);subst e;first|exact(N3 (by assumption)).symm|exact(N7 (by omega)).symm)|(exfalso;omega)|(have e:kd=11:=(by assumption);subst e;exact i8 (by omega)))
  intro c8;refine A2 ?_;simp only[go_sem];refine hK2 _ ?_;refine oS fun _ hK26=>?_;refine oW A5 ?_;simp only[go_sem];repeat(with_reducible refine oA ?_)
  refine hK26 _ ?_;refine A0 ?_;simp only[hres,go_sem];first|exact oF|(refine⟨?_,oF⟩;first|(have e:kd=0:=(by assumption);subst e;rfl)|(rw[F5];first|(have e:kd=0:=(by assumption);subst e;rfl))|(have e:kd=1:=(by omega);subst e;rfl)|(have e:kd=15:=(by assumption);subst e;first|exact(N3 (by assumption)).symm|exact(N7 (by omega)).symm)|(exfalso;omega)|(have e:kd=11:=(by assumption);subst e;exact i8 (by omega)))
def B0H:E4:=fun f=>if f=148 then some (.p A3M) else Z3 f
theorem B5b:B4 Tryz.prog B0H:=E3 C1G (B0 Tryz.func148 rfl (by decide)) A5
attribute [go_sem] B0H A3M
set_option maxRecDepth 100000
set_option maxHeartbeats 8000000
def B2O:E4:=fun f=>match B0H f with
 | some k=>some k
 | none=>A1w f
theorem F2:B4 Tryz.prog B2O:=N2 B5b A3B
attribute [go_sem] B2O T0
def A8s:Con:=⟨[.val ((.prod (.int .i64) (.prod (.int .i64) (.prod (.int .i64) (.row 2 (.int .i64)))))),.val ((.row 26 (.row 2 (.int .i64)))),.val ((.row 2 (.int .i64))),.val ((.row 2 (.int .i64)))],[⟨.int .i64,true⟩,⟨(.row 2 (.int .i64)),true⟩],fun x=>m6 x.1 x.2.1 x.2.2.1 x.2.2.2.1,fun x=>(o7 x.1.1 x.1.2.1 x.2.1 x.2.2.1 x.2.2.2.1,m0 x.1.1 x.2.2.1 x.2.2.2.1 (o7 x.1.1 x.1.2.1 x.2.1 x.2.2.1 x.2.2.2.1))⟩
theorem C5l:C9 Tryz.prog 132 A8s:=by
  refine A4 Tryz.func132 rfl ?_
  have hres:Tryz.f132.results.toList=[.tmp 8,.tmp 9]:=rfl
  rintro⟨⟨(kd:Int),(a:Int),(bb:Int),(fr:List Int)⟩,(tb:List (List Int)),(ii:List Int),(ss:List Int),_⟩ hc hL
  simp only[A8s,go_sem] at hL
  simp only[A8s,St.init,St.initG,Tryz.ntmps132,go_sem] 
  have hS:m6 (kd,a,bb,fr) tb ii ss:=hc
  obtain⟨h1,h2,h3,h4,h5,h6,h7,h8,h9,h10,h11,h12,h13⟩:=b7 hS
  have hi0:=b6 hS 0
  have hi1:=b6 hS 1
  refine oS fun _ hK1=>?_;refine oW F2 ?_;simp only[go_sem];refine hK1 _ ?_;refine oS fun _ hK2=>?_;refine oS fun _ hK3=>?_;refine oW F2 ?_;simp only[go_sem];repeat(with_reducible refine oA ?_)
  refine hK3 _ ?_;refine A1 ?_;refine oS fun _ hK4=>?_;refine oW F2 ?_;simp only[go_sem];refine hK4 _ ?_;refine oC rfl ?_ ?_
  ·
   intro c0;refine oS fun _ hK5=>?_
   refine oR F2
     [[],[0],[0,1],[],[3],[3,4],[],[6],[6,7],[6,7,8],[3,4,5,6,7,8,9],[0,1,2,3,4,5,6,7,8,9,10],[0,1,2,3,4,5,6,7,8,9,10,11]]
     [[452,453,454,455,456,457,458,459,460,461,462,463,464,465,466,467,516,532],[452,453,454,455,456,457,458,459,460,461,462,463,464,465,466,467,516,532],[452,453,454,455,456,457,458,459,460,461,462,463,464,465,466,467,516,532],[516],[516],[516],[452,453,454,455,456,457,458,459,460,461,462,463,464,465,466,467],[452,453,454,455,456,457,458,459,460,461,462,463,464,465,466,467],[452,453,454,455,456,457,458,459,460,461,462,463,464,465,466,467],[452,453,454,455,456,457,458,459,460,461,462,463,464,465,466,467],[],[],[]]
     [[],[],[],[],[],[452,453,454,455,456,457,458,459,460,461,462,463,464,465,466,467],[],[],[],[516],[452,453,454,455,456,457,458,459,460,461,462,463,464,465,466,467,516,532],[],[]] (by kernel_rfl) (by kernel_rfl) (A9 (acc:=[]) ?_)
   simp (maxSteps:=2000000)only[List.nodup_nil,List.take_length,List.length_drop,go_sem];repeat(with_reducible refine oD ?_)
   refine hK5 _ ?_;refine A0 ?_;simp only[hres,go_sem];first|exact oF|(refine⟨?_,oF⟩;first|(have e:kd=6:=(by assumption);subst e;exact⟨rfl,rfl⟩)|(have e:kd=16:=(by assumption);subst e;first|(rw[Q6 (by assumption)];exact⟨rfl,rfl⟩)|(rw[Q1 (by omega)];exact⟨rfl,rfl⟩))|(exfalso;omega)|exact⟨l7 (by omega),(G1 (by omega) (by omega) (by omega) (by omega) (by omega) (by omega) (by omega)).symm⟩)
  intro c0;refine oS fun _ hK6=>?_;refine oW F2 ?_;simp only[go_sem];refine hK6 _ ?_;refine oC rfl ?_ ?_
  ·
   intro c1;refine oS fun _ hK7=>?_
   refine oR F2
     [[],[0],[0,1],[],[3],[3,4],[0,1,2,3,4,5],[0,1,2,3,4,5,6],[0,1,2,3,4,5,6,7]]
     [[],[],[],[],[],[],[],[],[]]
     [[],[],[],[],[],[],[],[],[]] (by kernel_rfl) (by kernel_rfl) (A9 (acc:=[]) ?_)
   simp (maxSteps:=2000000)only[List.nodup_nil,k9,F5,List.take_length,List.length_drop,go_sem];repeat(with_reducible refine oD ?_)
   refine hK7 _ ?_;refine oS fun _ hK8=>?_;refine oW F2 ?_;simp (maxSteps:=2000000)only[List.nodup_nil,k9,F5,List.take_length,List.length_drop,go_sem];repeat(with_reducible refine oA ?_)
   refine hK8 _ ?_;refine A0 ?_;simp only[hres,go_sem];first|exact oF|(refine⟨?_,oF⟩;first|(have e:kd=7:=(by assumption);subst e;exact⟨rfl,rfl⟩)|(have e:kd=16:=(by assumption);subst e;first|(rw[Q6 (by assumption)];exact⟨rfl,rfl⟩)|(rw[Q1 (by omega)];exact⟨rfl,rfl⟩))|(exfalso;omega)|exact⟨l7 (by omega),(G1 (by omega) (by omega) (by omega) (by omega) (by omega) (by omega) (by omega)).symm⟩)
  intro c1;refine oS fun _ hK9=>?_;refine oW F2 ?_;simp only[go_sem];refine hK9 _ ?_;refine oC rfl ?_ ?_
  ·
   intro c2;refine oS fun _ hK10=>?_
   refine oR F2
     [[],[0],[0,1],[],[3],[3,4],[0,1,2,3,4,5],[0,1,2,3,4,5,6],[],[8],[8,9],[8,9,10],[0,1,2,3,4,5,6,7],[0,1,2,3,4,5,6,7,8,9,10,11,12]]
     [[964],[964],[964],[964],[964],[964],[964],[964],[],[],[],[],[964],[]]
     [[],[],[],[],[],[],[],[],[],[],[],[964],[],[]] (by kernel_rfl) (by kernel_rfl) (A9 (acc:=[]) ?_)
   simp (maxSteps:=2000000)only[List.nodup_nil,k9,F5,List.take_length,List.length_drop,go_sem];repeat(with_reducible refine oD ?_)
   refine hK10 _ ?_;refine A0 ?_;simp only[hres,go_sem];first|exact oF|(refine⟨?_,oF⟩;first|(have e:kd=8:=(by assumption);subst e;exact⟨rfl,rfl⟩)|(have e:kd=16:=(by assumption);subst e;first|(rw[Q6 (by assumption)];exact⟨rfl,rfl⟩)|(rw[Q1 (by omega)];exact⟨rfl,rfl⟩))|(exfalso;omega)|exact⟨l7 (by omega),(G1 (by omega) (by omega) (by omega) (by omega) (by omega) (by omega) (by omega)).symm⟩)
  intro c2;refine oS fun _ hK11=>?_;refine oW F2 ?_;simp only[go_sem];refine hK11 _ ?_;refine oC rfl ?_ ?_
  ·
   intro c3;refine oS fun _ hK12=>?_
   refine oR F2
     [[],[0],[0,1],[],[3],[3,4],[],[6],[6,7],[3,4,5,6,7,8],[3,4,5,6,7,8,9],[3,4,5,6,7,8,9,10],[0,1,2,3,4,5,6,7,8,9,10],[0,1,2,3,4,5,6,7,8,9,10,11,12]]
     [[1188],[1188],[1188],[],[],[],[],[],[],[],[],[],[1188],[]]
     [[],[],[],[],[],[],[],[],[],[],[],[1188],[],[]] (by kernel_rfl) (by kernel_rfl) (A9 (acc:=[]) ?_)
   simp (maxSteps:=2000000)only[List.nodup_nil,k9,F5,List.take_length,List.length_drop,go_sem];repeat(with_reducible refine oD ?_)
   refine hK12 _ ?_;refine A0 ?_;simp only[hres,go_sem];first|exact oF|(refine⟨?_,oF⟩;first|(have e:kd=12:=(by assumption);subst e;exact⟨rfl,rfl⟩)|(have e:kd=16:=(by assumption);subst e;first|(rw[Q6 (by assumption)];exact⟨rfl,rfl⟩)|(rw[Q1 (by omega)];exact⟨rfl,rfl⟩))|(exfalso;omega)|exact⟨l7 (by omega),(G1 (by omega) (by omega) (by omega) (by omega) (by omega) (by omega) (by omega)).symm⟩)
  intro c3;refine oS fun _ hK13=>?_;refine oW F2 ?_;simp only[go_sem];refine hK13 _ ?_;refine oC rfl ?_ ?_
  ·
   intro c4;refine oS fun _ hK14=>?_
   refine oR F2
     [[],[0],[0,1],[],[3],[3,4],[3,4,5],[3,4,5,6],[0,1,2,3,4,5,6],[0,1,2,3,4,5,6,7,8]]
     [[1348],[1348],[1348],[],[],[],[],[],[1348],[]]
     [[],[],[],[],[],[],[],[1348],[],[]] (by kernel_rfl) (by kernel_rfl) (A9 (acc:=[]) ?_)
   simp (maxSteps:=2000000)only[List.nodup_nil,k9,F5,List.take_length,List.length_drop,go_sem];repeat(with_reducible refine oD ?_)
   refine hK14 _ ?_;refine A0 ?_;simp only[hres,go_sem];first|exact oF|(refine⟨?_,oF⟩;first|(have e:kd=14:=(by assumption);subst e;exact⟨rfl,rfl⟩)|(have e:kd=16:=(by assumption);subst e;first|(rw[Q6 (by assumption)];exact⟨rfl,rfl⟩)|(rw[Q1 (by omega)];exact⟨rfl,rfl⟩))|(exfalso;omega)|exact⟨l7 (by omega),(G1 (by omega) (by omega) (by omega) (by omega) (by omega) (by omega) (by omega)).symm⟩)
  intro c4;refine oS fun _ hK15=>?_;refine oW F2 ?_;simp only[go_sem];refine hK15 _ ?_;refine oC rfl ?_ ?_
  ·
   intro c5;refine oS fun _ hK16=>?_;refine oW F2 ?_;simp only[go_sem];repeat(with_reducible refine oA ?_)
   refine hK16 _ ?_;refine oS fun _ hK17=>?_;refine oS fun _ hK18=>?_;refine oW F2 ?_;simp only[go_sem];repeat(with_reducible refine oA ?_)
   refine hK18 _ ?_;refine oC rfl ?_ ?_
   ·
    intro c6;refine oW F2 ?_;simp only[go_sem];repeat(with_reducible refine oA ?_)
    refine hK17 _ ?_;refine oS fun _ hK19=>?_;refine oW F2 ?_;simp (maxSteps:=2000000)only[List.nodup_nil,k9,F5,List.take_length,List.length_drop,go_sem];repeat(with_reducible refine oA ?_)
    refine hK19 _ ?_;refine A0 ?_;simp only[hres,go_sem];first|exact oF|(refine⟨?_,oF⟩;first|(have e:kd=16:=(by assumption);subst e;exact⟨rfl,rfl⟩)|(have e:kd=16:=(by assumption);subst e;first|(rw[Q6 (by assumption)];exact⟨rfl,rfl⟩)|(rw[Q1 (by omega)];exact⟨rfl,rfl⟩))|(exfalso;omega)|exact⟨l7 (by omega),(G1 (by omega) (by omega) (by omega) (by omega) (by omega) (by omega) (by omega)).symm⟩)
   intro c6;refine A2 ?_;simp only[go_sem];refine hK17 _ ?_;refine oS fun _ hK20=>?_;refine oW F2 ?_;simp (maxSteps:=2000000)only[List.nodup_nil,k9,F5,List.take_length,List.length_drop,go_sem];repeat(with_reducible refine oA ?_)
   refine hK20 _ ?_;refine A0 ?_;simp only[hres,go_sem];first|exact oF|(refine⟨?_,oF⟩;first|(have e:kd=16:=(by assumption);subst e;exact⟨rfl,rfl⟩)|(have e:kd=16:=(by assumption);subst e;first|(rw[Q6 (by assumption)];exact⟨rfl,rfl⟩)|(rw[Q1 (by omega)];exact⟨rfl,rfl⟩))|(exfalso;omega)|exact⟨l7 (by omega),(G1 (by omega) (by omega) (by omega) (by omega) (by omega) (by omega) (by omega)).symm⟩)
  intro c5;refine oS fun _ hK21=>?_;refine oW F2 ?_;simp only[go_sem];refine hK21 _ ?_;refine oC rfl ?_ ?_
  ·
   intro c7;refine oS fun _ hK22=>?_
   refine oR F2
     [[],[0],[0,1],[],[3],[],[5],[5,6],[3,4,5,6,7],[0,1,2,3,4,5,6,7,8],[0,1,2,3,4,5,6,7,8,9],[0,1,2,3,4,5,6,7,8,9,10]]
     [[],[],[],[],[],[],[],[],[],[],[],[]]
     [[],[],[],[],[],[],[],[],[],[],[],[]] (by kernel_rfl) (by kernel_rfl) (A9 (acc:=[]) ?_)
   simp (maxSteps:=2000000)only[List.nodup_nil,k9,F5,List.take_length,List.length_drop,go_sem];repeat(with_reducible refine oD ?_)
   refine hK22 _ ?_;refine oS fun _ hK23=>?_;refine oW F2 ?_;simp (maxSteps:=2000000)only[List.nodup_nil,k9,F5,List.take_length,List.length_drop,go_sem];repeat(with_reducible refine oA ?_)
   refine hK23 _ ?_;refine A0 ?_;simp only[hres,go_sem];first|exact oF|(refine⟨?_,oF⟩;first|(have e:kd=17:=(by assumption);subst e;exact⟨rfl,rfl⟩)|(have e:kd=16:=(by assumption);subst e;first|(rw[Q6 (by assumption)];exact⟨rfl,rfl⟩)|(rw[Q1 (by omega)];exact⟨rfl,rfl⟩))|(exfalso;omega)|exact⟨l7 (by omega),(G1 (by omega) (by omega) (by omega) (by omega) (by omega) (by omega) (by omega)).symm⟩)
  intro c7;refine A2 ?_;simp only[go_sem];refine hK2 _ ?_;refine oS fun _ hK24=>?_;have hkk:kd=1∨kd=2∨kd=3∨kd=4∨kd=5∨kd=9∨kd=10∨kd=11∨kd=13∨kd=15:=by omega
  refine oW F2 ?_;simp (maxSteps:=2000000)only[go_sem];repeat(with_reducible first|refine oA ?_|refine And.intro (by first|exact⟨⟨ss,hS⟩,hkk⟩|decide) ?_)
  refine hK24 _ ?_;refine A0 ?_;simp only[hres,go_sem];first|exact oF|(refine⟨?_,oF⟩;first|(have e:kd=0:=(by assumption);subst e;exact⟨rfl,rfl⟩)|(have e:kd=16:=(by assumption);subst e;first|(rw[Q6 (by assumption)];exact⟨rfl,rfl⟩)|(rw[Q1 (by omega)];exact⟨rfl,rfl⟩))|(exfalso;omega)|exact⟨l7 (by omega),(G1 (by omega) (by omega) (by omega) (by omega) (by omega) (by omega) (by omega)).symm⟩)
def B39:E4:=fun f=>if f=132 then some (.p A8s) else B2O f
theorem B1O:B4 Tryz.prog B39:=E3 C5l (B0 Tryz.func132 rfl (by decide)) F2
attribute [go_sem] B39 A8s
end Go.Proofs.YtgaogcnfijbahaaGreat
