/-
  Texts of this claim, joined (part 15). No condition beyond those of the theorems.
-/
import Derived.Test.YtenjbehedcegdaaGreatQ14
import Derived.Test.YtenjbehedcegdaaGreatQ08
import Derived.Test.YtenjbehedcegdaaGreatQ04
namespace Go.Proofs.YtenjbehedcegdaaGreat
open Go.RowKit
set_option linter.unusedSimpArgs false
set_option linter.unusedVariables false
set_option maxRecDepth 100000
set_option maxHeartbeats 8000000
def A8U:G4:=fun f=>match A5h f with
 | some k=>some k
 | none=>A0A f
theorem F0:B5 Tryz.prog A8U:=W6 B01 A1m
attribute [go_sem] A8U T0
def A5n:Con:=⟨[.val ((.prod (.int .i64) (.prod (.int .i64) (.prod (.int .i64) (.row 2 (.int .i64)))))),.val ((.row 26 (.row 2 (.int .i64)))),.val ((.row 2 (.int .i64))),.val ((.row 2 (.int .i64)))],[⟨.int .i64,true⟩,⟨(.row 2 (.int .i64)),true⟩],fun x=>X2 x.1 x.2.1 x.2.2.1 x.2.2.2.1,fun x=>(x4 x.1.1 x.1.2.1 x.2.1 x.2.2.1 x.2.2.2.1,A0D x.1.1 x.2.2.1 x.2.2.2.1 (x4 x.1.1 x.1.2.1 x.2.1 x.2.2.1 x.2.2.2.1))⟩
theorem B8I:C8 Tryz.prog 64 A5n:=by
  refine A4 Tryz.func64 rfl ?_
  have hres:Tryz.f64.results.toList=[.tmp 8,.tmp 9]:=rfl
  rintro⟨⟨(kd:Int),(a:Int),(bb:Int),(fr:List Int)⟩,(tb:List (List Int)),(ii:List Int),(ss:List Int),_⟩ hc hL
  simp only[A5n,go_sem] at hL
  simp only[A5n,St.init,St.initG,Tryz.ntmps64,go_sem] 
  have hS:X2 (kd,a,bb,fr) tb ii ss:=hc
  obtain⟨h1,h2,h3,h4,h5,h6,h7,h8,h9,h10,h11,h12,h13⟩:=z0 hS
  have hi0:=V4 hS 0
  have hi1:=V4 hS 1
  refine oS fun _ hK1=>?_;refine oW F0 ?_;simp only[go_sem];refine hK1 _ ?_;refine oS fun _ hK2=>?_;refine oS fun _ hK3=>?_;refine oW F0 ?_;simp only[go_sem];repeat(with_reducible refine oA ?_)
  refine hK3 _ ?_;refine A3 ?_;refine oS fun _ hK4=>?_;refine oW F0 ?_;simp only[go_sem];refine hK4 _ ?_;refine oC rfl ?_ ?_
  ·
   intro c0;refine oS fun _ hK5=>?_
   refine oR F0
     [[],[0],[0,1],[],[3],[3,4],[],[6],[6,7],[6,7,8],[3,4,5,6,7,8,9],[0,1,2,3,4,5,6,7,8,9,10],[0,1,2,3,4,5,6,7,8,9,10,11]]
     [[452,453,454,455,456,457,458,459,460,461,462,463,464,465,466,467,516,532],[452,453,454,455,456,457,458,459,460,461,462,463,464,465,466,467,516,532],[452,453,454,455,456,457,458,459,460,461,462,463,464,465,466,467,516,532],[516],[516],[516],[452,453,454,455,456,457,458,459,460,461,462,463,464,465,466,467],[452,453,454,455,456,457,458,459,460,461,462,463,464,465,466,467],[452,453,454,455,456,457,458,459,460,461,462,463,464,465,466,467],[452,453,454,455,456,457,458,459,460,461,462,463,464,465,466,467],[],[],[]]
     [[],[],[],[],[],[452,453,454,455,456,457,458,459,460,461,462,463,464,465,466,467],[],[],[],[516],[452,453,454,455,456,457,458,459,460,461,462,463,464,465,466,467,516,532],[],[]] (by kernel_rfl) (by kernel_rfl) (A7 (acc:=[]) ?_)
   simp (maxSteps:=2000000)only[List.nodup_nil,List.take_length,List.length_drop,go_sem];repeat(with_reducible refine oD ?_)
   refine hK5 _ ?_;refine A0 ?_;simp only[hres,go_sem];first|exact oF|(refine⟨?_,oF⟩;first|(have e:kd=6:=(by assumption);subst e;exact⟨rfl,rfl⟩)|(have e:kd=16:=(by assumption);subst e;first|(rw[N4 (by assumption)];exact⟨rfl,rfl⟩)|(rw[N1 (by omega)];exact⟨rfl,rfl⟩))|(exfalso;omega)|exact⟨X5 (by omega),(F7 (by omega) (by omega) (by omega) (by omega) (by omega) (by omega) (by omega)).symm⟩)
  intro c0;refine oS fun _ hK6=>?_;refine oW F0 ?_;simp only[go_sem];refine hK6 _ ?_;refine oC rfl ?_ ?_
  ·
   intro c1;refine oS fun _ hK7=>?_
   refine oR F0
     [[],[0],[0,1],[],[3],[3,4],[0,1,2,3,4,5],[0,1,2,3,4,5,6],[0,1,2,3,4,5,6,7]]
     [[],[],[],[],[],[],[],[],[]]
     [[],[],[],[],[],[],[],[],[]] (by kernel_rfl) (by kernel_rfl) (A7 (acc:=[]) ?_)
   simp (maxSteps:=2000000)only[List.nodup_nil,X9,F4,List.take_length,List.length_drop,go_sem];repeat(with_reducible refine oD ?_)
   refine hK7 _ ?_;refine oS fun _ hK8=>?_;refine oW F0 ?_;simp (maxSteps:=2000000)only[List.nodup_nil,X9,F4,List.take_length,List.length_drop,go_sem];repeat(with_reducible refine oA ?_)
   refine hK8 _ ?_;refine A0 ?_;simp only[hres,go_sem];first|exact oF|(refine⟨?_,oF⟩;first|(have e:kd=7:=(by assumption);subst e;exact⟨rfl,rfl⟩)|(have e:kd=16:=(by assumption);subst e;first|(rw[N4 (by assumption)];exact⟨rfl,rfl⟩)|(rw[N1 (by omega)];exact⟨rfl,rfl⟩))|(exfalso;omega)|exact⟨X5 (by omega),(F7 (by omega) (by omega) (by omega) (by omega) (by omega) (by omega) (by omega)).symm⟩)
  intro c1;refine oS fun _ hK9=>?_;refine oW F0 ?_;simp only[go_sem];refine hK9 _ ?_;refine oC rfl ?_ ?_
  ·
   intro c2;refine oS fun _ hK10=>?_
   refine oR F0
     [[],[0],[0,1],[],[3],[3,4],[0,1,2,3,4,5],[0,1,2,3,4,5,6],[],[8],[8,9],[8,9,10],[0,1,2,3,4,5,6,7],[0,1,2,3,4,5,6,7,8,9,10,11,12]]
     [[964],[964],[964],[964],[964],[964],[964],[964],[],[],[],[],[964],[]]
     [[],[],[],[],[],[],[],[],[],[],[],[964],[],[]] (by kernel_rfl) (by kernel_rfl) (A7 (acc:=[]) ?_)
   simp (maxSteps:=2000000)only[List.nodup_nil,X9,F4,List.take_length,List.length_drop,go_sem];repeat(with_reducible refine oD ?_)
   refine hK10 _ ?_;refine A0 ?_;simp only[hres,go_sem];first|exact oF|(refine⟨?_,oF⟩;first|(have e:kd=8:=(by assumption);subst e;exact⟨rfl,rfl⟩)|(have e:kd=16:=(by assumption);subst e;first|(rw[N4 (by assumption)];exact⟨rfl,rfl⟩)|(rw[N1 (by omega)];exact⟨rfl,rfl⟩))|(exfalso;omega)|exact⟨X5 (by omega),(F7 (by omega) (by omega) (by omega) (by omega) (by omega) (by omega) (by omega)).symm⟩)
  intro c2;refine oS fun _ hK11=>?_;refine oW F0 ?_;simp only[go_sem];refine hK11 _ ?_;refine oC rfl ?_ ?_
  ·
   intro c3;refine oS fun _ hK12=>?_
   refine oR F0
     [[],[0],[0,1],[],[3],[3,4],[],[6],[6,7],[3,4,5,6,7,8],[3,4,5,6,7,8,9],[3,4,5,6,7,8,9,10],[0,1,2,3,4,5,6,7,8,9,10],[0,1,2,3,4,5,6,7,8,9,10,11,12]]
     [[1188],[1188],[1188],[],[],[],[],[],[],[],[],[],[1188],[]]
     [[],[],[],[],[],[],[],[],[],[],[],[1188],[],[]] (by kernel_rfl) (by kernel_rfl) (A7 (acc:=[]) ?_)
   simp (maxSteps:=2000000)only[List.nodup_nil,X9,F4,List.take_length,List.length_drop,go_sem];repeat(with_reducible refine oD ?_)
   refine hK12 _ ?_;refine A0 ?_;simp only[hres,go_sem];first|exact oF|(refine⟨?_,oF⟩;first|(have e:kd=12:=(by assumption);subst e;exact⟨rfl,rfl⟩)|(have e:kd=16:=(by assumption);subst e;first|(rw[N4 (by assumption)];exact⟨rfl,rfl⟩)|(rw[N1 (by omega)];exact⟨rfl,rfl⟩))|(exfalso;omega)|exact⟨X5 (by omega),(F7 (by omega) (by omega) (by omega) (by omega) (by omega) (by omega) (by omega)).symm⟩)
  intro c3;refine oS fun _ hK13=>?_;refine oW F0 ?_;simp only[go_sem];refine hK13 _ ?_;refine oC rfl ?_ ?_
  ·
   intro c4;refine oS fun _ hK14=>?_
   refine oR F0
     [[],[0],[0,1],[],[3],[3,4],[3,4,5],[3,4,5,6],[0,1,2,3,4,5,6],[0,1,2,3,4,5,6,7,8]]
     [[1348],[1348],[1348],[],[],[],[],[],[1348],[]]
     [[],[],[],[],[],[],[],[1348],[],[]] (by kernel_rfl) (by kernel_rfl) (A7 (acc:=[]) ?_)
   simp (maxSteps:=2000000)only[List.nodup_nil,X9,F4,List.take_length,List.length_drop,go_sem];repeat(with_reducible refine oD ?_)
   refine hK14 _ ?_;refine A0 ?_;simp only[hres,go_sem];first|exact oF|(refine⟨?_,oF⟩;first|(have e:kd=14:=(by assumption);subst e;exact⟨rfl,rfl⟩)|(have e:kd=16:=(by assumption);subst e;first|(rw[N4 (by assumption)];exact⟨rfl,rfl⟩)|(rw[N1 (by omega)];exact⟨rfl,rfl⟩))|(exfalso;omega)|exact⟨X5 (by omega),(F7 (by omega) (by omega) (by omega) (by omega) (by omega) (by omega) (by omega)).symm⟩)
  intro c4;refine oS fun _ hK15=>?_;refine oW F0 ?_;simp only[go_sem];refine hK15 _ ?_;refine oC rfl ?_ ?_
  ·
   intro c5;refine oS fun _ hK16=>?_;refine oW F0 ?_;simp only[go_sem];repeat(with_reducible refine oA ?_)
   refine hK16 _ ?_;refine oS fun _ hK17=>?_;refine oS fun _ hK18=>?_;refine oW F0 ?_;simp only[go_sem];repeat(with_reducible refine oA ?_)
   refine hK18 _ ?_;refine oC rfl ?_ ?_
   ·
    intro c6;refine oW F0 ?_;simp only[go_sem];repeat(with_reducible refine oA ?_)
    refine hK17 _ ?_;refine oS fun _ hK19=>?_;refine oW F0 ?_;simp (maxSteps:=2000000)only[List.nodup_nil,X9,F4,List.take_length,List.length_drop,go_sem];repeat(with_reducible refine oA ?_)
    refine hK19 _ ?_;refine A0 ?_;simp only[hres,go_sem];first|exact oF|(refine⟨?_,oF⟩;first|(have e:kd=16:=(by assumption);subst e;exact⟨rfl,rfl⟩)|(have e:kd=16:=(by assumption);subst e;first|(rw[N4 (by assumption)];exact⟨rfl,rfl⟩)|(rw[N1 (by omega)];exact⟨rfl,rfl⟩))|(exfalso;omega)|exact⟨X5 (by omega),(F7 (by omega) (by omega) (by omega) (by omega) (by omega) (by omega) (by omega)).symm⟩)
   intro c6;refine A2 ?_;simp only[go_sem];refine hK17 _ ?_;refine oS fun _ hK20=>?_;refine oW F0 ?_;simp (maxSteps:=2000000)only[List.nodup_nil,X9,F4,List.take_length,List.length_drop,go_sem];repeat(with_reducible refine oA ?_)
   refine hK20 _ ?_;refine A0 ?_;simp only[hres,go_sem];first|exact oF|(refine⟨?_,oF⟩;first|(have e:kd=16:=(by assumption);subst e;exact⟨rfl,rfl⟩)|(have e:kd=16:=(by assumption);subst e;first|(rw[N4 (by assumption)];exact⟨rfl,rfl⟩)|(rw[N1 (by omega)];exact⟨rfl,rfl⟩))|(exfalso;omega)|exact⟨X5 (by omega),(F7 (by omega) (by omega) (by omega) (by omega) (by omega) (by omega) (by omega)).symm⟩)
  intro c5;refine oS fun _ hK21=>?_;refine oW F0 ?_;simp only[go_sem];refine hK21 _ ?_;refine oC rfl ?_ ?_
  ·
   intro c7;refine oS fun _ hK22=>?_
   refine oR F0
     [[],[0],[0,1],[],[3],[],[5],[5,6],[3,4,5,6,7],[0,1,2,3,4,5,6,7,8],[0,1,2,3,4,5,6,7,8,9],[0,1,2,3,4,5,6,7,8,9,10]]
     [[],[],[],[],[],[],[],[],[],[],[],[]]
     [[],[],[],[],[],[],[],[],[],[],[],[]] (by kernel_rfl) (by kernel_rfl) (A7 (acc:=[]) ?_)
   simp (maxSteps:=2000000)only[List.nodup_nil,X9,F4,List.take_length,List.length_drop,go_sem];repeat(with_reducible refine oD ?_)
   refine hK22 _ ?_;refine oS fun _ hK23=>?_;refine oW F0 ?_;simp (maxSteps:=2000000)only[List.nodup_nil,X9,F4,List.take_length,List.length_drop,go_sem];repeat(with_reducible refine oA ?_)
   refine hK23 _ ?_;refine A0 ?_;simp only[hres,go_sem];first|exact oF|(refine⟨?_,oF⟩;first|(have e:kd=17:=(by assumption);subst e;exact⟨rfl,rfl⟩)|(have e:kd=16:=(by assumption);subst e;first|(rw[N4 (by assumption)];exact⟨rfl,rfl⟩)|(rw[N1 (by omega)];exact⟨rfl,rfl⟩))|(exfalso;omega)|exact⟨X5 (by omega),(F7 (by omega) (by omega) (by omega) (by omega) (by omega) (by omega) (by omega)).symm⟩)
  intro c7;refine A2 ?_;simp only[go_sem];refine hK2 _ ?_;refine oS fun _ hK24=>?_;have hkk:kd=1∨kd=2∨kd=3∨kd=4∨kd=5∨kd=9∨kd=10∨kd=11∨kd=13∨kd=15:=by omega
  refine oW F0 ?_;simp (maxSteps:=2000000)only[go_sem];repeat(with_reducible first|refine oA ?_|refine And.intro (by first|exact⟨⟨ss,hS⟩,hkk⟩|decide) ?_)
  refine hK24 _ ?_;refine A0 ?_;simp only[hres,go_sem];first|exact oF|(refine⟨?_,oF⟩;first|(have e:kd=0:=(by assumption);subst e;exact⟨rfl,rfl⟩)|(have e:kd=16:=(by assumption);subst e;first|(rw[N4 (by assumption)];exact⟨rfl,rfl⟩)|(rw[N1 (by omega)];exact⟨rfl,rfl⟩))|(exfalso;omega)|exact⟨X5 (by omega),(F7 (by omega) (by omega) (by omega) (by omega) (by omega) (by omega) (by omega)).symm⟩)
def B1y:G4:=fun f=>if f=64 then some (.p A5n) else A8U f
theorem B4K:B5 Tryz.prog B1y:=F8 B8I (B0 Tryz.func64 rfl (by decide)) F0
attribute [go_sem] B1y A5n
end Go.Proofs.YtenjbehedcegdaaGreat
