/-
  Texts of this claim, joined (part 50). No condition beyond those of the theorems.
-/
import Derived.Test.YtflobmmbhaofbaaGreatQ47
import Derived.Test.YtflobmmbhaofbaaGreatQ49
import Derived.Test.YtflobmmbhaofbaaGreatQ20
namespace Go.Proofs.YtflobmmbhaofbaaGreat
open Go.RowKit
set_option linter.unusedSimpArgs false
set_option linter.unusedVariables false
set_option maxRecDepth 100000
set_option maxHeartbeats 1000000
def A8M:F8:=fun f=>match y9 f with
 | some k=>some k
 | none=>A1s f
theorem B35:B8 Tryz.prog A8M:=T3 A2I Z0
attribute [go_sem] A8M T0
def A7n:F8:=fun f=>match A8M f with
 | some k=>some k
 | none=>A3s f
theorem B3x:B8 Tryz.prog A7n:=T3 B35 A9Z
attribute [go_sem] A7n T0
def A8k:F8:=fun f=>match A7n f with
 | some k=>some k
 | none=>w7 f
theorem A2u:B8 Tryz.prog A8k:=T3 B3x J8
attribute [go_sem] A8k T0
def A1V:Con:=⟨[.val ((.row 5 (.int .u8)))],[⟨.bool,true⟩],fun _=>True,fun x=>decide (1048576 < (x.1.length:Int))⟩
theorem B60:D4 Tryz.prog 4 A1V:=by
  refine A7 Tryz.func4 rfl ?_
  have hres:Tryz.f4.results.toList=[.tmp 2]:=rfl
  rintro⟨(cd:List Int),_⟩ hc hL
  simp only[A1V,go_sem] at hL
  simp only[A1V,St.init,St.initG,Tryz.ntmps4,go_sem] 
  refine oS fun _ hK1=>?_;refine oW A2u ?_;simp only[go_sem];refine hK1 _ ?_;refine oS fun _ hK2=>?_;refine oW A2u ?_;simp only[go_sem];refine hK2 _ ?_;refine A2 ?_;simp only[hres,go_sem];first|exact oF|exact oFr
def A6c:F8:=fun f=>if f=4 then some (.p A1V) else A8k f
theorem M9:B8 Tryz.prog A6c:=F9 B60 (B6 Tryz.func4 rfl (by decide)) A2u
attribute [go_sem] A6c A1V
def A1S:Con:=⟨[.val ((.row 2 (.int .i64))),.val ((.row 2 (.int .i64)))],[⟨.bool,true⟩],fun _=>True,fun x=>eqD (x.1:List Int) (x.2.1:List Int)⟩
theorem B4T:D4 Tryz.prog 26 A1S:=by
  refine A7 Tryz.func26 rfl ?_
  have hres:Tryz.f26.results.toList=[.tmp 4]:=rfl
  rintro⟨(xs:List Int),(ys:List Int),_⟩ hc hL
  simp only[A1S,go_sem] at hL
  obtain⟨lxs,lys⟩:=hL;simp only[A1S,St.init,St.initG,Tryz.ntmps26,go_sem] 
  refine oS fun _ hK1=>?_;refine oW M9 ?_;simp only[go_sem];refine hK1 _ ?_;refine oS fun _ hK2=>?_;refine oS fun _ hK3=>?_;refine oW M9 ?_;simp (maxSteps:=2000000)only[go_sem];refine hK3 _ ?_;refine oC rfl ?_ ?_
  ·
   intro c0;refine oS fun _ hK4=>?_;refine oW M9 ?_;simp only[go_sem];refine hK4 _ ?_;refine A2 ?_;simp only[hres,go_sem];first|exact oF|(refine⟨?_,oF⟩;exact(B0u (by omega)).symm)
  intro c0;refine A3 ?_;simp only[go_sem];refine hK2 _ ?_;refine oS fun _ hK5=>?_;refine oS fun _ hK6=>?_;refine oW M9 ?_;simp only[go_sem];refine hK6 _ ?_;refine A5 ?_;refine B4 (ι:={ k:Nat // k≤xs.length∧xs.take k=ys.take k }) (fun k=>⟨[.c (.rd [] 2 (.int .i64) (xs)),.c (.rd [] 2 (.int .i64) (ys)),zz,zz,zz,.c (.sc (.int .i64 (k.1))),zz,zz,zz,zz,zz,zz,zz,zz,zz,zz,zz,zz,zz,zz,zz,zz,zz,zz,zz,zz],[]⟩) (fun k=>xs.length - k.1) ⟨0,by simp,by simp⟩ ?_ ?_
  ·
   refine oK ?_;simp (maxSteps:=2000000)only[go_sem];all_goals(first|rfl|((repeat' refine And.intro ?_ ?_)<;>first|rfl|simp))
  rintro⟨k,hk,hp⟩ K7 hL7
  refine oS fun _ hK8=>?_;refine oS fun _ hK9=>?_;refine oW M9 ?_;simp only[go_sem];refine hK9 _ ?_;refine oC rfl ?_ ?_
  ·
   intro c1;refine A3 ?_;simp only[go_sem];refine hK8 _ ?_;refine oS fun _ hK10=>?_;refine A5 ?_;refine oS fun _ hK11=>?_
   refine oR M9
     [[],[],[0,1],[0,1,2],[],[],[4,5],[4,5,6],[0,1,2,3,4,5,6,7]]
     [[],[],[],[],[],[],[],[],[]]
     [[],[],[],[],[],[],[],[],[]] (by kernel_rfl) (by kernel_rfl) (B7 (acc:=[]) ?_)
   simp (maxSteps:=2000000)only[go_sem];repeat(with_reducible refine oD ?_)
   refine hK11 _ ?_;refine oC rfl ?_ ?_
   ·
    intro c2;refine oS fun _ hK12=>?_;refine oW M9 ?_;simp only[go_sem];refine hK12 _ ?_;refine A2 ?_;simp only[hres,go_sem];first|exact oF|(refine⟨?_,oF⟩;exact(A7J (0:Int) (m:=k) (by first|assumption|exact decide_eq_false (by assumption))).symm)
   intro c2;refine A3 ?_;simp only[go_sem];refine hK10 _ ?_;refine oW M9 ?_;simp only[go_sem];refine hL7 ⟨k+1,by omega,A7Q (d:=(0:Int)) (by omega) (by omega) hp (by first|assumption|exact decide_eq_true (by assumption))⟩ _ (oK ?_) ?_
   ·
    simp (maxSteps:=2000000)only[go_sem];all_goals(first|rfl|((repeat' refine And.intro ?_ ?_)<;>first|rfl|exact wk (by omega)|simp))
   ·
    first|(simp only[];omega)|omega|(simp;omega)
  intro c1;refine C2 ?_;simp only[go_sem];refine hK5 _ ?_;refine oS fun _ hK13=>?_;refine oW M9 ?_;simp only[go_sem];refine hK13 _ ?_;refine A2 ?_;simp only[hres,go_sem];first|exact oF|(refine⟨?_,oF⟩;exact(A7O (m:=k) (by omega) (by omega) hp).symm)
def A5h:F8:=fun f=>if f=26 then some (.p A1S) else A6c f
theorem N0:B8 Tryz.prog A5h:=F9 B4T (B6 Tryz.func26 rfl (by decide)) M9
attribute [go_sem] A5h A1S
def A0b:Con:=⟨[.val ((.row 26 (.row 2 (.int .i64)))),.val ((.row 26 (.row 2 (.int .i64))))],[⟨.bool,true⟩],fun _=>True,fun x=>eqD (x.1:List (List Int)) (x.2.1:List (List Int))⟩
theorem B4P:D4 Tryz.prog 10 A0b:=by
  refine A7 Tryz.func10 rfl ?_
  have hres:Tryz.f10.results.toList=[.tmp 4]:=rfl
  rintro⟨(xs:List (List Int)),(ys:List (List Int)),_⟩ hc hL
  simp only[A0b,go_sem] at hL
  obtain⟨lxs,lys⟩:=hL;simp only[A0b,St.init,St.initG,Tryz.ntmps10,go_sem] 
  refine oS fun _ hK1=>?_;refine oW N0 ?_;simp only[go_sem];refine hK1 _ ?_;refine oS fun _ hK2=>?_;refine oS fun _ hK3=>?_;refine oW N0 ?_;simp (maxSteps:=2000000)only[go_sem];refine hK3 _ ?_;refine oC rfl ?_ ?_
  ·
   intro c0;refine oS fun _ hK4=>?_;refine oW N0 ?_;simp only[go_sem];refine hK4 _ ?_;refine A2 ?_;simp only[hres,go_sem];first|exact oF|(refine⟨?_,oF⟩;exact(B0u (by omega)).symm)
  intro c0;refine A3 ?_;simp only[go_sem];refine hK2 _ ?_;refine oS fun _ hK5=>?_;refine oS fun _ hK6=>?_;refine oW N0 ?_;simp only[go_sem];refine hK6 _ ?_;refine A5 ?_;refine B4 (ι:={ k:Nat // k≤xs.length∧xs.take k=ys.take k }) (fun k=>⟨[.c (.rd [] 26 (.row 2 (.int .i64)) (xs)),.c (.rd [] 26 (.row 2 (.int .i64)) (ys)),zz,zz,zz,.c (.sc (.int .i64 (k.1))),zz,zz,zz,zz,zz,zz,zz,zz,zz,zz,zz,zz,zz,zz,zz,zz,zz,zz,zz,zz,zz],[]⟩) (fun k=>xs.length - k.1) ⟨0,by simp,by simp⟩ ?_ ?_
  ·
   refine oK ?_;simp (maxSteps:=2000000)only[go_sem];all_goals(first|rfl|((repeat' refine And.intro ?_ ?_)<;>first|rfl|simp))
  rintro⟨k,hk,hp⟩ K7 hL7
  refine oS fun _ hK8=>?_;refine oS fun _ hK9=>?_;refine oW N0 ?_;simp only[go_sem];refine hK9 _ ?_;refine oC rfl ?_ ?_
  ·
   intro c1;refine A3 ?_;simp only[go_sem];refine hK8 _ ?_;refine oS fun _ hK10=>?_;refine A5 ?_;refine oS fun _ hK11=>?_
   refine oR N0
     [[],[],[0,1],[0,1,2],[],[],[4,5],[4,5,6],[0,1,2,3,4,5,6,7],[0,1,2,3,4,5,6,7,8]]
     [[],[],[],[],[],[],[],[],[],[]]
     [[],[],[],[],[],[],[],[],[],[]] (by kernel_rfl) (by kernel_rfl) (B7 (acc:=[]) ?_)
   simp (maxSteps:=2000000)only[go_sem];repeat(with_reducible refine oD ?_)
   refine hK11 _ ?_;refine oC rfl ?_ ?_
   ·
    intro c2;refine oS fun _ hK12=>?_;refine oW N0 ?_;simp only[go_sem];refine hK12 _ ?_;refine A2 ?_;simp only[hres,go_sem];first|exact oF|(refine⟨?_,oF⟩;exact(A7J ([]:List Int) (m:=k) (by first|assumption|exact decide_eq_false (by assumption))).symm)
   intro c2;refine A3 ?_;simp only[go_sem];refine hK10 _ ?_;refine oW N0 ?_;simp only[go_sem];refine hL7 ⟨k+1,by omega,A7Q (d:=([]:List Int)) (by omega) (by omega) hp (by first|assumption|exact decide_eq_true (by assumption))⟩ _ (oK ?_) ?_
   ·
    simp (maxSteps:=2000000)only[go_sem];all_goals(first|rfl|((repeat' refine And.intro ?_ ?_)<;>first|rfl|exact wk (by omega)|simp))
   ·
    first|(simp only[];omega)|omega|(simp;omega)
  intro c1;refine C2 ?_;simp only[go_sem];refine hK5 _ ?_;refine oS fun _ hK13=>?_;refine oW N0 ?_;simp only[go_sem];refine hK13 _ ?_;refine A2 ?_;simp only[hres,go_sem];first|exact oF|(refine⟨?_,oF⟩;exact(A7O (m:=k) (by omega) (by omega) hp).symm)
def A4V:F8:=fun f=>if f=10 then some (.p A0b) else A5h f
theorem R6:B8 Tryz.prog A4V:=F9 B4P (B6 Tryz.func10 rfl (by decide)) N0
attribute [go_sem] A4V A0b
def A4a:Con:=⟨[.val ((.row 5 (.int .u8))),.val (.int .i64),.val (.int .i64)],[⟨.int .i64,true⟩],fun x=>O7 x.2.1 0 1000000=true,fun x=>atD x.1 x.2.1 x.2.2.1⟩
theorem B9w:D4 Tryz.prog 8 A4a:=by
  refine A7 Tryz.func8 rfl ?_
  have hres:Tryz.f8.results.toList=[.tmp 6]:=rfl
  rintro⟨(cd:List Int),(x:Int),(nn:Int),_⟩ hc hL
  simp only[A4a,go_sem] at hL
  simp only[A4a,St.init,St.initG,Tryz.ntmps8,go_sem] 
  obtain⟨hx1,hx2⟩:=E0.1 (show O7 x 0 1000000=true from hc)
  have hw1:IntKind.i64.wrap (x * 37)=x * 37:=G9 (by omega)
  have hw2:IntKind.i64.wrap (x * 37+11)=x * 37+11:=G9 (by omega)
  refine oS fun _ hK1=>?_;refine oW R6 ?_;simp only[go_sem];repeat(with_reducible first|refine oA ?_|refine And.intro (by first|omega) ?_)
  refine hK1 _ ?_;refine oS fun _ hK2=>?_;refine oS fun _ hK3=>?_;refine oW R6 ?_;simp only[go_sem];repeat(with_reducible first|refine oA ?_|refine And.intro (by first|omega) ?_)
  refine hK3 _ ?_;refine oC rfl ?_ ?_
  ·
   intro c0;have k0:=decide_eq_true c0
   refine oS fun _ hK4=>?_;refine oW R6 ?_;simp only[go_sem];repeat(with_reducible first|refine oA ?_|refine And.intro (by first|omega) ?_)
   refine hK4 _ ?_;refine A2 ?_;simp only[hres,go_sem];first|exact oF|(refine⟨?_,oF⟩;simp only[atD,k0])
  intro c0;have k0:=decide_eq_false (show ¬nn≤1 by omega)
  refine A3 ?_;simp only[go_sem];refine hK2 _ ?_;refine oS fun _ hK5=>?_;refine oS fun _ hK6=>?_;refine oW R6 ?_;simp only[go_sem];repeat(with_reducible first|refine oA ?_|refine And.intro (by first|omega) ?_)
  refine hK6 _ ?_;refine oC rfl ?_ ?_
  ·
   intro c1;have k1:=decide_eq_true c1
   refine oS fun _ hK7=>?_;refine oW R6 ?_;simp (maxSteps:=2000000)only[go_sem];repeat(with_reducible first|refine oA ?_|refine And.intro (by first|omega) ?_)
   refine hK7 _ ?_;refine A2 ?_;simp only[hres,go_sem];first|exact oF|(refine⟨?_,oF⟩;simp only[atD,k0,k1])
  intro c1;have k1:=decide_eq_false (show ¬x < (cd.length:Int) by omega)
  refine A3 ?_;simp only[go_sem];refine hK5 _ ?_;refine oS fun _ hK8=>?_;refine oW R6 ?_;simp (maxSteps:=2000000)only[hw1,hw2,go_sem];repeat(with_reducible first|refine oA ?_|refine And.intro (by first|omega) ?_)
  refine hK8 _ ?_;refine A2 ?_;simp only[hres,go_sem];first|exact oF|(refine⟨?_,oF⟩;simp only[atD,k0,k1])
def B0Z:F8:=fun f=>if f=8 then some (.p A4a) else A4V f
theorem B5S:B8 Tryz.prog B0Z:=F9 B9w (B6 Tryz.func8 rfl (by decide)) R6
attribute [go_sem] B0Z A4a
def A4M:F8:=B0Z
theorem A9c:B8 Tryz.prog A4M:=B5S
attribute [go_sem] A4M
end Go.Proofs.YtflobmmbhaofbaaGreat
