/-
  Texts of this claim, joined (part 9). No condition beyond those of the theorems.
-/
import Derived.Test.YtgaogcnfijbahaaGreatQ06
import Derived.Test.YtgaogcnfijbahaaGreatQ04
namespace Go.Proofs.YtgaogcnfijbahaaGreat
open Go.RowKit
set_option linter.unusedSimpArgs false
set_option linter.unusedVariables false
set_option maxRecDepth 100000
set_option maxHeartbeats 1000000
def A2A:Con:=⟨[.val (.int .i64)],[⟨.bool,true⟩],fun _=>True,fun x=>J3 x.1 1 17⟩
theorem B6S:C9 Tryz.prog 117 A2A:=by
  refine A4 Tryz.func117 rfl ?_
  have hres:Tryz.f117.results.toList=[.tmp 2]:=rfl
  rintro⟨(x:Int),_⟩ hc hL
  simp only[A2A,go_sem] at hL
  simp only[A2A,St.init,St.initG,Tryz.ntmps117,go_sem] 
  refine oS fun _ hK1=>?_;refine oW D3 ?_;simp only[go_sem];refine hK1 _ ?_;refine oS fun _ hK2=>?_;refine oW D3 ?_;simp only[go_sem];repeat(with_reducible refine oA ?_)
  refine hK2 _ ?_;refine A0 ?_;simp only[hres,go_sem];first|exact oF|exact oFr
def A70:E4:=fun f=>if f=117 then some (.p A2A) else e9 f
theorem M9:B4 Tryz.prog A70:=E3 B6S (B0 Tryz.func117 rfl (by decide)) D3
attribute [go_sem] A70 A2A
def A6m:Con:=⟨[.val ((.row 2 (.int .i64)))],[⟨.bool,true⟩],fun _=>True,fun x=>A36 x.1⟩
theorem C2X:C9 Tryz.prog 57 A6m:=by
  refine A4 Tryz.func57 rfl ?_
  have hres:Tryz.f57.results.toList=[.tmp 2]:=rfl
  rintro⟨(xs:List Int),_⟩ hc hL
  simp only[A6m,go_sem] at hL
  simp only[A6m,St.init,St.initG,Tryz.ntmps57,go_sem] 
  refine oS fun _ hK1=>?_;refine oW M9 ?_;simp only[go_sem];refine hK1 _ ?_;refine oS fun _ hK2=>?_;refine oS fun _ hK3=>?_;refine oW M9 ?_;simp only[go_sem];refine hK3 _ ?_;refine oC rfl ?_ ?_
  ·
   intro c0;refine oS fun _ hK4=>?_;refine oW M9 ?_;simp only[go_sem];refine hK4 _ ?_;refine A0 ?_;simp only[hres,go_sem];first|exact oF|(refine⟨?_,oF⟩;rw[A36,decide_eq_false (by omega)];rfl)
  intro c0;refine A2 ?_;simp only[go_sem];refine hK2 _ ?_;refine oS fun _ hK5=>?_;refine oS fun _ hK6=>?_;refine oW M9 ?_;simp only[go_sem];refine hK6 _ ?_;refine A1 ?_;refine A7 (ι:={ k:Nat // k≤xs.length∧(xs.take k).all smp=true }) (fun k=>⟨[.c (.rd [] 2 (.int .i64) (xs)),zz,zz,.c (.sc (.int .i64 (k.1))),zz,zz,zz,zz,zz,zz,zz,zz,zz,zz,zz,zz,zz,zz,zz],[]⟩) (fun k=>xs.length - k.1) ⟨0,by simp⟩ ?_ ?_
  ·
   refine oK ?_;simp (maxSteps:=2000000)only[go_sem];all_goals(first|rfl|((repeat' refine And.intro ?_ ?_)<;>first|rfl|simp))
  rintro⟨k,hk,hp⟩ K7 hL7
  refine oS fun _ hK8=>?_;refine oS fun _ hK9=>?_;refine oW M9 ?_;simp only[go_sem];refine hK9 _ ?_;refine oC rfl ?_ ?_
  ·
   intro c1;refine A2 ?_;simp only[go_sem];refine hK8 _ ?_;refine oS fun _ hK10=>?_;refine A1 ?_;refine oS fun _ hK11=>?_;refine oW M9 ?_;simp (maxSteps:=2000000)only[go_sem];repeat(with_reducible refine oA ?_)
   refine hK11 _ ?_;refine oC rfl ?_ ?_
   ·
    intro c2;refine oS fun _ hK12=>?_;refine oW M9 ?_;simp only[go_sem];refine hK12 _ ?_;refine A0 ?_;simp only[hres,go_sem];first|exact oF|(refine⟨?_,oF⟩;rw[A36,decide_eq_true (by omega),D9,N5 (k:=k) (d:=0) (by omega) (by assumption)];rfl)
   intro c2;refine A2 ?_;simp only[go_sem];refine hK10 _ ?_;refine oW M9 ?_;simp only[go_sem];refine hL7 ⟨k+1,by omega,L6 (d:=0) (by omega) hp (by first|assumption|(clear hK1 hK2 hK3 hK5 hK6 hL7 hK8 hK9 hK10 hK11;simp_all))⟩ _ (oK ?_) ?_
   ·
    simp (maxSteps:=2000000)only[go_sem];first|rfl|exact wk (by omega)
   ·
    first|(simp only[];omega)|omega|(simp;omega)
  intro c1;refine B6 ?_;simp only[go_sem];refine hK5 _ ?_;refine oS fun _ hK13=>?_;refine oW M9 ?_;simp only[go_sem];refine hK13 _ ?_;refine A0 ?_;simp only[hres,go_sem];first|exact oF|(refine⟨?_,oF⟩;rw[A36,decide_eq_true (by omega),D9,L3 hp (by omega)];rfl)
def B29:E4:=fun f=>if f=57 then some (.p A6m) else A70 f
theorem X1:B4 Tryz.prog B29:=E3 C2X (B0 Tryz.func57 rfl (by decide)) M9
attribute [go_sem] B29 A6m
def A3z:Con:=⟨[.val ((.row 2 (.int .i64))),.val (.int .i64)],[⟨.bool,true⟩],fun _=>True,fun x=>x.1.contains x.2.1⟩
theorem B9h:C9 Tryz.prog 66 A3z:=by
  refine A4 Tryz.func66 rfl ?_
  have hres:Tryz.f66.results.toList=[.tmp 4]:=rfl
  rintro⟨(xs:List Int),(m:Int),_⟩ hc hL
  simp only[A3z,go_sem] at hL
  simp only[A3z,St.init,St.initG,Tryz.ntmps66,go_sem] 
  refine oS fun _ hK1=>?_;refine oW X1 ?_;simp only[go_sem];refine hK1 _ ?_;refine oS fun _ hK2=>?_;refine oS fun _ hK3=>?_;refine oW X1 ?_;simp only[go_sem];refine hK3 _ ?_;refine A1 ?_;refine A7 (ι:={ k:Nat // k≤xs.length∧(xs.take k).contains m=false }) (fun k=>⟨[.c (.rd [] 2 (.int .i64) (xs)),.c (.sc (.int .i64 (m))),zz,zz,zz,.c (.sc (.int .i64 (k.1))),zz,zz,zz,zz,zz,zz,zz,zz,zz,zz,zz,zz],[]⟩) (fun k=>xs.length - k.1) ⟨0,by simp,by simp⟩ ?_ ?_
  ·
   refine oK ?_;simp (maxSteps:=2000000)only[go_sem];all_goals(first|rfl|((repeat' refine And.intro ?_ ?_)<;>first|rfl|simp))
  rintro⟨k,hk,hp⟩ K4 hL4
  refine oS fun _ hK5=>?_;refine oS fun _ hK6=>?_;refine oW X1 ?_;simp only[go_sem];refine hK6 _ ?_;refine oC rfl ?_ ?_
  ·
   intro c0;refine A2 ?_;simp only[go_sem];refine hK5 _ ?_;refine oS fun _ hK7=>?_;refine A1 ?_;refine oS fun _ hK8=>?_;refine oW X1 ?_;simp (maxSteps:=2000000)only[go_sem];repeat(with_reducible refine oA ?_)
   refine hK8 _ ?_;refine oC rfl ?_ ?_
   ·
    intro c1;refine oS fun _ hK9=>?_;refine oW X1 ?_;simp only[go_sem];refine hK9 _ ?_;refine A0 ?_;simp only[hres,go_sem];first|exact oF|(refine⟨?_,oF⟩;exact(C4E (k:=k) (by omega) c1).symm)
   intro c1;refine A2 ?_;simp only[go_sem];refine hK7 _ ?_;refine oW X1 ?_;simp only[go_sem];refine hL4 ⟨k+1,by omega,C4H (by omega) hp c1⟩ _ (oK ?_) ?_
   ·
    simp (maxSteps:=2000000)only[go_sem];all_goals(first|rfl|((repeat' refine And.intro ?_ ?_)<;>first|rfl|exact wk (by omega)|simp))
   ·
    first|(simp only[];omega)|omega|(simp;omega)
  intro c0;refine B6 ?_;simp only[go_sem];refine hK2 _ ?_;refine oS fun _ hK10=>?_;refine oW X1 ?_;simp only[go_sem];refine hK10 _ ?_;refine A0 ?_;simp only[hres,go_sem];first|exact oF|(refine⟨?_,oF⟩;exact(C3x hp (by omega)).symm)
def B0D:E4:=fun f=>if f=66 then some (.p A3z) else B29 f
theorem t0:B4 Tryz.prog B0D:=E3 B9h (B0 Tryz.func66 rfl (by decide)) X1
attribute [go_sem] B0D A3z
def A3P:Con:=⟨[.val (.int .i64),.val (.int .i64)],[⟨.int .i64,true⟩],fun _=>True,fun x=>A4F x.1 x.2.1⟩
theorem C0i:C9 Tryz.prog 142 A3P:=by
  refine A4 Tryz.func142 rfl ?_
  have hres:Tryz.f142.results.toList=[.tmp 4]:=rfl
  rintro⟨(x:Int),(y:Int),_⟩ hc hL
  simp only[A3P,go_sem] at hL
  simp only[A3P,St.init,St.initG,Tryz.ntmps142,go_sem] 
  refine oS fun _ hK1=>?_;refine oW t0 ?_;simp only[go_sem];refine hK1 _ ?_;refine oS fun _ hK2=>?_;refine oS fun _ hK3=>?_;refine oW t0 ?_;simp only[go_sem];refine hK3 _ ?_;refine oC rfl ?_ ?_
  ·
   intro c0;refine oS fun _ hK4=>?_;refine oW t0 ?_;simp only[go_sem];refine hK4 _ ?_;refine A0 ?_;simp only[hres,go_sem];first|exact oF|(refine⟨?_,oF⟩;exact C7X (by omega))
  intro c0;refine A2 ?_;simp only[go_sem];refine hK2 _ ?_;refine oS fun _ hK5=>?_;refine oW t0 ?_;simp only[go_sem];refine hK5 _ ?_;refine A0 ?_;simp only[hres,go_sem];first|exact oF|(refine⟨?_,oF⟩;exact C6r (by omega))
def B0F:E4:=fun f=>if f=142 then some (.p A3P) else B0D f
theorem y4:B4 Tryz.prog B0F:=E3 C0i (B0 Tryz.func142 rfl (by decide)) t0
attribute [go_sem] B0F A3P
def A3c:Con:=⟨[.val (.int .i64),.val (.int .i64)],[⟨.int .i64,true⟩],fun _=>True,fun x=>A0f x.1 x.2.1⟩
theorem B9y:C9 Tryz.prog 116 A3c:=by
  refine A4 Tryz.func116 rfl ?_
  have hres:Tryz.f116.results.toList=[.tmp 4]:=rfl
  rintro⟨(x:Int),(y:Int),_⟩ hc hL
  simp only[A3c,go_sem] at hL
  simp only[A3c,St.init,St.initG,Tryz.ntmps116,go_sem] 
  refine oS fun _ hK1=>?_;refine oW y4 ?_;simp only[go_sem];refine hK1 _ ?_;refine oS fun _ hK2=>?_;refine oS fun _ hK3=>?_;refine oW y4 ?_;simp only[go_sem];refine hK3 _ ?_;refine oC rfl ?_ ?_
  ·
   intro c0;refine oS fun _ hK4=>?_;refine oW y4 ?_;simp only[go_sem];refine hK4 _ ?_;refine A0 ?_;simp only[hres,go_sem];first|exact oF|(refine⟨?_,oF⟩;exact C7f (by omega))
  intro c0;refine A2 ?_;simp only[go_sem];refine hK2 _ ?_;refine oS fun _ hK5=>?_;refine oW y4 ?_;simp only[go_sem];refine hK5 _ ?_;refine A0 ?_;simp only[hres,go_sem];first|exact oF|(refine⟨?_,oF⟩;exact C7g (by omega))
def B0O:E4:=fun f=>if f=116 then some (.p A3c) else B0F f
theorem A3w:B4 Tryz.prog B0O:=E3 B9y (B0 Tryz.func116 rfl (by decide)) y4
attribute [go_sem] B0O A3c
def A13:Con:=⟨[.val (.int .i64)],[⟨.int .i64,true⟩],fun x=>J3 x.1 0 17=true,fun x=>arL.getD (Int.toNat x.1) 0⟩
theorem B5G:C9 Tryz.prog 114 A13:=by
  refine A4 Tryz.func114 rfl ?_
  have hres:Tryz.f114.results.toList=[.tmp 2]:=rfl
  rintro⟨(x:Int),_⟩ hc hL
  simp only[A13,go_sem] at hL
  simp only[A13,St.init,St.initG,Tryz.ntmps114,go_sem] 
  obtain⟨hx1,hx2⟩:=C1.1 (show J3 x 0 17=true from hc)
  refine oS fun _ hK1=>?_;refine oW A3w ?_;simp only[go_sem];refine hK1 _ ?_;refine oS fun _ hK2=>?_;refine oW A3w ?_;simp (maxSteps:=2000000)only[go_sem];repeat(with_reducible refine oA ?_)
  refine hK2 _ ?_;refine A0 ?_;simp only[hres,go_sem];first|exact oF|exact oFr
def A5h:E4:=fun f=>if f=114 then some (.p A13) else B0O f
theorem A1W:B4 Tryz.prog A5h:=E3 B5G (B0 Tryz.func114 rfl (by decide)) A3w
attribute [go_sem] A5h A13
def A1l:Con:=⟨[.val (.int .i64)],[⟨.bool,true⟩],fun _=>True,fun x=>B8J.contains x.1⟩
theorem B7D:C9 Tryz.prog 143 A1l:=by
  refine A4 Tryz.func143 rfl ?_
  have hres:Tryz.f143.results.toList=[.tmp 2]:=rfl
  rintro⟨(x:Int),_⟩ hc hL
  simp only[A1l,go_sem] at hL
  simp only[A1l,St.init,St.initG,Tryz.ntmps143,go_sem] 
  refine oS fun _ hK1=>?_;refine oW A1W ?_;simp only[go_sem];refine hK1 _ ?_;refine oS fun _ hK2=>?_;refine oW A1W ?_;simp only[go_sem];repeat(with_reducible refine oA ?_)
  refine hK2 _ ?_;refine A0 ?_;simp only[hres,go_sem];first|exact oF|(refine⟨?_,oF⟩;unfold B8J;simp only[List.contains_cons,List.contains_nil,Bool.or_false])
def A7K:E4:=fun f=>if f=143 then some (.p A1l) else A5h f
theorem G7:B4 Tryz.prog A7K:=E3 B7D (B0 Tryz.func143 rfl (by decide)) A1W
attribute [go_sem] A7K A1l
def A9f:Con:=⟨[.ptr (.prod (.int .i64) (.prod (.int .i64) (.prod (.int .i64) (.row 2 (.int .i64))))),.val (.int .i64)],[⟨.bool,true⟩],fun _=>True,fun x=>A3a x.1.1 x.1.2.1 x.2.1⟩
theorem C51:C9 Tryz.prog 118 A9f:=by
  refine A4 Tryz.func118 rfl ?_
  have hres:Tryz.f118.results.toList=[.tmp 4]:=rfl
  rintro⟨⟨(kd:Int),(a:Int),(bb:Int),(fr:List Int)⟩,(tb:Int),_⟩ hc hL
  simp only[A9f,go_sem] at hL
  simp only[A9f,St.init,St.initG,Tryz.ntmps118,go_sem] 
  refine oS fun _ hK1=>?_;refine oW G7 ?_;simp only[go_sem];refine hK1 _ ?_;refine oS fun _ hK2=>?_;refine oS fun _ hK3=>?_;refine oW G7 ?_;simp only[go_sem];repeat(with_reducible refine oA ?_)
  refine hK3 _ ?_;refine A1 ?_;refine oS fun _ hK4=>?_;refine oW G7 ?_;simp only[go_sem];refine hK4 _ ?_;refine oC rfl ?_ ?_
  ·
   intro c0;refine oS fun _ hK5=>?_;refine oW G7 ?_;simp (maxSteps:=2000000)only[go_sem];repeat(with_reducible refine oA ?_)
   refine hK5 _ ?_;refine A0 ?_;simp only[hres,go_sem];first|exact oF|(refine⟨?_,oF⟩;clear hK1 hK2 hK3 hK4 hK5;simp_all [A3a,A4F,A0f])
  intro c0;refine oS fun _ hK6=>?_;refine oW G7 ?_;simp only[go_sem];refine hK6 _ ?_;refine oC rfl ?_ ?_
  ·
   intro c1;refine oS fun _ hK7=>?_;refine oW G7 ?_;simp (maxSteps:=2000000)only[go_sem];repeat(with_reducible refine oA ?_)
   refine hK7 _ ?_;refine A0 ?_;simp only[hres,go_sem];first|exact oF|(refine⟨?_,oF⟩;clear hK1 hK2 hK3 hK4 hK6 hK7;simp_all [A3a,A4F,A0f])
  intro c1;refine oS fun _ hK8=>?_;refine oW G7 ?_;simp only[go_sem];refine hK8 _ ?_;refine oC rfl ?_ ?_
  ·
   intro c2;refine oS fun _ hK9=>?_;refine oW G7 ?_;simp (maxSteps:=2000000)only[go_sem];repeat(with_reducible refine oA ?_)
   refine hK9 _ ?_;refine A0 ?_;simp only[hres,go_sem];first|exact oF|(refine⟨?_,oF⟩;clear hK1 hK2 hK3 hK4 hK6 hK8 hK9;simp_all [A3a,A4F,A0f])
  intro c2;refine oS fun _ hK10=>?_;refine oW G7 ?_;simp only[go_sem];refine hK10 _ ?_;refine oC rfl ?_ ?_
  ·
   intro c3;refine oS fun _ hK11=>?_;refine oW G7 ?_;simp (maxSteps:=2000000)only[go_sem];repeat(with_reducible refine oA ?_)
   refine hK11 _ ?_;refine A0 ?_;simp only[hres,go_sem];first|exact oF|(refine⟨?_,oF⟩;clear hK1 hK2 hK3 hK4 hK6 hK8 hK10 hK11;simp_all [A3a,A4F,A0f])
  intro c3;refine oS fun _ hK12=>?_;refine oW G7 ?_;simp only[go_sem];refine hK12 _ ?_;refine oC rfl ?_ ?_
  ·
   intro c4;refine oS fun _ hK13=>?_;have hw:IntKind.i64.wrap (A4F (A0f tb 0) 4 - 1)=A4F (A0f tb 0) 4 - 1:=F3 (by unfold A4F A0f;omega)
   refine oR G7
     [[],[0],[0,1],[0,1,2],[],[4],[4,5],[4,5,6],[0,1,2,3,4,5,6,7],[0,1,2,3,4,5,6,7,8]]
     [[],[],[],[],[],[],[],[],[],[]]
     [[],[],[],[],[],[],[],[],[],[]] (by kernel_rfl) (by kernel_rfl) (A9 (acc:=[]) ?_)
   simp (maxSteps:=2000000)only[hw,go_sem];repeat(with_reducible refine oD ?_)
   refine hK13 _ ?_;refine A0 ?_;simp only[hres,go_sem];first|exact oF|(refine⟨?_,oF⟩;clear hK1 hK2 hK3 hK4 hK6 hK8 hK10 hK12 hK13;simp_all [A3a,A4F,A0f])
  intro c4;refine A2 ?_;simp only[go_sem];refine hK2 _ ?_;refine oS fun _ hK14=>?_;refine oS fun _ hK15=>?_;refine oW G7 ?_;simp (maxSteps:=2000000)only[go_sem];repeat(with_reducible refine oA ?_)
  refine hK15 _ ?_;refine oC rfl ?_ ?_
  ·
   intro c5;refine oS fun _ hK16=>?_;refine oW G7 ?_;simp (maxSteps:=2000000)only[go_sem];repeat(with_reducible refine oA ?_)
   refine hK16 _ ?_;refine A0 ?_;simp only[hres,go_sem];first|exact oF|(refine⟨?_,oF⟩;clear hK1 hK2 hK3 hK4 hK6 hK8 hK10 hK12 hK14 hK15 hK16;simp_all [A3a,A4F,A0f])
  intro c5;refine A2 ?_;simp only[go_sem];refine hK14 _ ?_;refine oS fun _ hK17=>?_;refine oW G7 ?_;simp (maxSteps:=2000000)only[go_sem];repeat(with_reducible refine oA ?_)
  refine hK17 _ ?_;refine A0 ?_;simp only[hres,go_sem];first|exact oF|(refine⟨?_,oF⟩;clear hK1 hK2 hK3 hK4 hK6 hK8 hK10 hK12 hK14 hK15 hK17;simp_all [A3a,A4F,A0f])
def A56:E4:=fun f=>if f=118 then some (.p A9f) else A7K f
theorem G9:B4 Tryz.prog A56:=E3 C51 (B0 Tryz.func118 rfl (by decide)) G7
attribute [go_sem] A56 A9f
end Go.Proofs.YtgaogcnfijbahaaGreat
