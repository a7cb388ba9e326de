/-
  Texts of this claim, joined (part 30). No condition beyond those of the theorems.
-/
import Derived.Test.YtenjbehedcegdaaGreatQ05
import Derived.Test.YtenjbehedcegdaaGreatQ04
namespace Go.Proofs.YtenjbehedcegdaaGreat
open Go.RowKit
set_option linter.unusedSimpArgs false
set_option linter.unusedVariables false
set_option maxRecDepth 100000
set_option maxHeartbeats 1000000
def A0K:Con:=⟨[.val (.int .i64)],[⟨.bool,true⟩],fun _=>True,fun x=>I6 x.1 1 17⟩
theorem B1D:C8 Tryz.prog 98 A0K:=by
  refine A4 Tryz.func98 rfl ?_
  have hres:Tryz.f98.results.toList=[.tmp 2]:=rfl
  rintro⟨(x:Int),_⟩ hc hL
  simp only[A0K,go_sem] at hL
  simp only[A0K,St.init,St.initG,Tryz.ntmps98,go_sem] 
  refine oS fun _ hK1=>?_;refine oW C4 ?_;simp only[go_sem];refine hK1 _ ?_;refine oS fun _ hK2=>?_;refine oW C4 ?_;simp only[go_sem];repeat(with_reducible refine oA ?_)
  refine hK2 _ ?_;refine A0 ?_;simp only[hres,go_sem];first|exact oF|exact oFr
def A48:G4:=fun f=>if f=98 then some (.p A0K) else m7 f
theorem L3:B5 Tryz.prog A48:=F8 B1D (B0 Tryz.func98 rfl (by decide)) C4
attribute [go_sem] A48 A0K
def A3V:Con:=⟨[.val ((.row 2 (.int .i64)))],[⟨.bool,true⟩],fun _=>True,fun x=>d9 x.1⟩
theorem B5A:C8 Tryz.prog 54 A3V:=by
  refine A4 Tryz.func54 rfl ?_
  have hres:Tryz.f54.results.toList=[.tmp 2]:=rfl
  rintro⟨(xs:List Int),_⟩ hc hL
  simp only[A3V,go_sem] at hL
  simp only[A3V,St.init,St.initG,Tryz.ntmps54,go_sem] 
  refine oS fun _ hK1=>?_;refine oW L3 ?_;simp only[go_sem];refine hK1 _ ?_;refine oS fun _ hK2=>?_;refine oS fun _ hK3=>?_;refine oW L3 ?_;simp only[go_sem];refine hK3 _ ?_;refine oC rfl ?_ ?_
  ·
   intro c0;refine oS fun _ hK4=>?_;refine oW L3 ?_;simp only[go_sem];refine hK4 _ ?_;refine A0 ?_;simp only[hres,go_sem];first|exact oF|(refine⟨?_,oF⟩;rw[d9,decide_eq_false (by omega)];rfl)
  intro c0;refine A2 ?_;simp only[go_sem];refine hK2 _ ?_;refine oS fun _ hK5=>?_;refine oS fun _ hK6=>?_;refine oW L3 ?_;simp only[go_sem];refine hK6 _ ?_;refine A3 ?_;refine A8 (ι:={ k:Nat // k≤xs.length∧(xs.take k).all smp=true }) (fun k=>⟨[.c (.rd [] 2 (.int .i64) (xs)),zz,zz,.c (.sc (.int .i64 (k.1))),zz,zz,zz,zz,zz,zz,zz,zz,zz,zz,zz,zz,zz,zz,zz],[]⟩) (fun k=>xs.length - k.1) ⟨0,by simp⟩ ?_ ?_
  ·
   refine oK ?_;simp (maxSteps:=2000000)only[go_sem];all_goals(first|rfl|((repeat' refine And.intro ?_ ?_)<;>first|rfl|simp))
  rintro⟨k,hk,hp⟩ K7 hL7
  refine oS fun _ hK8=>?_;refine oS fun _ hK9=>?_;refine oW L3 ?_;simp only[go_sem];refine hK9 _ ?_;refine oC rfl ?_ ?_
  ·
   intro c1;refine A2 ?_;simp only[go_sem];refine hK8 _ ?_;refine oS fun _ hK10=>?_;refine A3 ?_;refine oS fun _ hK11=>?_;refine oW L3 ?_;simp (maxSteps:=2000000)only[go_sem];repeat(with_reducible refine oA ?_)
   refine hK11 _ ?_;refine oC rfl ?_ ?_
   ·
    intro c2;refine oS fun _ hK12=>?_;refine oW L3 ?_;simp only[go_sem];refine hK12 _ ?_;refine A0 ?_;simp only[hres,go_sem];first|exact oF|(refine⟨?_,oF⟩;rw[d9,decide_eq_true (by omega),I9,M2 (k:=k) (d:=0) (by omega) (by assumption)];rfl)
   intro c2;refine A2 ?_;simp only[go_sem];refine hK10 _ ?_;refine oW L3 ?_;simp only[go_sem];refine hL7 ⟨k+1,by omega,J6 (d:=0) (by omega) hp (by first|assumption|(clear hK1 hK2 hK3 hK5 hK6 hL7 hK8 hK9 hK10 hK11;simp_all))⟩ _ (oK ?_) ?_
   ·
    simp (maxSteps:=2000000)only[go_sem];first|rfl|exact wk (by omega)
   ·
    first|(simp only[];omega)|omega|(simp;omega)
  intro c1;refine B6 ?_;simp only[go_sem];refine hK5 _ ?_;refine oS fun _ hK13=>?_;refine oW L3 ?_;simp only[go_sem];refine hK13 _ ?_;refine A0 ?_;simp only[hres,go_sem];first|exact oF|(refine⟨?_,oF⟩;rw[d9,decide_eq_true (by omega),I9,I7 hp (by omega)];rfl)
def A9G:G4:=fun f=>if f=54 then some (.p A3V) else A48 f
theorem S6:B5 Tryz.prog A9G:=F8 B5A (B0 Tryz.func54 rfl (by decide)) L3
attribute [go_sem] A9G A3V
def A1O:Con:=⟨[.val ((.row 2 (.int .i64))),.val (.int .i64)],[⟨.bool,true⟩],fun _=>True,fun x=>x.1.contains x.2.1⟩
theorem B3Q:C8 Tryz.prog 80 A1O:=by
  refine A4 Tryz.func80 rfl ?_
  have hres:Tryz.f80.results.toList=[.tmp 4]:=rfl
  rintro⟨(xs:List Int),(m:Int),_⟩ hc hL
  simp only[A1O,go_sem] at hL
  simp only[A1O,St.init,St.initG,Tryz.ntmps80,go_sem] 
  refine oS fun _ hK1=>?_;refine oW S6 ?_;simp only[go_sem];refine hK1 _ ?_;refine oS fun _ hK2=>?_;refine oS fun _ hK3=>?_;refine oW S6 ?_;simp only[go_sem];refine hK3 _ ?_;refine A3 ?_;refine A8 (ι:={ k:Nat // k≤xs.length∧(xs.take k).contains m=false }) (fun k=>⟨[.c (.rd [] 2 (.int .i64) (xs)),.c (.sc (.int .i64 (m))),zz,zz,zz,.c (.sc (.int .i64 (k.1))),zz,zz,zz,zz,zz,zz,zz,zz,zz,zz,zz,zz],[]⟩) (fun k=>xs.length - k.1) ⟨0,by simp,by simp⟩ ?_ ?_
  ·
   refine oK ?_;simp (maxSteps:=2000000)only[go_sem];all_goals(first|rfl|((repeat' refine And.intro ?_ ?_)<;>first|rfl|simp))
  rintro⟨k,hk,hp⟩ K4 hL4
  refine oS fun _ hK5=>?_;refine oS fun _ hK6=>?_;refine oW S6 ?_;simp only[go_sem];refine hK6 _ ?_;refine oC rfl ?_ ?_
  ·
   intro c0;refine A2 ?_;simp only[go_sem];refine hK5 _ ?_;refine oS fun _ hK7=>?_;refine A3 ?_;refine oS fun _ hK8=>?_;refine oW S6 ?_;simp (maxSteps:=2000000)only[go_sem];repeat(with_reducible refine oA ?_)
   refine hK8 _ ?_;refine oC rfl ?_ ?_
   ·
    intro c1;refine oS fun _ hK9=>?_;refine oW S6 ?_;simp only[go_sem];refine hK9 _ ?_;refine A0 ?_;simp only[hres,go_sem];first|exact oF|(refine⟨?_,oF⟩;exact(B6n (k:=k) (by omega) c1).symm)
   intro c1;refine A2 ?_;simp only[go_sem];refine hK7 _ ?_;refine oW S6 ?_;simp only[go_sem];refine hL4 ⟨k+1,by omega,B6V (by omega) hp c1⟩ _ (oK ?_) ?_
   ·
    simp (maxSteps:=2000000)only[go_sem];all_goals(first|rfl|((repeat' refine And.intro ?_ ?_)<;>first|rfl|exact wk (by omega)|simp))
   ·
    first|(simp only[];omega)|omega|(simp;omega)
  intro c0;refine B6 ?_;simp only[go_sem];refine hK2 _ ?_;refine oS fun _ hK10=>?_;refine oW S6 ?_;simp only[go_sem];refine hK10 _ ?_;refine A0 ?_;simp only[hres,go_sem];first|exact oF|(refine⟨?_,oF⟩;exact(B5t hp (by omega)).symm)
def A5q:G4:=fun f=>if f=80 then some (.p A1O) else A9G f
theorem j1:B5 Tryz.prog A5q:=F8 B3Q (B0 Tryz.func80 rfl (by decide)) S6
attribute [go_sem] A5q A1O
def A24:Con:=⟨[.val (.int .i64),.val (.int .i64)],[⟨.int .i64,true⟩],fun _=>True,fun x=>Z0 x.1 x.2.1⟩
theorem B3s:C8 Tryz.prog 42 A24:=by
  refine A4 Tryz.func42 rfl ?_
  have hres:Tryz.f42.results.toList=[.tmp 4]:=rfl
  rintro⟨(x:Int),(y:Int),_⟩ hc hL
  simp only[A24,go_sem] at hL
  simp only[A24,St.init,St.initG,Tryz.ntmps42,go_sem] 
  refine oS fun _ hK1=>?_;refine oW j1 ?_;simp only[go_sem];refine hK1 _ ?_;refine oS fun _ hK2=>?_;refine oS fun _ hK3=>?_;refine oW j1 ?_;simp only[go_sem];refine hK3 _ ?_;refine oC rfl ?_ ?_
  ·
   intro c0;refine oS fun _ hK4=>?_;refine oW j1 ?_;simp only[go_sem];refine hK4 _ ?_;refine A0 ?_;simp only[hres,go_sem];first|exact oF|(refine⟨?_,oF⟩;exact B91 (by omega))
  intro c0;refine A2 ?_;simp only[go_sem];refine hK2 _ ?_;refine oS fun _ hK5=>?_;refine oW j1 ?_;simp only[go_sem];refine hK5 _ ?_;refine A0 ?_;simp only[hres,go_sem];first|exact oF|(refine⟨?_,oF⟩;exact B93 (by omega))
def A6E:G4:=fun f=>if f=42 then some (.p A24) else A5q f
theorem j4:B5 Tryz.prog A6E:=F8 B3s (B0 Tryz.func42 rfl (by decide)) j1
attribute [go_sem] A6E A24
def A1T:Con:=⟨[.val (.int .i64),.val (.int .i64)],[⟨.int .i64,true⟩],fun _=>True,fun x=>r9 x.1 x.2.1⟩
theorem B4C:C8 Tryz.prog 73 A1T:=by
  refine A4 Tryz.func73 rfl ?_
  have hres:Tryz.f73.results.toList=[.tmp 4]:=rfl
  rintro⟨(x:Int),(y:Int),_⟩ hc hL
  simp only[A1T,go_sem] at hL
  simp only[A1T,St.init,St.initG,Tryz.ntmps73,go_sem] 
  refine oS fun _ hK1=>?_;refine oW j4 ?_;simp only[go_sem];refine hK1 _ ?_;refine oS fun _ hK2=>?_;refine oS fun _ hK3=>?_;refine oW j4 ?_;simp only[go_sem];refine hK3 _ ?_;refine oC rfl ?_ ?_
  ·
   intro c0;refine oS fun _ hK4=>?_;refine oW j4 ?_;simp only[go_sem];refine hK4 _ ?_;refine A0 ?_;simp only[hres,go_sem];first|exact oF|(refine⟨?_,oF⟩;exact B8c (by omega))
  intro c0;refine A2 ?_;simp only[go_sem];refine hK2 _ ?_;refine oS fun _ hK5=>?_;refine oW j4 ?_;simp only[go_sem];refine hK5 _ ?_;refine A0 ?_;simp only[hres,go_sem];first|exact oF|(refine⟨?_,oF⟩;exact B98 (by omega))
def A6H:G4:=fun f=>if f=73 then some (.p A1T) else A6E f
theorem A1F:B5 Tryz.prog A6H:=F8 B4C (B0 Tryz.func73 rfl (by decide)) j4
attribute [go_sem] A6H A1T
def x3:Con:=⟨[.val (.int .i64)],[⟨.int .i64,true⟩],fun x=>I6 x.1 0 17=true,fun x=>arL.getD (Int.toNat x.1) 0⟩
theorem A9q:C8 Tryz.prog 71 x3:=by
  refine A4 Tryz.func71 rfl ?_
  have hres:Tryz.f71.results.toList=[.tmp 2]:=rfl
  rintro⟨(x:Int),_⟩ hc hL
  simp only[x3,go_sem] at hL
  simp only[x3,St.init,St.initG,Tryz.ntmps71,go_sem] 
  obtain⟨hx1,hx2⟩:=B4.1 (show I6 x 0 17=true from hc)
  refine oS fun _ hK1=>?_;refine oW A1F ?_;simp only[go_sem];refine hK1 _ ?_;refine oS fun _ hK2=>?_;refine oW A1F ?_;simp (maxSteps:=2000000)only[go_sem];repeat(with_reducible refine oA ?_)
  refine hK2 _ ?_;refine A0 ?_;simp only[hres,go_sem];first|exact oF|exact oFr
def A2v:G4:=fun f=>if f=71 then some (.p x3) else A6H f
theorem A08:B5 Tryz.prog A2v:=F8 A9q (B0 Tryz.func71 rfl (by decide)) A1F
attribute [go_sem] A2v x3
def A0Q:Con:=⟨[.val (.int .i64)],[⟨.bool,true⟩],fun _=>True,fun x=>B3K.contains x.1⟩
theorem B1S:C8 Tryz.prog 106 A0Q:=by
  refine A4 Tryz.func106 rfl ?_
  have hres:Tryz.f106.results.toList=[.tmp 2]:=rfl
  rintro⟨(x:Int),_⟩ hc hL
  simp only[A0Q,go_sem] at hL
  simp only[A0Q,St.init,St.initG,Tryz.ntmps106,go_sem] 
  refine oS fun _ hK1=>?_;refine oW A08 ?_;simp only[go_sem];refine hK1 _ ?_;refine oS fun _ hK2=>?_;refine oW A08 ?_;simp only[go_sem];repeat(with_reducible refine oA ?_)
  refine hK2 _ ?_;refine A0 ?_;simp only[hres,go_sem];first|exact oF|(refine⟨?_,oF⟩;unfold B3K;simp only[List.contains_cons,List.contains_nil,Bool.or_false])
def A4Y:G4:=fun f=>if f=106 then some (.p A0Q) else A2v f
theorem G5:B5 Tryz.prog A4Y:=F8 B1S (B0 Tryz.func106 rfl (by decide)) A08
attribute [go_sem] A4Y A0Q
def A5t:Con:=⟨[.ptr (.prod (.int .i64) (.prod (.int .i64) (.prod (.int .i64) (.row 2 (.int .i64))))),.val (.int .i64)],[⟨.bool,true⟩],fun _=>True,fun x=>A2V x.1.1 x.1.2.1 x.2.1⟩
theorem B74:C8 Tryz.prog 99 A5t:=by
  refine A4 Tryz.func99 rfl ?_
  have hres:Tryz.f99.results.toList=[.tmp 4]:=rfl
  rintro⟨⟨(kd:Int),(a:Int),(bb:Int),(fr:List Int)⟩,(tb:Int),_⟩ hc hL
  simp only[A5t,go_sem] at hL
  simp only[A5t,St.init,St.initG,Tryz.ntmps99,go_sem] 
  refine oS fun _ hK1=>?_;refine oW G5 ?_;simp only[go_sem];refine hK1 _ ?_;refine oS fun _ hK2=>?_;refine oS fun _ hK3=>?_;refine oW G5 ?_;simp only[go_sem];repeat(with_reducible refine oA ?_)
  refine hK3 _ ?_;refine A3 ?_;refine oS fun _ hK4=>?_;refine oW G5 ?_;simp only[go_sem];refine hK4 _ ?_;refine oC rfl ?_ ?_
  ·
   intro c0;refine oS fun _ hK5=>?_;refine oW G5 ?_;simp (maxSteps:=2000000)only[go_sem];repeat(with_reducible refine oA ?_)
   refine hK5 _ ?_;refine A0 ?_;simp only[hres,go_sem];first|exact oF|(refine⟨?_,oF⟩;clear hK1 hK2 hK3 hK4 hK5;simp_all [A2V,Z0,r9])
  intro c0;refine oS fun _ hK6=>?_;refine oW G5 ?_;simp only[go_sem];refine hK6 _ ?_;refine oC rfl ?_ ?_
  ·
   intro c1;refine oS fun _ hK7=>?_;refine oW G5 ?_;simp (maxSteps:=2000000)only[go_sem];repeat(with_reducible refine oA ?_)
   refine hK7 _ ?_;refine A0 ?_;simp only[hres,go_sem];first|exact oF|(refine⟨?_,oF⟩;clear hK1 hK2 hK3 hK4 hK6 hK7;simp_all [A2V,Z0,r9])
  intro c1;refine oS fun _ hK8=>?_;refine oW G5 ?_;simp only[go_sem];refine hK8 _ ?_;refine oC rfl ?_ ?_
  ·
   intro c2;refine oS fun _ hK9=>?_;refine oW G5 ?_;simp (maxSteps:=2000000)only[go_sem];repeat(with_reducible refine oA ?_)
   refine hK9 _ ?_;refine A0 ?_;simp only[hres,go_sem];first|exact oF|(refine⟨?_,oF⟩;clear hK1 hK2 hK3 hK4 hK6 hK8 hK9;simp_all [A2V,Z0,r9])
  intro c2;refine oS fun _ hK10=>?_;refine oW G5 ?_;simp only[go_sem];refine hK10 _ ?_;refine oC rfl ?_ ?_
  ·
   intro c3;refine oS fun _ hK11=>?_;refine oW G5 ?_;simp (maxSteps:=2000000)only[go_sem];repeat(with_reducible refine oA ?_)
   refine hK11 _ ?_;refine A0 ?_;simp only[hres,go_sem];first|exact oF|(refine⟨?_,oF⟩;clear hK1 hK2 hK3 hK4 hK6 hK8 hK10 hK11;simp_all [A2V,Z0,r9])
  intro c3;refine oS fun _ hK12=>?_;refine oW G5 ?_;simp only[go_sem];refine hK12 _ ?_;refine oC rfl ?_ ?_
  ·
   intro c4;refine oS fun _ hK13=>?_;have hw:IntKind.i64.wrap (Z0 (r9 tb 0) 4 - 1)=Z0 (r9 tb 0) 4 - 1:=H4 (by unfold Z0 r9;omega)
   refine oR G5
     [[],[0],[0,1],[0,1,2],[],[4],[4,5],[4,5,6],[0,1,2,3,4,5,6,7],[0,1,2,3,4,5,6,7,8]]
     [[],[],[],[],[],[],[],[],[],[]]
     [[],[],[],[],[],[],[],[],[],[]] (by kernel_rfl) (by kernel_rfl) (A7 (acc:=[]) ?_)
   simp (maxSteps:=2000000)only[hw,go_sem];repeat(with_reducible refine oD ?_)
   refine hK13 _ ?_;refine A0 ?_;simp only[hres,go_sem];first|exact oF|(refine⟨?_,oF⟩;clear hK1 hK2 hK3 hK4 hK6 hK8 hK10 hK12 hK13;simp_all [A2V,Z0,r9])
  intro c4;refine A2 ?_;simp only[go_sem];refine hK2 _ ?_;refine oS fun _ hK14=>?_;refine oS fun _ hK15=>?_;refine oW G5 ?_;simp (maxSteps:=2000000)only[go_sem];repeat(with_reducible refine oA ?_)
  refine hK15 _ ?_;refine oC rfl ?_ ?_
  ·
   intro c5;refine oS fun _ hK16=>?_;refine oW G5 ?_;simp (maxSteps:=2000000)only[go_sem];repeat(with_reducible refine oA ?_)
   refine hK16 _ ?_;refine A0 ?_;simp only[hres,go_sem];first|exact oF|(refine⟨?_,oF⟩;clear hK1 hK2 hK3 hK4 hK6 hK8 hK10 hK12 hK14 hK15 hK16;simp_all [A2V,Z0,r9])
  intro c5;refine A2 ?_;simp only[go_sem];refine hK14 _ ?_;refine oS fun _ hK17=>?_;refine oW G5 ?_;simp (maxSteps:=2000000)only[go_sem];repeat(with_reducible refine oA ?_)
  refine hK17 _ ?_;refine A0 ?_;simp only[hres,go_sem];first|exact oF|(refine⟨?_,oF⟩;clear hK1 hK2 hK3 hK4 hK6 hK8 hK10 hK12 hK14 hK15 hK17;simp_all [A2V,Z0,r9])
def A2u:G4:=fun f=>if f=99 then some (.p A5t) else A4Y f
theorem G8:B5 Tryz.prog A2u:=F8 B74 (B0 Tryz.func99 rfl (by decide)) G5
attribute [go_sem] A2u A5t
end Go.Proofs.YtenjbehedcegdaaGreat
