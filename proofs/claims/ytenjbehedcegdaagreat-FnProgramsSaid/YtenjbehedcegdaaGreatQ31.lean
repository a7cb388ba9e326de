/-
  Texts of this claim, joined (part 31). No condition beyond those of the theorems.
-/
import Derived.Test.YtenjbehedcegdaaGreatQ09
import Derived.Test.YtenjbehedcegdaaGreatQ05
import Derived.Test.YtenjbehedcegdaaGreatQ30
import Derived.Test.YtenjbehedcegdaaGreatQ11
namespace Go.Proofs.YtenjbehedcegdaaGreat
open Go.RowKit
set_option linter.unusedSimpArgs false
set_option linter.unusedVariables false
set_option maxRecDepth 100000
set_option maxHeartbeats 1000000
def A6f:G4:=fun f=>match s8 f with
 | some k=>some k
 | none=>m7 f
theorem B0q:B5 Tryz.prog A6f:=W6 A9 C4
attribute [go_sem] A6f T0
def A6v:G4:=fun f=>match A6f f with
 | some k=>some k
 | none=>A2u f
theorem j3:B5 Tryz.prog A6v:=W6 B0q G8
attribute [go_sem] A6v T0
def A1j:Con:=⟨[.val ((.row 2 (.int .i64))),.val (.int .i64)],[⟨.int .i64,true⟩],fun x=>I6 x.2.1 0 9223372036854775807=true,fun x=>x.1.getD (Int.toNat x.2.1) 0⟩
theorem B4h:C8 Tryz.prog 30 A1j:=by
  refine A4 Tryz.func30 rfl ?_
  have hres:Tryz.f30.results.toList=[.tmp 4]:=rfl
  rintro⟨(xs:List Int),(x:Int),_⟩ hc hL
  simp only[A1j,go_sem] at hL
  obtain lxs:=hL
  simp only[A1j,St.init,St.initG,Tryz.ntmps30,go_sem] 
  have hx:0≤x:=(B4.1 (show I6 x _ _=true from hc)).1
  refine oS fun _ hK1=>?_;refine oW j3 ?_;simp only[go_sem];refine hK1 _ ?_;refine oS fun _ hK2=>?_;refine oS fun _ hK3=>?_;refine oW j3 ?_;simp only[go_sem];repeat(with_reducible refine oA ?_)
  refine hK3 _ ?_;refine oC rfl ?_ ?_
  ·
   intro c0;refine oS fun _ hK4=>?_;refine oW j3 ?_;simp only[go_sem];refine hK4 _ ?_;refine A0 ?_;simp only[hres,go_sem];first|exact oF|(refine⟨?_,oF⟩;exact(A5P (by omega)).symm)
  intro c0;refine A2 ?_;simp only[go_sem];refine hK2 _ ?_;refine oS fun _ hK5=>?_;refine oW j3 ?_;simp (maxSteps:=2000000)only[go_sem];repeat(with_reducible refine oA ?_)
  refine hK5 _ ?_;refine A0 ?_;simp only[hres,go_sem];first|exact oF|exact oFr
def A5c:G4:=fun f=>if f=30 then some (.p A1j) else A6v f
theorem i6:B5 Tryz.prog A5c:=F8 B4h (B0 Tryz.func30 rfl (by decide)) j3
attribute [go_sem] A5c A1j
def A3e:Con:=⟨[.val ((.row 2 (.int .i64))),.val (.int .i64)],[⟨.int .i64,true⟩],fun x=>I6 x.2.1 0 9223372036854775807=true,fun x=>x.1.getD (Int.toNat x.2.1) 0⟩
theorem B5h:C8 Tryz.prog 85 A3e:=by
  refine A4 Tryz.func85 rfl ?_
  have hres:Tryz.f85.results.toList=[.tmp 4]:=rfl
  rintro⟨(xs:List Int),(x:Int),_⟩ hc hL
  simp only[A3e,go_sem] at hL
  obtain lxs:=hL
  simp only[A3e,St.init,St.initG,Tryz.ntmps85,go_sem] 
  have hx:0≤x:=(B4.1 (show I6 x _ _=true from hc)).1
  have hw:IntKind.i64.wrap ((xs.length:Int) - 1)=xs.length - 1:=H4 (by omega)
  refine oS fun _ hK1=>?_;refine oW i6 ?_;simp only[go_sem];refine hK1 _ ?_;refine oS fun _ hK2=>?_;refine oS fun _ hK3=>?_;refine oW i6 ?_;simp (maxSteps:=2000000)only[hw,go_sem];repeat(with_reducible refine oA ?_)
  refine hK3 _ ?_;refine oC rfl ?_ ?_
  ·
   intro c0;have hq:xs.length≤x.toNat:=by have:=B4o.1 c0;omega
   refine oS fun _ hK4=>?_;refine oW i6 ?_;simp only[go_sem];refine hK4 _ ?_;refine A0 ?_;simp only[hres,go_sem];first|exact oF|(refine⟨?_,oF⟩;exact(A5P hq).symm)
  intro c0;obtain⟨hq1,hq2⟩:=B4.1 c0
  refine A2 ?_;simp only[go_sem];refine hK2 _ ?_;refine oS fun _ hK5=>?_;refine oW i6 ?_;simp (maxSteps:=2000000)only[go_sem];repeat(with_reducible refine oA ?_)
  refine hK5 _ ?_;refine A0 ?_;simp only[hres,go_sem];first|exact oF|exact oFr
def A85:G4:=fun f=>if f=85 then some (.p A3e) else A5c f
theorem A38:B5 Tryz.prog A85:=F8 B5h (B0 Tryz.func85 rfl (by decide)) i6
attribute [go_sem] A85 A3e
def w5:Con:=⟨[.val ((.row 2 (.int .i64)))],[⟨.bool,true⟩],fun _=>True,fun x=>d9 x.1⟩
theorem B0c:C8 Tryz.prog 62 w5:=by
  refine A4 Tryz.func62 rfl ?_
  have hres:Tryz.f62.results.toList=[.tmp 2]:=rfl
  rintro⟨(xs:List Int),_⟩ hc hL
  simp only[w5,go_sem] at hL
  simp only[w5,St.init,St.initG,Tryz.ntmps62,go_sem] 
  refine oS fun _ hK1=>?_;refine oW A38 ?_;simp only[go_sem];refine hK1 _ ?_;refine oS fun _ hK2=>?_;refine oW A38 ?_;simp (maxSteps:=2000000)only[go_sem];repeat' (with_reducible first|refine oA ?_|refine oT (fun g1=>?_) (fun g1=>?_)|refine oE (fun g1=>?_) (fun g1=>?_))
  all_goals
   refine hK2 _ ?_;refine A0 ?_;simp only[hres,go_sem];first|exact oF|(refine⟨?_,oF⟩;first|exact(B9N (by omega)).symm|(unfold d9;rw[decide_eq_false (by omega)];rfl))
def A2f:G4:=fun f=>if f=62 then some (.p w5) else A85 f
theorem L0:B5 Tryz.prog A2f:=F8 B0c (B0 Tryz.func62 rfl (by decide)) A38
attribute [go_sem] A2f w5
def X8:Con:=⟨[.val ((.row 26 (.row 2 (.int .i64))))],[⟨.bool,true⟩],fun _=>True,fun x=>x.1.all d9⟩
theorem A7H:C8 Tryz.prog 25 X8:=by
  refine A4 Tryz.func25 rfl ?_
  have hres:Tryz.f25.results.toList=[.tmp 2]:=rfl
  rintro⟨(xs:List (List Int)),_⟩ hc hL
  simp only[X8,go_sem] at hL
  obtain⟨lxs,lxs2⟩:=hL;simp only[X8,St.init,St.initG,Tryz.ntmps25,go_sem] 
  refine oS fun _ hK1=>?_;refine oW L0 ?_;simp only[go_sem];refine hK1 _ ?_;refine oS fun _ hK2=>?_;refine oS fun _ hK3=>?_;refine oW L0 ?_;simp only[go_sem];refine hK3 _ ?_;refine A3 ?_;refine A8 (ι:={ k:Nat // k≤xs.length∧(xs.take k).all d9=true }) (fun k=>⟨[zz,zz,zz,zz,zz,.c (.rd [] 26 (.row 2 (.int .i64)) (xs)),.c (.sc (.int .i64 (xs.length))),.c (.sc (.int .i64 (k.1))),zz,zz,zz,zz,zz,zz,zz],[]⟩) (fun k=>xs.length - k.1) ⟨0,by simp⟩ ?_ ?_
  ·
   refine oK ?_;simp (maxSteps:=2000000)only[go_sem];all_goals(first|rfl|((repeat' refine And.intro ?_ ?_)<;>first|rfl|simp))
  rintro⟨k,hk,hp⟩ K4 hL4
  refine oS fun _ hK5=>?_;refine oW L0 ?_;simp only[go_sem];refine hK5 _ ?_;refine oS fun _ hK6=>?_;refine oC rfl ?_ ?_
  ·
   intro c0;refine A2 ?_;simp only[go_sem];refine hK6 _ ?_;refine oS fun _ hK7=>?_;refine A3 ?_;refine oS fun _ hK8=>?_;refine oW L0 ?_;simp only[go_sem];repeat(with_reducible refine oA ?_)
   refine hK8 _ ?_;refine oS fun _ hK9=>?_;refine oW L0 ?_;simp only[go_sem];repeat(with_reducible refine oA ?_)
   refine hK9 _ ?_;refine oC rfl ?_ ?_
   ·
    intro c1;refine oS fun _ hK10=>?_;refine oW L0 ?_;simp only[go_sem];refine hK10 _ ?_;refine A0 ?_;simp only[hres,go_sem];first|exact oF|(refine⟨?_,oF⟩;exact(M2 (k:=k) (d:=[]) (by omega) (by first|assumption|(clear hp;clear hK1 hK2 hK3 hL4 hK5 hK6 hK7 hK8 hK9 hK10;simp_all))).symm)
   intro c1;refine A2 ?_;simp only[go_sem];refine hK7 _ ?_;refine oW L0 ?_;simp only[go_sem];refine hL4 ⟨k+1,by omega,J6 (d:=[]) (by omega) hp (by first|assumption|(clear hK1 hK2 hK3 hL4 hK5 hK6 hK7 hK8 hK9;simp_all))⟩ _ (oK ?_) ?_
   ·
    simp (maxSteps:=2000000)only[go_sem];first|rfl|exact wk (by omega)
   ·
    first|(simp only[];omega)|omega|(simp;omega)
  intro c0;refine B6 ?_;simp only[go_sem];refine hK2 _ ?_;refine oS fun _ hK11=>?_;refine oW L0 ?_;simp only[go_sem];refine hK11 _ ?_;refine A0 ?_;simp only[hres,go_sem];first|exact oF|(refine⟨?_,oF⟩;exact(I7 hp (by omega)).symm)
def A0f:G4:=fun f=>if f=25 then some (.p X8) else A2f f
theorem j9:B5 Tryz.prog A0f:=F8 A7H (B0 Tryz.func25 rfl (by decide)) L0
attribute [go_sem] A0f X8
def A0S:Con:=⟨[.val (.int .i64)],[⟨.bool,true⟩],fun _=>True,fun x=>I6 x.1 0 4000⟩
theorem B1u:C8 Tryz.prog 26 A0S:=by
  refine A4 Tryz.func26 rfl ?_
  have hres:Tryz.f26.results.toList=[.tmp 2]:=rfl
  rintro⟨(x:Int),_⟩ hc hL
  simp only[A0S,go_sem] at hL
  simp only[A0S,St.init,St.initG,Tryz.ntmps26,go_sem] 
  refine oS fun _ hK1=>?_;refine oW j9 ?_;simp only[go_sem];refine hK1 _ ?_;refine oS fun _ hK2=>?_;refine oW j9 ?_;simp only[go_sem];repeat(with_reducible refine oA ?_)
  refine hK2 _ ?_;refine A0 ?_;simp only[hres,go_sem];first|exact oF|exact oFr
def A3y:G4:=fun f=>if f=26 then some (.p A0S) else A0f f
theorem O6:B5 Tryz.prog A3y:=F8 B1u (B0 Tryz.func26 rfl (by decide)) j9
attribute [go_sem] A3y A0S
def Y4:Con:=⟨[.ptr (.prod (.int .i64) (.prod (.row 26 (.row 2 (.int .i64))) (.prod (.row 67 (.prod (.int .i64) (.prod (.int .i64) (.prod (.int .i64) (.row 2 (.int .i64)))))) (.row 2 (.int .i64))))),.val ((.row 26 (.row 2 (.int .i64))))],[⟨.bool,true⟩],fun _=>True,fun x=>A1G x.1 x.2.1⟩
theorem A72:C8 Tryz.prog 20 Y4:=by
  refine A4 Tryz.func20 rfl ?_
  have hres:Tryz.f20.results.toList=[.tmp 4]:=rfl
  rintro⟨⟨(pi:Int),(ts:List (List Int)),(ns:List B1),(os:List Int)⟩,(ins:List (List Int)),_⟩ hc hL
  simp only[Y4,go_sem] at hL
  simp only[Y4,St.init,St.initG,Tryz.ntmps20,go_sem] 
  refine oS fun _ hK1=>?_;refine oW O6 ?_;simp only[go_sem];refine hK1 _ ?_;refine oS fun _ hK2=>?_;refine oS fun _ hK3=>?_;refine oW O6 ?_;simp only[go_sem];refine hK3 _ ?_;refine A3 ?_;refine A8 (ι:={ k:Nat // k≤ins.length∧(ins.take k).all d9=true }) (fun k=>⟨[.c (.pt [] ((.prod (.int .i64) (.prod (.row 26 (.row 2 (.int .i64))) (.prod (.row 67 (.prod (.int .i64) (.prod (.int .i64) (.prod (.int .i64) (.row 2 (.int .i64)))))) (.row 2 (.int .i64)))))) (pi,ts,ns,os) 0),.c (.rd [] 26 (.row 2 (.int .i64)) (ins)),zz,zz,zz,.c (.sc (.int .i64 (k.1))),zz,zz,zz,zz,zz,zz,zz,zz,zz,zz,zz,zz,zz,zz,zz,zz,zz,zz,zz],[]⟩) (fun k=>ins.length - k.1) ⟨0,by simp⟩ ?_ ?_
  ·
   refine oK ?_;simp (maxSteps:=2000000)only[go_sem];all_goals(first|rfl|((repeat' refine And.intro ?_ ?_)<;>first|rfl|simp))
  rintro⟨k,hk,hp⟩ K4 hL4
  refine oS fun _ hK5=>?_;refine oS fun _ hK6=>?_;refine oW O6 ?_;simp only[go_sem];refine hK6 _ ?_;refine oC rfl ?_ ?_
  ·
   intro c0;refine A2 ?_;simp only[go_sem];refine hK5 _ ?_;refine oS fun _ hK7=>?_;refine A3 ?_;refine oS fun _ hK8=>?_;refine oW O6 ?_;simp (maxSteps:=2000000)only[go_sem];repeat(with_reducible refine oA ?_)
   refine hK8 _ ?_;refine oC rfl ?_ ?_
   ·
    intro c1;refine oS fun _ hK9=>?_;refine oW O6 ?_;simp only[go_sem];refine hK9 _ ?_;refine A0 ?_;simp only[hres,go_sem]
    first
     | exact oF
     | refine ⟨?_, oF⟩
       have hal:ins.all d9=false:=M2 (k:=k) (d:=[]) (by omega) (by first|assumption|(clear hK1 hK2 hK3 hL4 hK5 hK6 hK7 hK8 hK9;simp_all))
       unfold A1G;rw[hal,Bool.and_false]
   intro c1;refine A2 ?_;simp only[go_sem];refine hK7 _ ?_;refine oW O6 ?_;simp only[go_sem];refine hL4 ⟨k+1,by omega,J6 (d:=[]) (by omega) hp (by first|assumption|(clear hK1 hK2 hK3 hL4 hK5 hK6 hK7 hK8;simp_all))⟩ _ (oK ?_) ?_
   ·
    simp (maxSteps:=2000000)only[go_sem];first|rfl|exact wk (by omega)
   ·
    first|(simp only[];omega)|omega|(simp;omega)
  intro c0;refine B6 ?_;simp only[go_sem];refine hK2 _ ?_;refine oS fun _ hK10=>?_;refine oW O6 ?_;simp (maxSteps:=2000000)only[go_sem];repeat(with_reducible refine oA ?_)
  refine hK10 _ ?_;refine A0 ?_;simp only[hres,go_sem]
  first
   | exact oF
   | refine ⟨?_, oF⟩
     have hal:ins.all d9=true:=I7 hp (by omega)
     unfold A1G;rw[hal,Bool.and_true]
def l9:G4:=fun f=>if f=20 then some (.p Y4) else A3y f
theorem A16:B5 Tryz.prog l9:=F8 A72 (B0 Tryz.func20 rfl (by decide)) O6
attribute [go_sem] l9 Y4
end Go.Proofs.YtenjbehedcegdaaGreat
