/-
  Texts of this claim, joined (part 5). No condition beyond those of the theorems.
-/
import Derived.Test.YtenjbehedcegdaaGreatQ04
namespace Go.Proofs.YtenjbehedcegdaaGreat
open Go.RowKit
set_option linter.unusedSimpArgs false
set_option linter.unusedVariables false
set_option maxRecDepth 100000
set_option maxHeartbeats 1000000
def A1o:Con:=⟨[.val (.int .i64),.val (.int .i64),.val (.int .i64)],[⟨.bool,true⟩],fun _=>True,fun x=>I6 x.1 x.2.1 x.2.2.1⟩
theorem B3Y:C8 Tryz.prog 35 A1o:=by
  refine A4 Tryz.func35 rfl ?_
  have hres:Tryz.f35.results.toList=[.tmp 6]:=rfl
  rintro⟨(x:Int),(lo:Int),(hi:Int),_⟩ hc hL
  simp only[A1o,go_sem] at hL
  simp only[A1o,St.init,St.initG,Tryz.ntmps35,go_sem] 
  refine oS fun _ hK1=>?_;refine oW B6q ?_;simp only[go_sem];refine hK1 _ ?_;refine oS fun _ hK2=>?_;refine oW B6q ?_;simp (maxSteps:=2000000)only[go_sem];repeat' (with_reducible first|refine oA ?_|refine oT (fun g1=>?_) (fun g1=>?_)|refine oE (fun g1=>?_) (fun g1=>?_))
  all_goals
   refine hK2 _ ?_;refine A0 ?_;simp only[hres,go_sem];first|exact oF|(refine⟨?_,oF⟩;first|rw[I6,decide_eq_true (show lo≤x from g1),Bool.true_and]|rw[I6,decide_eq_false (show ¬lo≤x from g1),Bool.false_and])
def A6m:G4:=fun f=>if f=35 then some (.p A1o) else T0 f
theorem A1N:B5 Tryz.prog A6m:=F8 B3Y (B0 Tryz.func35 rfl (by decide)) B6q
attribute [go_sem] A6m A1o
def A3U:Con:=⟨[.val (.int .i64),.val (.int .i64),.val (.int .i64)],[⟨.bool,true⟩],fun _=>True,fun x=>I6 x.1 x.2.1 x.2.2.1⟩
theorem B5i:C8 Tryz.prog 21 A3U:=by
  refine A4 Tryz.func21 rfl ?_
  have hres:Tryz.f21.results.toList=[.tmp 6]:=rfl
  rintro⟨(x:Int),(lo:Int),(hi:Int),_⟩ hc hL
  simp only[A3U,go_sem] at hL
  simp only[A3U,St.init,St.initG,Tryz.ntmps21,go_sem] 
  refine oS fun _ hK1=>?_;refine oW A1N ?_;simp only[go_sem];refine hK1 _ ?_;refine oS fun _ hK2=>?_;refine oW A1N ?_;simp (maxSteps:=2000000)only[go_sem];repeat' (with_reducible first|refine oA ?_|refine oT (fun g1=>?_) (fun g1=>?_)|refine oE (fun g1=>?_) (fun g1=>?_))
  all_goals
   refine hK2 _ ?_;refine A0 ?_;simp only[hres,go_sem];first|exact oF|(refine⟨?_,oF⟩;first|rw[I6,decide_eq_true (show lo≤x from g1),Bool.true_and]|rw[I6,decide_eq_false (show ¬lo≤x from g1),Bool.false_and])
def A7x:G4:=fun f=>if f=21 then some (.p A3U) else A6m f
theorem A2b:B5 Tryz.prog A7x:=F8 B5i (B0 Tryz.func21 rfl (by decide)) A1N
attribute [go_sem] A7x A3U
def t2:Con:=⟨[.val (.int .i64)],[⟨.bool,true⟩],fun _=>True,fun x=>smp x.1⟩
theorem A9j:C8 Tryz.prog 103 t2:=by
  refine A4 Tryz.func103 rfl ?_
  have hres:Tryz.f103.results.toList=[.tmp 2]:=rfl
  rintro⟨(x:Int),_⟩ hc hL
  simp only[t2,go_sem] at hL
  simp only[t2,St.init,St.initG,Tryz.ntmps103,go_sem] 
  refine oS fun _ hK1=>?_;refine oW A2b ?_;simp only[go_sem];refine hK1 _ ?_;refine oS fun _ hK2=>?_;refine oW A2b ?_;simp only[go_sem];repeat(with_reducible refine oA ?_)
  refine hK2 _ ?_;refine A0 ?_;simp only[hres,go_sem];first|exact oF|exact oFr
def A2z:G4:=fun f=>if f=103 then some (.p t2) else A7x f
theorem z9:B5 Tryz.prog A2z:=F8 A9j (B0 Tryz.func103 rfl (by decide)) A2b
attribute [go_sem] A2z t2
def b8:Con:=⟨[.val (.int .i64)],[⟨.bool,true⟩],fun _=>True,fun x=>smp x.1⟩
theorem A9C:C8 Tryz.prog 83 b8:=by
  refine A4 Tryz.func83 rfl ?_
  have hres:Tryz.f83.results.toList=[.tmp 2]:=rfl
  rintro⟨(x:Int),_⟩ hc hL
  simp only[b8,go_sem] at hL
  simp only[b8,St.init,St.initG,Tryz.ntmps83,go_sem] 
  refine oS fun _ hK1=>?_;refine oW z9 ?_;simp only[go_sem];refine hK1 _ ?_;refine oS fun _ hK2=>?_;refine oW z9 ?_;simp only[go_sem];repeat(with_reducible refine oA ?_)
  refine hK2 _ ?_;refine A0 ?_;simp only[hres,go_sem];first|exact oF|exact oFr
def A1U:G4:=fun f=>if f=83 then some (.p b8) else A2z f
theorem J0:B5 Tryz.prog A1U:=F8 A9C (B0 Tryz.func83 rfl (by decide)) z9
attribute [go_sem] A1U b8
def W9:Con:=⟨[.val ((.row 2 (.int .i64)))],[⟨.bool,true⟩],fun _=>True,fun x=>I9 x.1⟩
theorem A78:C8 Tryz.prog 88 W9:=by
  refine A4 Tryz.func88 rfl ?_
  have hres:Tryz.f88.results.toList=[.tmp 2]:=rfl
  rintro⟨(xs:List Int),_⟩ hc hL
  simp only[W9,go_sem] at hL
  simp only[W9,St.init,St.initG,Tryz.ntmps88,go_sem] 
  refine oS fun _ hK1=>?_;refine oW J0 ?_;simp only[go_sem];refine hK1 _ ?_;refine oS fun _ hK2=>?_;refine oS fun _ hK3=>?_;refine oW J0 ?_;simp only[go_sem];refine hK3 _ ?_;refine A3 ?_;refine A8 (ι:={ k:Nat // k≤xs.length∧(xs.take k).all smp=true }) (fun k=>⟨[zz,zz,zz,zz,zz,.c (.rd [] 2 (.int .i64) (xs)),.c (.sc (.int .i64 (xs.length))),.c (.sc (.int .i64 (k.1))),zz,zz,zz,zz,zz,zz,zz],[]⟩) (fun k=>xs.length - k.1) ⟨0,by simp⟩ ?_ ?_
  ·
   refine oK ?_;simp (maxSteps:=2000000)only[go_sem];all_goals(first|rfl|((repeat' refine And.intro ?_ ?_)<;>first|rfl|simp))
  rintro⟨k,hk,hp⟩ K4 hL4
  refine oS fun _ hK5=>?_;refine oW J0 ?_;simp only[go_sem];refine hK5 _ ?_;refine oS fun _ hK6=>?_;refine oC rfl ?_ ?_
  ·
   intro c0;refine A2 ?_;simp only[go_sem];refine hK6 _ ?_;refine oS fun _ hK7=>?_;refine A3 ?_;refine oS fun _ hK8=>?_;refine oW J0 ?_;simp only[go_sem];repeat(with_reducible refine oA ?_)
   refine hK8 _ ?_;refine oS fun _ hK9=>?_;refine oW J0 ?_;simp only[go_sem];repeat(with_reducible refine oA ?_)
   refine hK9 _ ?_;refine oC rfl ?_ ?_
   ·
    intro c1;refine oS fun _ hK10=>?_;refine oW J0 ?_;simp only[go_sem];refine hK10 _ ?_;refine A0 ?_;simp only[hres,go_sem];first|exact oF|(refine⟨?_,oF⟩;exact(M2 (k:=k) (d:=0) (by omega) (by first|assumption|(clear hp;clear hK1 hK2 hK3 hL4 hK5 hK6 hK7 hK8 hK9 hK10;simp_all))).symm)
   intro c1;refine A2 ?_;simp only[go_sem];refine hK7 _ ?_;refine oW J0 ?_;simp only[go_sem];refine hL4 ⟨k+1,by omega,J6 (d:=0) (by omega) hp (by first|assumption|(clear hK1 hK2 hK3 hL4 hK5 hK6 hK7 hK8 hK9;simp_all))⟩ _ (oK ?_) ?_
   ·
    simp (maxSteps:=2000000)only[go_sem];first|rfl|exact wk (by omega)
   ·
    first|(simp only[];omega)|omega|(simp;omega)
  intro c0;refine B6 ?_;simp only[go_sem];refine hK2 _ ?_;refine oS fun _ hK11=>?_;refine oW J0 ?_;simp only[go_sem];refine hK11 _ ?_;refine A0 ?_;simp only[hres,go_sem];first|exact oF|(refine⟨?_,oF⟩;exact(I7 hp (by omega)).symm)
def A0z:G4:=fun f=>if f=88 then some (.p W9) else A1U f
theorem l5:B5 Tryz.prog A0z:=F8 A78 (B0 Tryz.func88 rfl (by decide)) J0
attribute [go_sem] A0z W9
def A3c:Con:=⟨[.val ((.row 2 (.int .i64)))],[⟨.int .i64,true⟩],fun _=>True,fun x=>(x.1.length:Int)⟩
theorem B5s:C8 Tryz.prog 51 A3c:=by
  refine A4 Tryz.func51 rfl ?_
  have hres:Tryz.f51.results.toList=[.tmp 2]:=rfl
  rintro⟨xs,_⟩ hc hL
  simp only[A3c,go_sem] at hL
  simp only[A3c,St.init,St.initG,Tryz.ntmps51,go_sem] 
  refine oS fun _ hK1=>?_;refine oW l5 ?_;simp only[go_sem];refine hK1 _ ?_;refine oS fun _ hK2=>?_;refine oW l5 ?_;simp only[go_sem];refine hK2 _ ?_;refine A0 ?_;simp only[hres,go_sem];first|exact oF|exact oFr
def A9Y:G4:=fun f=>if f=51 then some (.p A3c) else A0z f
theorem A2p:B5 Tryz.prog A9Y:=F8 B5s (B0 Tryz.func51 rfl (by decide)) l5
attribute [go_sem] A9Y A3c
def A3h:Con:=⟨[.val ((.row 67 (.prod (.int .i64) (.prod (.int .i64) (.prod (.int .i64) (.row 2 (.int .i64)))))))],[⟨.int .i64,true⟩],fun _=>True,fun x=>(x.1.length:Int)⟩
theorem B4v:C8 Tryz.prog 50 A3h:=by
  refine A4 Tryz.func50 rfl ?_
  have hres:Tryz.f50.results.toList=[.tmp 2]:=rfl
  rintro⟨xs,_⟩ hc hL
  simp only[A3h,go_sem] at hL
  simp only[A3h,St.init,St.initG,Tryz.ntmps50,go_sem] 
  refine oS fun _ hK1=>?_;refine oW A2p ?_;simp only[go_sem];refine hK1 _ ?_;refine oS fun _ hK2=>?_;refine oW A2p ?_;simp only[go_sem];refine hK2 _ ?_;refine A0 ?_;simp only[hres,go_sem];first|exact oF|exact oFr
def A8j:G4:=fun f=>if f=50 then some (.p A3h) else A9Y f
theorem A2Y:B5 Tryz.prog A8j:=F8 B4v (B0 Tryz.func50 rfl (by decide)) A2p
attribute [go_sem] A8j A3h
def A3S:Con:=⟨[.val ((.row 26 (.row 2 (.int .i64))))],[⟨.int .i64,true⟩],fun _=>True,fun x=>(x.1.length:Int)⟩
theorem B5d:C8 Tryz.prog 24 A3S:=by
  refine A4 Tryz.func24 rfl ?_
  have hres:Tryz.f24.results.toList=[.tmp 2]:=rfl
  rintro⟨xs,_⟩ hc hL
  simp only[A3S,go_sem] at hL
  simp only[A3S,St.init,St.initG,Tryz.ntmps24,go_sem] 
  refine oS fun _ hK1=>?_;refine oW A2Y ?_;simp only[go_sem];refine hK1 _ ?_;refine oS fun _ hK2=>?_;refine oW A2Y ?_;simp only[go_sem];refine hK2 _ ?_;refine A0 ?_;simp only[hres,go_sem];first|exact oF|exact oFr
def A8H:G4:=fun f=>if f=24 then some (.p A3S) else A8j f
theorem A2n:B5 Tryz.prog A8H:=F8 B5d (B0 Tryz.func24 rfl (by decide)) A2Y
attribute [go_sem] A8H A3S
def A1l:Con:=⟨[.val (.int .i64)],[⟨.bool,true⟩],fun _=>True,fun x=>I6 x.1 1 17⟩
theorem B3R:C8 Tryz.prog 95 A1l:=by
  refine A4 Tryz.func95 rfl ?_
  have hres:Tryz.f95.results.toList=[.tmp 2]:=rfl
  rintro⟨(x:Int),_⟩ hc hL
  simp only[A1l,go_sem] at hL
  simp only[A1l,St.init,St.initG,Tryz.ntmps95,go_sem] 
  refine oS fun _ hK1=>?_;refine oW A2n ?_;simp only[go_sem];refine hK1 _ ?_;refine oS fun _ hK2=>?_;refine oW A2n ?_;simp only[go_sem];repeat(with_reducible refine oA ?_)
  refine hK2 _ ?_;refine A0 ?_;simp only[hres,go_sem];first|exact oF|exact oFr
def A5i:G4:=fun f=>if f=95 then some (.p A1l) else A8H f
theorem A1H:B5 Tryz.prog A5i:=F8 B3R (B0 Tryz.func95 rfl (by decide)) A2n
attribute [go_sem] A5i A1l
def A6U:Con:=⟨[.val ((.prod (.str) (.prod (.int .i64) (.prod (.int .i64) (.prod (.int .i64) (.prod (.bool) (.bool)))))))],[⟨.bool,true⟩],fun _=>True,fun x=>decide (x.1.2.2.1≤x.1.2.2.2.1)⟩
theorem B81:C8 Tryz.prog 97 A6U:=by
  refine A4 Tryz.func97 rfl ?_
  have hres:Tryz.f97.results.toList=[.tmp 2]:=rfl
  rintro⟨⟨nm,(inp:Int),(lo:Int),(hi:Int),(lin:Bool),(hb:Bool)⟩,_⟩ hc hL
  simp only[A6U,go_sem] at hL
  simp only[A6U,St.init,St.initG,Tryz.ntmps97,go_sem] 
  refine oS fun _ hK1=>?_;refine oW A1H ?_;simp only[go_sem];refine hK1 _ ?_;refine oS fun _ hK2=>?_;refine oW A1H ?_;simp (maxSteps:=2000000)only[go_sem];repeat(with_reducible refine oA ?_)
  refine hK2 _ ?_;refine A0 ?_;simp only[hres,go_sem];first|exact oF|exact oFr
def B1g:G4:=fun f=>if f=97 then some (.p A6U) else A5i f
theorem A4T:B5 Tryz.prog B1g:=F8 B81 (B0 Tryz.func97 rfl (by decide)) A1H
attribute [go_sem] B1g A6U
def A3X:Con:=⟨[],[⟨(.row 126 (.prod (.str) (.prod (.int .i64) (.prod (.int .i64) (.prod (.int .i64) (.prod (.bool) (.bool))))))),true⟩],fun _=>True,fun _=>A4D⟩
theorem B5y:C8 Tryz.prog 96 A3X:=by
  refine A4 Tryz.func96 rfl ?_
  have hres:Tryz.f96.results.toList=[.tmp 0]:=rfl
  rintro _ hc hL
  simp only[A3X,go_sem] at hL
  simp only[A3X,St.init,St.initG,Tryz.ntmps96,go_sem] 
  refine oS fun _ hK1=>?_;refine oW A4T ?_;simp only[go_sem];refine hK1 _ ?_;refine oS fun _ hK2=>?_;refine oW A4T ?_;simp (maxSteps:=2000000)only[go_sem];repeat(with_reducible refine oA ?_)
  refine hK2 _ ?_;refine A0 ?_;simp only[hres,go_sem];first|exact oF|exact oFr
def m7:G4:=fun f=>if f=96 then some (.p A3X) else B1g f
theorem C4:B5 Tryz.prog m7:=F8 B5y (B0 Tryz.func96 rfl (by decide)) A4T
attribute [go_sem] m7 A3X
end Go.Proofs.YtenjbehedcegdaaGreat
