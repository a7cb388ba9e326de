/-
  Texts of this claim, joined (part 6). No condition beyond those of the theorems.
-/
import Derived.Test.YtgaogcnfijbahaaGreatQ04
namespace Go.Proofs.YtgaogcnfijbahaaGreat
open Go.RowKit
set_option linter.unusedSimpArgs false
set_option linter.unusedVariables false
set_option maxRecDepth 100000
set_option maxHeartbeats 1000000
def A4D:Con:=⟨[.val (.int .i64),.val (.int .i64),.val (.int .i64)],[⟨.bool,true⟩],fun _=>True,fun x=>J3 x.1 x.2.1 x.2.2.1⟩
theorem B9q:C9 Tryz.prog 120 A4D:=by
  refine A4 Tryz.func120 rfl ?_
  have hres:Tryz.f120.results.toList=[.tmp 6]:=rfl
  rintro⟨(x:Int),(lo:Int),(hi:Int),_⟩ hc hL
  simp only[A4D,go_sem] at hL
  simp only[A4D,St.init,St.initG,Tryz.ntmps120,go_sem] 
  refine oS fun _ hK1=>?_;refine oW C1r ?_;simp only[go_sem];refine hK1 _ ?_;refine oS fun _ hK2=>?_;refine oW C1r ?_;simp (maxSteps:=2000000)only[go_sem];repeat' (with_reducible first|refine oA ?_|refine oT (fun g1=>?_) (fun g1=>?_)|refine oE (fun g1=>?_) (fun g1=>?_))
  all_goals
   refine hK2 _ ?_;refine A0 ?_;simp only[hres,go_sem];first|exact oF|(refine⟨?_,oF⟩;first|rw[J3,decide_eq_true (show lo≤x from g1),Bool.true_and]|rw[J3,decide_eq_false (show ¬lo≤x from g1),Bool.false_and])
def B0S:E4:=fun f=>if f=120 then some (.p A4D) else T0 f
theorem A3k:B4 Tryz.prog B0S:=E3 B9q (B0 Tryz.func120 rfl (by decide)) C1r
attribute [go_sem] B0S A4D
def A67:Con:=⟨[.val (.int .i64),.val (.int .i64),.val (.int .i64)],[⟨.bool,true⟩],fun _=>True,fun x=>J3 x.1 x.2.1 x.2.2.1⟩
theorem C4I:C9 Tryz.prog 27 A67:=by
  refine A4 Tryz.func27 rfl ?_
  have hres:Tryz.f27.results.toList=[.tmp 6]:=rfl
  rintro⟨(x:Int),(lo:Int),(hi:Int),_⟩ hc hL
  simp only[A67,go_sem] at hL
  simp only[A67,St.init,St.initG,Tryz.ntmps27,go_sem] 
  refine oS fun _ hK1=>?_;refine oW A3k ?_;simp only[go_sem];refine hK1 _ ?_;refine oS fun _ hK2=>?_;refine oW A3k ?_;simp (maxSteps:=2000000)only[go_sem];repeat' (with_reducible first|refine oA ?_|refine oT (fun g1=>?_) (fun g1=>?_)|refine oE (fun g1=>?_) (fun g1=>?_))
  all_goals
   refine hK2 _ ?_;refine A0 ?_;simp only[hres,go_sem];first|exact oF|(refine⟨?_,oF⟩;first|rw[J3,decide_eq_true (show lo≤x from g1),Bool.true_and]|rw[J3,decide_eq_false (show ¬lo≤x from g1),Bool.false_and])
def B23:E4:=fun f=>if f=27 then some (.p A67) else B0S f
theorem A5a:B4 Tryz.prog B23:=E3 C4I (B0 Tryz.func27 rfl (by decide)) A3k
attribute [go_sem] B23 A67
def A0r:Con:=⟨[.val (.int .i64)],[⟨.bool,true⟩],fun _=>True,fun x=>smp x.1⟩
theorem B5m:C9 Tryz.prog 152 A0r:=by
  refine A4 Tryz.func152 rfl ?_
  have hres:Tryz.f152.results.toList=[.tmp 2]:=rfl
  rintro⟨(x:Int),_⟩ hc hL
  simp only[A0r,go_sem] at hL
  simp only[A0r,St.init,St.initG,Tryz.ntmps152,go_sem] 
  refine oS fun _ hK1=>?_;refine oW A5a ?_;simp only[go_sem];refine hK1 _ ?_;refine oS fun _ hK2=>?_;refine oW A5a ?_;simp only[go_sem];repeat(with_reducible refine oA ?_)
  refine hK2 _ ?_;refine A0 ?_;simp only[hres,go_sem];first|exact oF|exact oFr
def A5L:E4:=fun f=>if f=152 then some (.p A0r) else B23 f
theorem A1e:B4 Tryz.prog A5L:=E3 B5m (B0 Tryz.func152 rfl (by decide)) A5a
attribute [go_sem] A5L A0r
def x3:Con:=⟨[.val (.int .i64)],[⟨.bool,true⟩],fun _=>True,fun x=>smp x.1⟩
theorem B3F:C9 Tryz.prog 107 x3:=by
  refine A4 Tryz.func107 rfl ?_
  have hres:Tryz.f107.results.toList=[.tmp 2]:=rfl
  rintro⟨(x:Int),_⟩ hc hL
  simp only[x3,go_sem] at hL
  simp only[x3,St.init,St.initG,Tryz.ntmps107,go_sem] 
  refine oS fun _ hK1=>?_;refine oW A1e ?_;simp only[go_sem];refine hK1 _ ?_;refine oS fun _ hK2=>?_;refine oW A1e ?_;simp only[go_sem];repeat(with_reducible refine oA ?_)
  refine hK2 _ ?_;refine A0 ?_;simp only[hres,go_sem];first|exact oF|exact oFr
def A3t:E4:=fun f=>if f=107 then some (.p x3) else A5L f
theorem M1:B4 Tryz.prog A3t:=E3 B3F (B0 Tryz.func107 rfl (by decide)) A1e
attribute [go_sem] A3t x3
def l6:Con:=⟨[.val ((.row 2 (.int .i64)))],[⟨.bool,true⟩],fun _=>True,fun x=>D9 x.1⟩
theorem B0y:C9 Tryz.prog 144 l6:=by
  refine A4 Tryz.func144 rfl ?_
  have hres:Tryz.f144.results.toList=[.tmp 2]:=rfl
  rintro⟨(xs:List Int),_⟩ hc hL
  simp only[l6,go_sem] at hL
  simp only[l6,St.init,St.initG,Tryz.ntmps144,go_sem] 
  refine oS fun _ hK1=>?_;refine oW M1 ?_;simp only[go_sem];refine hK1 _ ?_;refine oS fun _ hK2=>?_;refine oS fun _ hK3=>?_;refine oW M1 ?_;simp only[go_sem];refine hK3 _ ?_;refine A1 ?_;refine A7 (ι:={ k:Nat // k≤xs.length∧(xs.take k).all smp=true }) (fun k=>⟨[zz,zz,zz,zz,zz,.c (.rd [] 2 (.int .i64) (xs)),.c (.sc (.int .i64 (xs.length))),.c (.sc (.int .i64 (k.1))),zz,zz,zz,zz,zz,zz,zz],[]⟩) (fun k=>xs.length - k.1) ⟨0,by simp⟩ ?_ ?_
  ·
   refine oK ?_;simp (maxSteps:=2000000)only[go_sem];all_goals(first|rfl|((repeat' refine And.intro ?_ ?_)<;>first|rfl|simp))
  rintro⟨k,hk,hp⟩ K4 hL4
  refine oS fun _ hK5=>?_;refine oW M1 ?_;simp only[go_sem];refine hK5 _ ?_;refine oS fun _ hK6=>?_;refine oC rfl ?_ ?_
  ·
   intro c0;refine A2 ?_;simp only[go_sem];refine hK6 _ ?_;refine oS fun _ hK7=>?_;refine A1 ?_;refine oS fun _ hK8=>?_;refine oW M1 ?_;simp only[go_sem];repeat(with_reducible refine oA ?_)
   refine hK8 _ ?_;refine oS fun _ hK9=>?_;refine oW M1 ?_;simp only[go_sem];repeat(with_reducible refine oA ?_)
   refine hK9 _ ?_;refine oC rfl ?_ ?_
   ·
    intro c1;refine oS fun _ hK10=>?_;refine oW M1 ?_;simp only[go_sem];refine hK10 _ ?_;refine A0 ?_;simp only[hres,go_sem];first|exact oF|(refine⟨?_,oF⟩;exact(N5 (k:=k) (d:=0) (by omega) (by first|assumption|(clear hp;clear hK1 hK2 hK3 hL4 hK5 hK6 hK7 hK8 hK9 hK10;simp_all))).symm)
   intro c1;refine A2 ?_;simp only[go_sem];refine hK7 _ ?_;refine oW M1 ?_;simp only[go_sem];refine hL4 ⟨k+1,by omega,L6 (d:=0) (by omega) hp (by first|assumption|(clear hK1 hK2 hK3 hL4 hK5 hK6 hK7 hK8 hK9;simp_all))⟩ _ (oK ?_) ?_
   ·
    simp (maxSteps:=2000000)only[go_sem];first|rfl|exact wk (by omega)
   ·
    first|(simp only[];omega)|omega|(simp;omega)
  intro c0;refine B6 ?_;simp only[go_sem];refine hK2 _ ?_;refine oS fun _ hK11=>?_;refine oW M1 ?_;simp only[go_sem];refine hK11 _ ?_;refine A0 ?_;simp only[hres,go_sem];first|exact oF|(refine⟨?_,oF⟩;exact(L3 hp (by omega)).symm)
def A2a:E4:=fun f=>if f=144 then some (.p l6) else A3t f
theorem y8:B4 Tryz.prog A2a:=E3 B0y (B0 Tryz.func144 rfl (by decide)) M1
attribute [go_sem] A2a l6
def A60:Con:=⟨[.val ((.row 2 (.int .i64)))],[⟨.int .i64,true⟩],fun _=>True,fun x=>(x.1.length:Int)⟩
theorem C4J:C9 Tryz.prog 18 A60:=by
  refine A4 Tryz.func18 rfl ?_
  have hres:Tryz.f18.results.toList=[.tmp 2]:=rfl
  rintro⟨xs,_⟩ hc hL
  simp only[A60,go_sem] at hL
  simp only[A60,St.init,St.initG,Tryz.ntmps18,go_sem] 
  refine oS fun _ hK1=>?_;refine oW y8 ?_;simp only[go_sem];refine hK1 _ ?_;refine oS fun _ hK2=>?_;refine oW y8 ?_;simp only[go_sem];refine hK2 _ ?_;refine A0 ?_;simp only[hres,go_sem];first|exact oF|exact oFr
def B37:E4:=fun f=>if f=18 then some (.p A60) else A2a f
theorem A58:B4 Tryz.prog B37:=E3 C4J (B0 Tryz.func18 rfl (by decide)) y8
attribute [go_sem] B37 A60
def A63:Con:=⟨[.val ((.row 95 (.prod (.int .i64) (.prod (.int .i64) (.prod (.int .i64) (.row 2 (.int .i64)))))))],[⟨.int .i64,true⟩],fun _=>True,fun x=>(x.1.length:Int)⟩
theorem C3L:C9 Tryz.prog 119 A63:=by
  refine A4 Tryz.func119 rfl ?_
  have hres:Tryz.f119.results.toList=[.tmp 2]:=rfl
  rintro⟨xs,_⟩ hc hL
  simp only[A63,go_sem] at hL
  simp only[A63,St.init,St.initG,Tryz.ntmps119,go_sem] 
  refine oS fun _ hK1=>?_;refine oW A58 ?_;simp only[go_sem];refine hK1 _ ?_;refine oS fun _ hK2=>?_;refine oW A58 ?_;simp only[go_sem];refine hK2 _ ?_;refine A0 ?_;simp only[hres,go_sem];first|exact oF|exact oFr
def B3Y:E4:=fun f=>if f=119 then some (.p A63) else B37 f
theorem A5c:B4 Tryz.prog B3Y:=E3 C3L (B0 Tryz.func119 rfl (by decide)) A58
attribute [go_sem] B3Y A63
def A69:Con:=⟨[.val ((.row 26 (.row 2 (.int .i64))))],[⟨.int .i64,true⟩],fun _=>True,fun x=>(x.1.length:Int)⟩
theorem C27:C9 Tryz.prog 124 A69:=by
  refine A4 Tryz.func124 rfl ?_
  have hres:Tryz.f124.results.toList=[.tmp 2]:=rfl
  rintro⟨xs,_⟩ hc hL
  simp only[A69,go_sem] at hL
  simp only[A69,St.init,St.initG,Tryz.ntmps124,go_sem] 
  refine oS fun _ hK1=>?_;refine oW A5c ?_;simp only[go_sem];refine hK1 _ ?_;refine oS fun _ hK2=>?_;refine oW A5c ?_;simp only[go_sem];refine hK2 _ ?_;refine A0 ?_;simp only[hres,go_sem];first|exact oF|exact oFr
def B49:E4:=fun f=>if f=124 then some (.p A69) else B3Y f
theorem A5g:B4 Tryz.prog B49:=E3 C27 (B0 Tryz.func124 rfl (by decide)) A5c
attribute [go_sem] B49 A69
def A3Q:Con:=⟨[.val (.int .i64)],[⟨.bool,true⟩],fun _=>True,fun x=>J3 x.1 1 17⟩
theorem B9g:C9 Tryz.prog 127 A3Q:=by
  refine A4 Tryz.func127 rfl ?_
  have hres:Tryz.f127.results.toList=[.tmp 2]:=rfl
  rintro⟨(x:Int),_⟩ hc hL
  simp only[A3Q,go_sem] at hL
  simp only[A3Q,St.init,St.initG,Tryz.ntmps127,go_sem] 
  refine oS fun _ hK1=>?_;refine oW A5g ?_;simp only[go_sem];refine hK1 _ ?_;refine oS fun _ hK2=>?_;refine oW A5g ?_;simp only[go_sem];repeat(with_reducible refine oA ?_)
  refine hK2 _ ?_;refine A0 ?_;simp only[hres,go_sem];first|exact oF|exact oFr
def B0B:E4:=fun f=>if f=127 then some (.p A3Q) else B49 f
theorem A3I:B4 Tryz.prog B0B:=E3 B9g (B0 Tryz.func127 rfl (by decide)) A5g
attribute [go_sem] B0B A3Q
def A9L:Con:=⟨[.val ((.prod (.str) (.prod (.int .i64) (.prod (.int .i64) (.prod (.int .i64) (.prod (.bool) (.bool)))))))],[⟨.bool,true⟩],fun _=>True,fun x=>decide (x.1.2.2.1≤x.1.2.2.2.1)⟩
theorem C57:C9 Tryz.prog 145 A9L:=by
  refine A4 Tryz.func145 rfl ?_
  have hres:Tryz.f145.results.toList=[.tmp 2]:=rfl
  rintro⟨⟨nm,(inp:Int),(lo:Int),(hi:Int),(lin:Bool),(hb:Bool)⟩,_⟩ hc hL
  simp only[A9L,go_sem] at hL
  simp only[A9L,St.init,St.initG,Tryz.ntmps145,go_sem] 
  refine oS fun _ hK1=>?_;refine oW A3I ?_;simp only[go_sem];refine hK1 _ ?_;refine oS fun _ hK2=>?_;refine oW A3I ?_;simp (maxSteps:=2000000)only[go_sem];repeat(with_reducible refine oA ?_)
  refine hK2 _ ?_;refine A0 ?_;simp only[hres,go_sem];first|exact oF|exact oFr
def B80:E4:=fun f=>if f=145 then some (.p A9L) else B0B f
theorem A6v:B4 Tryz.prog B80:=E3 C57 (B0 Tryz.func145 rfl (by decide)) A3I
attribute [go_sem] B80 A9L
def A5t:Con:=⟨[],[⟨(.row 144 (.prod (.str) (.prod (.int .i64) (.prod (.int .i64) (.prod (.int .i64) (.prod (.bool) (.bool))))))),true⟩],fun _=>True,fun _=>A5Y⟩
theorem C2c:C9 Tryz.prog 128 A5t:=by
  refine A4 Tryz.func128 rfl ?_
  have hres:Tryz.f128.results.toList=[.tmp 0]:=rfl
  rintro _ hc hL
  simp only[A5t,go_sem] at hL
  simp only[A5t,St.init,St.initG,Tryz.ntmps128,go_sem] 
  refine oS fun _ hK1=>?_;refine oW A6v ?_;simp only[go_sem];refine hK1 _ ?_;refine oS fun _ hK2=>?_;refine oW A6v ?_;simp (maxSteps:=2000000)only[go_sem];repeat(with_reducible refine oA ?_)
  refine hK2 _ ?_;refine A0 ?_;simp only[hres,go_sem];first|exact oF|exact oFr
def e9:E4:=fun f=>if f=128 then some (.p A5t) else B80 f
theorem D3:B4 Tryz.prog e9:=E3 C2c (B0 Tryz.func128 rfl (by decide)) A6v
attribute [go_sem] e9 A5t
set_option maxRecDepth 100000
set_option maxHeartbeats 1000000
def A9P:Con:=⟨[.val (.int .i64)],[⟨.int .i64,true⟩],fun _=>True,fun x=>wrap32 x.1⟩
theorem C68:C9 Tryz.prog 80 A9P:=by
  refine A4 Tryz.func80 rfl ?_
  have hres:Tryz.f80.results.toList=[.tmp 2]:=rfl
  rintro⟨(x:Int),_⟩ hc hL
  simp only[A9P,go_sem] at hL
  simp only[A9P,St.init,St.initG,Tryz.ntmps80,go_sem] 
  refine oS fun _ hK1=>?_;refine oW D3 ?_;simp only[go_sem];refine hK1 _ ?_;refine oS fun _ hK2=>?_;refine oW D3 ?_;simp only[Tryz.underlying21,go_sem];refine hK2 _ ?_;refine A0 ?_;simp only[hres,go_sem];first|exact oF|(refine⟨?_,oF⟩;exact C8n x)
def B83:E4:=fun f=>if f=80 then some (.p A9P) else e9 f
theorem A6r:B4 Tryz.prog B83:=E3 C68 (B0 Tryz.func80 rfl (by decide)) D3
attribute [go_sem] B83 A9P
def A0c:Con:=⟨[.val (.int .i64)],[⟨.int .i64,true⟩],fun _=>True,fun x=>uns x.1⟩
theorem B5E:C9 Tryz.prog 153 A0c:=by
  refine A4 Tryz.func153 rfl ?_
  have hres:Tryz.f153.results.toList=[.tmp 2]:=rfl
  rintro⟨(x:Int),_⟩ hc hL
  simp only[A0c,go_sem] at hL
  simp only[A0c,St.init,St.initG,Tryz.ntmps153,go_sem] 
  refine oS fun _ hK1=>?_;refine oW A6r ?_;simp only[go_sem];refine hK1 _ ?_;refine oS fun _ hK2=>?_;refine oW A6r ?_;simp only[go_sem];refine hK2 _ ?_;refine A0 ?_;simp only[hres,go_sem];first|exact oF|(refine⟨?_,oF⟩;exact C9U x)
def A5l:E4:=fun f=>if f=153 then some (.p A0c) else B83 f
theorem A1X:B4 Tryz.prog A5l:=E3 B5E (B0 Tryz.func153 rfl (by decide)) A6r
attribute [go_sem] A5l A0c
def A6i:Con:=⟨[.val (.int .i64)],[⟨.bool,true⟩],fun _=>True,fun x=>decide (x.1 % 2=1)⟩
theorem C1P:C9 Tryz.prog 154 A6i:=by
  refine A4 Tryz.func154 rfl ?_
  have hres:Tryz.f154.results.toList=[.tmp 2]:=rfl
  rintro⟨(x:Int),_⟩ hc hL
  simp only[A6i,go_sem] at hL
  simp only[A6i,St.init,St.initG,Tryz.ntmps154,go_sem] 
  refine oS fun _ hK1=>?_;refine oW A1X ?_;simp only[go_sem];refine hK1 _ ?_;refine oS fun _ hK2=>?_;refine oW A1X ?_;simp only[go_sem];refine hK2 _ ?_;refine A0 ?_;simp only[hres,go_sem];first|exact oF|(refine⟨?_,oF⟩;exact congrArg (fun z=>decide (z=1)) (C96 x))
def B2m:E4:=fun f=>if f=154 then some (.p A6i) else A5l f
theorem Z7:B4 Tryz.prog B2m:=E3 C1P (B0 Tryz.func154 rfl (by decide)) A1X
attribute [go_sem] B2m A6i
def A6Q:Con:=⟨[.val (.int .i64)],[⟨.int .i64,true⟩],fun _=>True,fun x=>A1E x.1⟩
theorem C2V:C9 Tryz.prog 147 A6Q:=by
  refine A4 Tryz.func147 rfl ?_
  have hres:Tryz.f147.results.toList=[.tmp 2]:=rfl
  rintro⟨(x:Int),_⟩ hc hL
  simp only[A6Q,go_sem] at hL
  simp only[A6Q,St.init,St.initG,Tryz.ntmps147,go_sem] 
  have hu:=B2Z x
  have hq:IntKind.i64.wrap (Int.tdiv (uns x) 2)=uns x / 2:=by rw[Int.tdiv_eq_ediv_of_nonneg hu.1];exact F3 (by omega)
  refine oS fun _ hK1=>?_;refine oW Z7 ?_;simp only[go_sem];refine hK1 _ ?_;refine oS fun _ hK2=>?_;refine oW Z7 ?_;simp only[hq,go_sem];repeat(with_reducible first|refine oA ?_|refine And.intro (by first|decide) ?_)
  refine hK2 _ ?_;refine oS fun _ hK3=>?_;refine oS fun _ hK4=>?_;refine oW Z7 ?_;simp only[go_sem];repeat(with_reducible refine oA ?_)
  refine hK4 _ ?_;refine oC rfl ?_ ?_
  ·
   intro c0;refine oW Z7 ?_;simp only[C9N,go_sem];refine hK3 _ ?_;refine oS fun _ hK5=>?_;refine oW Z7 ?_;simp only[go_sem];repeat(with_reducible refine oA ?_)
   refine hK5 _ ?_;refine A0 ?_;simp only[hres,go_sem];first|exact oF|(refine⟨?_,oF⟩;first|exact(A8j c0).symm|exact(B0W c0).symm)
  intro c0;refine A2 ?_;simp only[go_sem];refine hK3 _ ?_;refine oS fun _ hK6=>?_;refine oW Z7 ?_;simp only[go_sem];repeat(with_reducible refine oA ?_)
  refine hK6 _ ?_;refine A0 ?_;simp only[hres,go_sem];first|exact oF|(refine⟨?_,oF⟩;first|exact(A8j c0).symm|exact(B0W c0).symm)
def B2E:E4:=fun f=>if f=147 then some (.p A6Q) else B2m f
theorem A5M:B4 Tryz.prog B2E:=E3 C2V (B0 Tryz.func147 rfl (by decide)) Z7
attribute [go_sem] B2E A6Q
def A6M:Con:=⟨[.val (.int .i64)],[⟨(.row 2 (.int .i64)),true⟩],fun x=>J3 x.1 0 1099511627776=true,fun x=>List.replicate (Int.toNat x.1) 0⟩
theorem C2v:C9 Tryz.prog 79 A6M:=by
  refine A4 Tryz.func79 rfl ?_
  have hres:Tryz.f79.results.toList=[.tmp 2]:=rfl
  rintro⟨(x:Int),_⟩ hc hL
  simp only[A6M,go_sem] at hL
  simp only[A6M,St.init,St.initG,Tryz.ntmps79,go_sem] 
  obtain⟨h1,h2⟩:=C1.1 (show J3 x _ _=true from hc)
  refine oS fun _ hK1=>?_;refine oW A5M ?_;simp only[go_sem];refine hK1 _ ?_;refine oS fun _ hK2=>?_;refine oW A5M ?_;simp only[List.nodup_nil,go_sem];repeat(with_reducible refine oA ?_)
  refine hK2 _ ?_;refine A0 ?_;simp only[hres,go_sem];first|exact oF|exact oFr
def B28:E4:=fun f=>if f=79 then some (.p A6M) else B2E f
theorem a5:B4 Tryz.prog B28:=E3 C2v (B0 Tryz.func79 rfl (by decide)) A5M
attribute [go_sem] B28 A6M
def A0d:Con:=⟨[.val (.int .i64)],[⟨(.row 2 (.int .i64)),true⟩],fun x=>J3 x.1 0 1099511627776=true,fun x=>List.replicate (Int.toNat x.1) 0⟩
theorem B6G:C9 Tryz.prog 97 A0d:=by
  refine A4 Tryz.func97 rfl ?_
  have hres:Tryz.f97.results.toList=[.tmp 2]:=rfl
  rintro⟨(x:Int),_⟩ hc hL
  simp only[A0d,go_sem] at hL
  simp only[A0d,St.init,St.initG,Tryz.ntmps97,go_sem] 
  obtain⟨h1,h2⟩:=C1.1 (show J3 x _ _=true from hc)
  refine oS fun _ hK1=>?_;refine oW a5 ?_;simp only[go_sem];refine hK1 _ ?_;refine oS fun _ hK2=>?_;refine oW a5 ?_;simp only[List.nodup_nil,go_sem];repeat(with_reducible refine oA ?_)
  refine hK2 _ ?_;refine oS fun _ hK3=>?_;refine A1 ?_;refine A7 (ι:={ k:Nat // k≤x.toNat }) (fun k=>⟨[.c (.sc (.int .i64 (x - k.1))),zz,zz,.c (.ow 9001),zz,zz,zz,zz,zz,zz,zz,zz,zz],[(9001,.row 2 (.int .i64) (List.replicate k.1 0) [])]⟩) (fun k=>x.toNat - k.1) ⟨0,by simp⟩ ?_ ?_
  ·
   refine oK ?_;simp (maxSteps:=2000000)only[go_sem];all_goals first|rfl|omega|((repeat' refine And.intro ?_ ?_)<;>first|rfl|omega|simp)
  rintro⟨k,hk⟩ K4 hL4
  have hw:IntKind.i64.wrap (x - (k:Int) - 1)=x - ((k+1:Nat):Int):=by rw[F3 (by omega)];omega
  have hrl:(List.replicate k (0:Int)).length=k:=List.length_replicate
  refine oS fun _ hK5=>?_;refine oS fun _ hK6=>?_;refine oW a5 ?_;simp only[go_sem];refine hK6 _ ?_;refine oC rfl ?_ ?_
  ·
   intro c0;refine A2 ?_;simp only[go_sem];refine hK5 _ ?_;refine oS fun _ hK7=>?_;refine A1 ?_;refine oW a5 ?_;simp only[go_sem];repeat(with_reducible refine oA ?_)
   refine hK7 _ ?_;refine oW a5 ?_;simp only[go_sem];refine hL4 ⟨k+1,by omega⟩ _ (oK ?_) ?_
   ·
    simp (maxSteps:=2000000)only[go_sem];all_goals((repeat' refine And.intro ?_ ?_)<;>first|rfl|exact hw|exact List.replicate_succ'.symm)
   ·
    first|(simp only[];omega)|omega|(simp;omega)
  intro c0;refine B6 ?_;simp only[go_sem];refine hK3 _ ?_;refine oS fun _ hK8=>?_;refine oW a5 ?_;simp only[go_sem];refine hK8 _ ?_;refine A0 ?_;simp only[hres,go_sem];first|exact oF|(refine⟨?_,oF⟩;rw[show x.toNat=k by omega])
def A5j:E4:=fun f=>if f=97 then some (.p A0d) else B28 f
theorem M8:B4 Tryz.prog A5j:=E3 B6G (B0 Tryz.func97 rfl (by decide)) a5
attribute [go_sem] A5j A0d
def A4G:Con:=⟨[.val ((.row 2 (.int .i64))),.val ((.row 2 (.int .i64)))],[⟨(.row 2 (.int .i64)),true⟩],fun x=>x.1.length≤1000∧N9 x.2.1.length x.1=true,fun x=>x.1.map (fun q=>x.2.1.getD (Int.toNat q) 0)⟩
theorem B9t:C9 Tryz.prog 131 A4G:=by
  refine A4 Tryz.func131 rfl ?_
  have hres:Tryz.f131.results.toList=[.tmp 4]:=rfl
  rintro⟨(xs:List Int),(vs:List Int),_⟩ hc hL
  simp only[A4G,go_sem] at hL
  obtain⟨lxs,lvs⟩:=hL;simp only[A4G,St.init,St.initG,Tryz.ntmps131,go_sem] 
  obtain⟨h1,h2⟩:=(show xs.length≤1000∧N9 vs.length xs=true from hc)
  refine oS fun _ hK1=>?_;refine oW M8 ?_;simp only[go_sem];refine hK1 _ ?_;refine oS fun _ hK2=>?_;refine oW M8 ?_;simp only[List.nodup_nil,go_sem];repeat(with_reducible refine oA ?_)
  refine hK2 _ ?_;refine oS fun _ hK3=>?_;refine oS fun _ hK4=>?_;refine oW M8 ?_;simp only[go_sem];refine hK4 _ ?_;refine A1 ?_;refine A7 (ι:={ k:Nat // k≤xs.length }) (fun k=>⟨[zz,.c (.rd [] 2 (.int .i64) (vs)),zz,zz,zz,.c (.ow 9001),zz,zz,zz,.c (.rd [] 2 (.int .i64) (xs)),.c (.sc (.int .i64 (xs.length))),.c (.sc (.int .i64 (k.1))),zz,zz,zz,zz,zz,zz,zz,zz,zz,zz,zz,zz],[(9001,.row 2 (.int .i64) ((xs.take k.1).map (fun q=>vs.getD (Int.toNat q) 0)) [])]⟩) (fun k=>xs.length - k.1) ⟨0,by simp⟩ ?_ ?_
  ·
   refine oK ?_;simp (maxSteps:=2000000)only[go_sem];all_goals first|rfl|((repeat' refine And.intro ?_ ?_)<;>first|rfl|simp)
  rintro⟨k,hk⟩ K5 hL5
  have hml:((xs.take k).map (fun q=>vs.getD (Int.toNat q) 0)).length≤1000:=by rw[List.length_map,List.length_take];omega
  have hix:k < xs.length→0≤xs.getD k 0∧xs.getD k 0≤vs.length - 1:=fun h=>U5 h2 (D6 h)
  refine oS fun _ hK6=>?_;refine oW M8 ?_;simp only[go_sem];refine hK6 _ ?_;refine oS fun _ hK7=>?_;refine oC rfl ?_ ?_
  ·
   intro c0;obtain⟨hi1,hi2⟩:=hix (by omega)
   refine A2 ?_;simp only[go_sem];refine hK7 _ ?_;refine oS fun _ hK8=>?_;refine A1 ?_;refine oS fun _ hK9=>?_;refine oW M8 ?_;simp only[go_sem];repeat(with_reducible refine oA ?_)
   refine hK9 _ ?_;refine oW M8 ?_;simp (maxSteps:=2000000)only[go_sem];repeat(with_reducible refine oA ?_)
   refine hK8 _ ?_;refine oW M8 ?_;simp only[go_sem];refine hL5 ⟨k+1,by omega⟩ _ (oK ?_) ?_
   ·
    simp (maxSteps:=2000000)only[go_sem];all_goals((repeat' refine And.intro ?_ ?_)<;>first|rfl|exact wk (by omega)|exact A4N (0:Int) (by omega))
   ·
    first|(simp only[];omega)|omega|(simp;omega)
  intro c0;refine B6 ?_;simp only[go_sem];refine hK3 _ ?_;refine oS fun _ hK10=>?_;refine oW M8 ?_;simp only[go_sem];refine hK10 _ ?_;refine A0 ?_;simp only[hres,go_sem];first|exact oF|(refine⟨?_,oF⟩;exact congrArg (List.map _) (List.take_of_length_le (by omega)))
def A9V:E4:=fun f=>if f=131 then some (.p A4G) else A5j f
theorem U9:B4 Tryz.prog A9V:=E3 B9t (B0 Tryz.func131 rfl (by decide)) M8
attribute [go_sem] A9V A4G
def A43:Con:=⟨[.val ((.row 2 (.int .i64))),.val ((.row 2 (.int .i64)))],[⟨(.row 2 (.int .i64)),true⟩],fun x=>x.1.length≤1000∧N9 x.2.1.length x.1=true,fun x=>x.1.map (fun q=>x.2.1.getD (Int.toNat q) 0)⟩
theorem C0c:C9 Tryz.prog 70 A43:=by
  refine A4 Tryz.func70 rfl ?_
  have hres:Tryz.f70.results.toList=[.tmp 4]:=rfl
  rintro⟨(xs:List Int),(vs:List Int),_⟩ hc hL
  simp only[A43,go_sem] at hL
  obtain⟨lxs,lvs⟩:=hL;simp only[A43,St.init,St.initG,Tryz.ntmps70,go_sem] 
  obtain⟨h1,h2⟩:=(show xs.length≤1000∧N9 vs.length xs=true from hc)
  refine oS fun _ hK1=>?_;refine oW U9 ?_;simp only[go_sem];refine hK1 _ ?_;refine oS fun _ hK2=>?_;refine oW U9 ?_;simp only[List.nodup_nil,go_sem];repeat(with_reducible refine oA ?_)
  refine hK2 _ ?_;refine oS fun _ hK3=>?_;refine oS fun _ hK4=>?_;refine oW U9 ?_;simp only[go_sem];refine hK4 _ ?_;refine A1 ?_;refine A7 (ι:={ k:Nat // k≤xs.length }) (fun k=>⟨[.c (.rd [] 2 (.int .i64) (xs)),.c (.rd [] 2 (.int .i64) (vs)),zz,zz,zz,.c (.ow 9001),.c (.sc (.int .i64 (k.1))),zz,zz,zz,zz,zz,zz,zz,zz,zz,zz,zz,zz,zz,zz,zz,zz,zz,zz],[(9001,.row 2 (.int .i64) ((xs.take k.1).map (fun q=>vs.getD (Int.toNat q) 0)) [])]⟩) (fun k=>xs.length - k.1) ⟨0,by simp⟩ ?_ ?_
  ·
   refine oK ?_;simp (maxSteps:=2000000)only[go_sem];all_goals first|rfl|((repeat' refine And.intro ?_ ?_)<;>first|rfl|simp)
  rintro⟨k,hk⟩ K5 hL5
  have hml:((xs.take k).map (fun q=>vs.getD (Int.toNat q) 0)).length≤1000:=by rw[List.length_map,List.length_take];omega
  have hix:k < xs.length→0≤xs.getD k 0∧xs.getD k 0≤vs.length - 1:=fun h=>U5 h2 (D6 h)
  refine oS fun _ hK6=>?_;refine oS fun _ hK7=>?_;refine oW U9 ?_;simp only[go_sem];refine hK7 _ ?_;refine oC rfl ?_ ?_
  ·
   intro c0;obtain⟨hi1,hi2⟩:=hix (by omega)
   refine A2 ?_;simp only[go_sem];refine hK6 _ ?_;refine oS fun _ hK8=>?_;refine A1 ?_;refine oW U9 ?_;simp (maxSteps:=2000000)only[go_sem];repeat(with_reducible refine oA ?_)
   refine hK8 _ ?_;refine oW U9 ?_;simp only[go_sem];refine hL5 ⟨k+1,by omega⟩ _ (oK ?_) ?_
   ·
    simp (maxSteps:=2000000)only[go_sem];all_goals((repeat' refine And.intro ?_ ?_)<;>first|rfl|exact wk (by omega)|exact A4N (0:Int) (by omega))
   ·
    first|(simp only[];omega)|omega|(simp;omega)
  intro c0;refine B6 ?_;simp only[go_sem];refine hK3 _ ?_;refine oS fun _ hK9=>?_;refine oW U9 ?_;simp only[go_sem];refine hK9 _ ?_;refine A0 ?_;simp only[hres,go_sem];first|exact oF|(refine⟨?_,oF⟩;exact congrArg (List.map _) (List.take_of_length_le (by omega)))
def Z3:E4:=fun f=>if f=70 then some (.p A43) else A9V f
theorem A5:B4 Tryz.prog Z3:=E3 C0c (B0 Tryz.func70 rfl (by decide)) U9
attribute [go_sem] Z3 A43
end Go.Proofs.YtgaogcnfijbahaaGreat
