/-
  Texts of this claim, joined (part 6). No condition beyond those of the theorems.
-/
import Derived.Test.YtflobmmbhaofbaaGreatQ04
namespace Go.Proofs.YtflobmmbhaofbaaGreat
open Go.RowKit
set_option linter.unusedSimpArgs false
set_option linter.unusedVariables false
set_option maxRecDepth 100000
set_option maxHeartbeats 1000000
def A3A:Con:=⟨[.val (.int .i64),.val (.int .i64),.val (.int .i64)],[⟨.bool,true⟩],fun _=>True,fun x=>O7 x.1 x.2.1 x.2.2.1⟩
theorem B8L:D4 Tryz.prog 83 A3A:=by
  refine A7 Tryz.func83 rfl ?_
  have hres:Tryz.f83.results.toList=[.tmp 6]:=rfl
  rintro⟨(x:Int),(lo:Int),(hi:Int),_⟩ hc hL
  simp only[A3A,go_sem] at hL
  simp only[A3A,St.init,St.initG,Tryz.ntmps83,go_sem] 
  refine oS fun _ hK1=>?_;refine oW A3p ?_;simp only[go_sem];refine hK1 _ ?_;refine oS fun _ hK2=>?_;refine oW A3p ?_;simp (maxSteps:=2000000)only[go_sem];repeat' (with_reducible first|refine oA ?_|refine oT (fun g1=>?_) (fun g1=>?_)|refine oE (fun g1=>?_) (fun g1=>?_))
  all_goals
   refine hK2 _ ?_;refine A2 ?_;simp only[hres,go_sem];first|exact oF|(refine⟨?_,oF⟩;first|rw[O7,decide_eq_true (show lo≤x from g1),Bool.true_and]|rw[O7,decide_eq_false (show ¬lo≤x from g1),Bool.false_and])
def A7k:F8:=fun f=>if f=83 then some (.p A3A) else T0 f
theorem A38:B8 Tryz.prog A7k:=F9 B8L (B6 Tryz.func83 rfl (by decide)) A3p
attribute [go_sem] A7k A3A
def A51:Con:=⟨[.val (.int .i64),.val (.int .i64),.val (.int .i64)],[⟨.bool,true⟩],fun _=>True,fun x=>O7 x.1 x.2.1 x.2.2.1⟩
theorem C0L:D4 Tryz.prog 24 A51:=by
  refine A7 Tryz.func24 rfl ?_
  have hres:Tryz.f24.results.toList=[.tmp 6]:=rfl
  rintro⟨(x:Int),(lo:Int),(hi:Int),_⟩ hc hL
  simp only[A51,go_sem] at hL
  simp only[A51,St.init,St.initG,Tryz.ntmps24,go_sem] 
  refine oS fun _ hK1=>?_;refine oW A38 ?_;simp only[go_sem];refine hK1 _ ?_;refine oS fun _ hK2=>?_;refine oW A38 ?_;simp (maxSteps:=2000000)only[go_sem];repeat' (with_reducible first|refine oA ?_|refine oT (fun g1=>?_) (fun g1=>?_)|refine oE (fun g1=>?_) (fun g1=>?_))
  all_goals
   refine hK2 _ ?_;refine A2 ?_;simp only[hres,go_sem];first|exact oF|(refine⟨?_,oF⟩;first|rw[O7,decide_eq_true (show lo≤x from g1),Bool.true_and]|rw[O7,decide_eq_false (show ¬lo≤x from g1),Bool.false_and])
def B1y:F8:=fun f=>if f=24 then some (.p A51) else A7k f
theorem A4J:B8 Tryz.prog B1y:=F9 C0L (B6 Tryz.func24 rfl (by decide)) A38
attribute [go_sem] B1y A51
def A0e:Con:=⟨[.val (.int .i64)],[⟨.bool,true⟩],fun _=>True,fun x=>smp x.1⟩
theorem B3o:D4 Tryz.prog 125 A0e:=by
  refine A7 Tryz.func125 rfl ?_
  have hres:Tryz.f125.results.toList=[.tmp 2]:=rfl
  rintro⟨(x:Int),_⟩ hc hL
  simp only[A0e,go_sem] at hL
  simp only[A0e,St.init,St.initG,Tryz.ntmps125,go_sem] 
  refine oS fun _ hK1=>?_;refine oW A4J ?_;simp only[go_sem];refine hK1 _ ?_;refine oS fun _ hK2=>?_;refine oW A4J ?_;simp only[go_sem];repeat(with_reducible refine oA ?_)
  refine hK2 _ ?_;refine A2 ?_;simp only[hres,go_sem];first|exact oF|exact oFr
def A46:F8:=fun f=>if f=125 then some (.p A0e) else B1y f
theorem A13:B8 Tryz.prog A46:=F9 B3o (B6 Tryz.func125 rfl (by decide)) A4J
attribute [go_sem] A46 A0e
def r9:Con:=⟨[.val (.int .i64)],[⟨.bool,true⟩],fun _=>True,fun x=>smp x.1⟩
theorem B11:D4 Tryz.prog 69 r9:=by
  refine A7 Tryz.func69 rfl ?_
  have hres:Tryz.f69.results.toList=[.tmp 2]:=rfl
  rintro⟨(x:Int),_⟩ hc hL
  simp only[r9,go_sem] at hL
  simp only[r9,St.init,St.initG,Tryz.ntmps69,go_sem] 
  refine oS fun _ hK1=>?_;refine oW A13 ?_;simp only[go_sem];refine hK1 _ ?_;refine oS fun _ hK2=>?_;refine oW A13 ?_;simp only[go_sem];repeat(with_reducible refine oA ?_)
  refine hK2 _ ?_;refine A2 ?_;simp only[hres,go_sem];first|exact oF|exact oFr
def A2m:F8:=fun f=>if f=69 then some (.p r9) else A46 f
theorem L9:B8 Tryz.prog A2m:=F9 B11 (B6 Tryz.func69 rfl (by decide)) A13
attribute [go_sem] A2m r9
def a9:Con:=⟨[.val ((.row 2 (.int .i64)))],[⟨.bool,true⟩],fun _=>True,fun x=>S8 x.1⟩
theorem A9m:D4 Tryz.prog 106 a9:=by
  refine A7 Tryz.func106 rfl ?_
  have hres:Tryz.f106.results.toList=[.tmp 2]:=rfl
  rintro⟨(xs:List Int),_⟩ hc hL
  simp only[a9,go_sem] at hL
  simp only[a9,St.init,St.initG,Tryz.ntmps106,go_sem] 
  refine oS fun _ hK1=>?_;refine oW L9 ?_;simp only[go_sem];refine hK1 _ ?_;refine oS fun _ hK2=>?_;refine oS fun _ hK3=>?_;refine oW L9 ?_;simp only[go_sem];refine hK3 _ ?_;refine A5 ?_;refine B4 (ι:={ k:Nat // k≤xs.length∧(xs.take k).all smp=true }) (fun k=>⟨[zz,zz,zz,zz,zz,.c (.rd [] 2 (.int .i64) (xs)),.c (.sc (.int .i64 (xs.length))),.c (.sc (.int .i64 (k.1))),zz,zz,zz,zz,zz,zz,zz],[]⟩) (fun k=>xs.length - k.1) ⟨0,by simp⟩ ?_ ?_
  ·
   refine oK ?_;simp (maxSteps:=2000000)only[go_sem];all_goals(first|rfl|((repeat' refine And.intro ?_ ?_)<;>first|rfl|simp))
  rintro⟨k,hk,hp⟩ K4 hL4
  refine oS fun _ hK5=>?_;refine oW L9 ?_;simp only[go_sem];refine hK5 _ ?_;refine oS fun _ hK6=>?_;refine oC rfl ?_ ?_
  ·
   intro c0;refine A3 ?_;simp only[go_sem];refine hK6 _ ?_;refine oS fun _ hK7=>?_;refine A5 ?_;refine oS fun _ hK8=>?_;refine oW L9 ?_;simp only[go_sem];repeat(with_reducible refine oA ?_)
   refine hK8 _ ?_;refine oS fun _ hK9=>?_;refine oW L9 ?_;simp only[go_sem];repeat(with_reducible refine oA ?_)
   refine hK9 _ ?_;refine oC rfl ?_ ?_
   ·
    intro c1;refine oS fun _ hK10=>?_;refine oW L9 ?_;simp only[go_sem];refine hK10 _ ?_;refine A2 ?_;simp only[hres,go_sem];first|exact oF|(refine⟨?_,oF⟩;exact(W7 (k:=k) (d:=0) (by omega) (by first|assumption|(clear hp;clear hK1 hK2 hK3 hL4 hK5 hK6 hK7 hK8 hK9 hK10;simp_all))).symm)
   intro c1;refine A3 ?_;simp only[go_sem];refine hK7 _ ?_;refine oW L9 ?_;simp only[go_sem];refine hL4 ⟨k+1,by omega,Q8 (d:=0) (by omega) hp (by first|assumption|(clear hK1 hK2 hK3 hL4 hK5 hK6 hK7 hK8 hK9;simp_all))⟩ _ (oK ?_) ?_
   ·
    simp (maxSteps:=2000000)only[go_sem];first|rfl|exact wk (by omega)
   ·
    first|(simp only[];omega)|omega|(simp;omega)
  intro c0;refine C2 ?_;simp only[go_sem];refine hK2 _ ?_;refine oS fun _ hK11=>?_;refine oW L9 ?_;simp only[go_sem];refine hK11 _ ?_;refine A2 ?_;simp only[hres,go_sem];first|exact oF|(refine⟨?_,oF⟩;exact(P2 hp (by omega)).symm)
def A24:F8:=fun f=>if f=106 then some (.p a9) else A2m f
theorem x6:B8 Tryz.prog A24:=F9 A9m (B6 Tryz.func106 rfl (by decide)) L9
attribute [go_sem] A24 a9
def A5F:Con:=⟨[.val ((.row 2 (.int .i64)))],[⟨.int .i64,true⟩],fun _=>True,fun x=>(x.1.length:Int)⟩
theorem C0K:D4 Tryz.prog 85 A5F:=by
  refine A7 Tryz.func85 rfl ?_
  have hres:Tryz.f85.results.toList=[.tmp 2]:=rfl
  rintro⟨xs,_⟩ hc hL
  simp only[A5F,go_sem] at hL
  simp only[A5F,St.init,St.initG,Tryz.ntmps85,go_sem] 
  refine oS fun _ hK1=>?_;refine oW x6 ?_;simp only[go_sem];refine hK1 _ ?_;refine oS fun _ hK2=>?_;refine oW x6 ?_;simp only[go_sem];refine hK2 _ ?_;refine A2 ?_;simp only[hres,go_sem];first|exact oF|exact oFr
def B2F:F8:=fun f=>if f=85 then some (.p A5F) else A24 f
theorem A42:B8 Tryz.prog B2F:=F9 C0K (B6 Tryz.func85 rfl (by decide)) x6
attribute [go_sem] B2F A5F
def A5E:Con:=⟨[.val ((.row 56 (.prod (.int .i64) (.prod (.int .i64) (.prod (.int .i64) (.row 2 (.int .i64)))))))],[⟨.int .i64,true⟩],fun _=>True,fun x=>(x.1.length:Int)⟩
theorem B9p:D4 Tryz.prog 32 A5E:=by
  refine A7 Tryz.func32 rfl ?_
  have hres:Tryz.f32.results.toList=[.tmp 2]:=rfl
  rintro⟨xs,_⟩ hc hL
  simp only[A5E,go_sem] at hL
  simp only[A5E,St.init,St.initG,Tryz.ntmps32,go_sem] 
  refine oS fun _ hK1=>?_;refine oW A42 ?_;simp only[go_sem];refine hK1 _ ?_;refine oS fun _ hK2=>?_;refine oW A42 ?_;simp only[go_sem];refine hK2 _ ?_;refine A2 ?_;simp only[hres,go_sem];first|exact oF|exact oFr
def B2J:F8:=fun f=>if f=32 then some (.p A5E) else B2F f
theorem A4G:B8 Tryz.prog B2J:=F9 B9p (B6 Tryz.func32 rfl (by decide)) A42
attribute [go_sem] B2J A5E
def A4q:Con:=⟨[.val ((.row 26 (.row 2 (.int .i64))))],[⟨.int .i64,true⟩],fun _=>True,fun x=>(x.1.length:Int)⟩
theorem C03:D4 Tryz.prog 33 A4q:=by
  refine A7 Tryz.func33 rfl ?_
  have hres:Tryz.f33.results.toList=[.tmp 2]:=rfl
  rintro⟨xs,_⟩ hc hL
  simp only[A4q,go_sem] at hL
  simp only[A4q,St.init,St.initG,Tryz.ntmps33,go_sem] 
  refine oS fun _ hK1=>?_;refine oW A4G ?_;simp only[go_sem];refine hK1 _ ?_;refine oS fun _ hK2=>?_;refine oW A4G ?_;simp only[go_sem];refine hK2 _ ?_;refine A2 ?_;simp only[hres,go_sem];first|exact oF|exact oFr
def B1a:F8:=fun f=>if f=33 then some (.p A4q) else B2J f
theorem A4D:B8 Tryz.prog B1a:=F9 C03 (B6 Tryz.func33 rfl (by decide)) A4G
attribute [go_sem] B1a A4q
def A39:Con:=⟨[.val (.int .i64)],[⟨.bool,true⟩],fun _=>True,fun x=>O7 x.1 1 17⟩
theorem B88:D4 Tryz.prog 107 A39:=by
  refine A7 Tryz.func107 rfl ?_
  have hres:Tryz.f107.results.toList=[.tmp 2]:=rfl
  rintro⟨(x:Int),_⟩ hc hL
  simp only[A39,go_sem] at hL
  simp only[A39,St.init,St.initG,Tryz.ntmps107,go_sem] 
  refine oS fun _ hK1=>?_;refine oW A4D ?_;simp only[go_sem];refine hK1 _ ?_;refine oS fun _ hK2=>?_;refine oW A4D ?_;simp only[go_sem];repeat(with_reducible refine oA ?_)
  refine hK2 _ ?_;refine A2 ?_;simp only[hres,go_sem];first|exact oF|exact oFr
def A7r:F8:=fun f=>if f=107 then some (.p A39) else B1a f
theorem A3H:B8 Tryz.prog A7r:=F9 B88 (B6 Tryz.func107 rfl (by decide)) A4D
attribute [go_sem] A7r A39
def A8S:Con:=⟨[.val ((.prod (.str) (.prod (.int .i64) (.prod (.int .i64) (.prod (.int .i64) (.prod (.bool) (.bool)))))))],[⟨.bool,true⟩],fun _=>True,fun x=>decide (x.1.2.2.1≤x.1.2.2.2.1)⟩
theorem C1c:D4 Tryz.prog 109 A8S:=by
  refine A7 Tryz.func109 rfl ?_
  have hres:Tryz.f109.results.toList=[.tmp 2]:=rfl
  rintro⟨⟨nm,(inp:Int),(lo:Int),(hi:Int),(lin:Bool),(hb:Bool)⟩,_⟩ hc hL
  simp only[A8S,go_sem] at hL
  simp only[A8S,St.init,St.initG,Tryz.ntmps109,go_sem] 
  refine oS fun _ hK1=>?_;refine oW A3H ?_;simp only[go_sem];refine hK1 _ ?_;refine oS fun _ hK2=>?_;refine oW A3H ?_;simp (maxSteps:=2000000)only[go_sem];repeat(with_reducible refine oA ?_)
  refine hK2 _ ?_;refine A2 ?_;simp only[hres,go_sem];first|exact oF|exact oFr
def B5C:F8:=fun f=>if f=109 then some (.p A8S) else A7r f
theorem A64:B8 Tryz.prog B5C:=F9 C1c (B6 Tryz.func109 rfl (by decide)) A3H
attribute [go_sem] B5C A8S
def A4m:Con:=⟨[],[⟨(.row 137 (.prod (.str) (.prod (.int .i64) (.prod (.int .i64) (.prod (.int .i64) (.prod (.bool) (.bool))))))),true⟩],fun _=>True,fun _=>A5p⟩
theorem C0m:D4 Tryz.prog 108 A4m:=by
  refine A7 Tryz.func108 rfl ?_
  have hres:Tryz.f108.results.toList=[.tmp 0]:=rfl
  rintro _ hc hL
  simp only[A4m,go_sem] at hL
  simp only[A4m,St.init,St.initG,Tryz.ntmps108,go_sem] 
  refine oS fun _ hK1=>?_;refine oW A64 ?_;simp only[go_sem];refine hK1 _ ?_;refine oS fun _ hK2=>?_;refine oW A64 ?_;simp (maxSteps:=2000000)only[go_sem];repeat(with_reducible refine oA ?_)
  refine hK2 _ ?_;refine A2 ?_;simp only[hres,go_sem];first|exact oF|exact oFr
def y7:F8:=fun f=>if f=108 then some (.p A4m) else B5C f
theorem D5:B8 Tryz.prog y7:=F9 C0m (B6 Tryz.func108 rfl (by decide)) A64
attribute [go_sem] y7 A4m
set_option maxRecDepth 100000
set_option maxHeartbeats 1000000
def A4l:Con:=⟨[.val (.int .i64)],[⟨(.row 2 (.int .i64)),true⟩],fun x=>O7 x.1 0 1099511627776=true,fun x=>List.replicate (Int.toNat x.1) 0⟩
theorem B91:D4 Tryz.prog 58 A4l:=by
  refine A7 Tryz.func58 rfl ?_
  have hres:Tryz.f58.results.toList=[.tmp 2]:=rfl
  rintro⟨(x:Int),_⟩ hc hL
  simp only[A4l,go_sem] at hL
  simp only[A4l,St.init,St.initG,Tryz.ntmps58,go_sem] 
  obtain⟨h1,h2⟩:=E0.1 (show O7 x _ _=true from hc)
  refine oS fun _ hK1=>?_;refine oW D5 ?_;simp only[go_sem];refine hK1 _ ?_;refine oS fun _ hK2=>?_;refine oW D5 ?_;simp only[List.nodup_nil,go_sem];repeat(with_reducible refine oA ?_)
  refine hK2 _ ?_;refine A2 ?_;simp only[hres,go_sem];first|exact oF|exact oFr
def B0g:F8:=fun f=>if f=58 then some (.p A4l) else y7 f
theorem Z2:B8 Tryz.prog B0g:=F9 B91 (B6 Tryz.func58 rfl (by decide)) D5
attribute [go_sem] B0g A4l
def A0H:Con:=⟨[.val (.int .i64)],[⟨(.row 2 (.int .i64)),true⟩],fun x=>O7 x.1 0 1099511627776=true,fun x=>List.replicate (Int.toNat x.1) 0⟩
theorem B49:D4 Tryz.prog 93 A0H:=by
  refine A7 Tryz.func93 rfl ?_
  have hres:Tryz.f93.results.toList=[.tmp 2]:=rfl
  rintro⟨(x:Int),_⟩ hc hL
  simp only[A0H,go_sem] at hL
  simp only[A0H,St.init,St.initG,Tryz.ntmps93,go_sem] 
  obtain⟨h1,h2⟩:=E0.1 (show O7 x _ _=true from hc)
  refine oS fun _ hK1=>?_;refine oW Z2 ?_;simp only[go_sem];refine hK1 _ ?_;refine oS fun _ hK2=>?_;refine oW Z2 ?_;simp only[List.nodup_nil,go_sem];repeat(with_reducible refine oA ?_)
  refine hK2 _ ?_;refine oS fun _ hK3=>?_;refine A5 ?_;refine B4 (ι:={ k:Nat // k≤x.toNat }) (fun k=>⟨[.c (.sc (.int .i64 (x - k.1))),zz,zz,.c (.ow 9001),zz,zz,zz,zz,zz,zz,zz,zz,zz],[(9001,.row 2 (.int .i64) (List.replicate k.1 0) [])]⟩) (fun k=>x.toNat - k.1) ⟨0,by simp⟩ ?_ ?_
  ·
   refine oK ?_;simp (maxSteps:=2000000)only[go_sem];all_goals first|rfl|omega|((repeat' refine And.intro ?_ ?_)<;>first|rfl|omega|simp)
  rintro⟨k,hk⟩ K4 hL4
  have hw:IntKind.i64.wrap (x - (k:Int) - 1)=x - ((k+1:Nat):Int):=by rw[G9 (by omega)];omega
  have hrl:(List.replicate k (0:Int)).length=k:=List.length_replicate
  refine oS fun _ hK5=>?_;refine oS fun _ hK6=>?_;refine oW Z2 ?_;simp only[go_sem];refine hK6 _ ?_;refine oC rfl ?_ ?_
  ·
   intro c0;refine A3 ?_;simp only[go_sem];refine hK5 _ ?_;refine oS fun _ hK7=>?_;refine A5 ?_;refine oW Z2 ?_;simp only[go_sem];repeat(with_reducible refine oA ?_)
   refine hK7 _ ?_;refine oW Z2 ?_;simp only[go_sem];refine hL4 ⟨k+1,by omega⟩ _ (oK ?_) ?_
   ·
    simp (maxSteps:=2000000)only[go_sem];all_goals((repeat' refine And.intro ?_ ?_)<;>first|rfl|exact hw|exact List.replicate_succ'.symm)
   ·
    first|(simp only[];omega)|omega|(simp;omega)
  intro c0;refine C2 ?_;simp only[go_sem];refine hK3 _ ?_;refine oS fun _ hK8=>?_;refine oW Z2 ?_;simp only[go_sem];refine hK8 _ ?_;refine A2 ?_;simp only[hres,go_sem];first|exact oF|(refine⟨?_,oF⟩;rw[show x.toNat=k by omega])
def A44:F8:=fun f=>if f=93 then some (.p A0H) else B0g f
theorem N2:B8 Tryz.prog A44:=F9 B49 (B6 Tryz.func93 rfl (by decide)) Z2
attribute [go_sem] A44 A0H
def A2d:Con:=⟨[.val ((.row 2 (.int .i64))),.val ((.row 2 (.int .i64)))],[⟨(.row 2 (.int .i64)),true⟩],fun x=>x.1.length≤1000∧J4 x.2.1.length x.1=true,fun x=>x.1.map (fun q=>x.2.1.getD (Int.toNat q) 0)⟩
theorem B7t:D4 Tryz.prog 15 A2d:=by
  refine A7 Tryz.func15 rfl ?_
  have hres:Tryz.f15.results.toList=[.tmp 4]:=rfl
  rintro⟨(xs:List Int),(vs:List Int),_⟩ hc hL
  simp only[A2d,go_sem] at hL
  obtain⟨lxs,lvs⟩:=hL;simp only[A2d,St.init,St.initG,Tryz.ntmps15,go_sem] 
  obtain⟨h1,h2⟩:=(show xs.length≤1000∧J4 vs.length xs=true from hc)
  refine oS fun _ hK1=>?_;refine oW N2 ?_;simp only[go_sem];refine hK1 _ ?_;refine oS fun _ hK2=>?_;refine oW N2 ?_;simp only[List.nodup_nil,go_sem];repeat(with_reducible refine oA ?_)
  refine hK2 _ ?_;refine oS fun _ hK3=>?_;refine oS fun _ hK4=>?_;refine oW N2 ?_;simp only[go_sem];refine hK4 _ ?_;refine A5 ?_;refine B4 (ι:={ k:Nat // k≤xs.length }) (fun k=>⟨[zz,.c (.rd [] 2 (.int .i64) (vs)),zz,zz,zz,.c (.ow 9001),zz,zz,zz,.c (.rd [] 2 (.int .i64) (xs)),.c (.sc (.int .i64 (xs.length))),.c (.sc (.int .i64 (k.1))),zz,zz,zz,zz,zz,zz,zz,zz,zz,zz,zz,zz],[(9001,.row 2 (.int .i64) ((xs.take k.1).map (fun q=>vs.getD (Int.toNat q) 0)) [])]⟩) (fun k=>xs.length - k.1) ⟨0,by simp⟩ ?_ ?_
  ·
   refine oK ?_;simp (maxSteps:=2000000)only[go_sem];all_goals first|rfl|((repeat' refine And.intro ?_ ?_)<;>first|rfl|simp)
  rintro⟨k,hk⟩ K5 hL5
  have hml:((xs.take k).map (fun q=>vs.getD (Int.toNat q) 0)).length≤1000:=by rw[List.length_map,List.length_take];omega
  have hix:k < xs.length→0≤xs.getD k 0∧xs.getD k 0≤vs.length - 1:=fun h=>I5 h2 (B9 h)
  refine oS fun _ hK6=>?_;refine oW N2 ?_;simp only[go_sem];refine hK6 _ ?_;refine oS fun _ hK7=>?_;refine oC rfl ?_ ?_
  ·
   intro c0;obtain⟨hi1,hi2⟩:=hix (by omega)
   refine A3 ?_;simp only[go_sem];refine hK7 _ ?_;refine oS fun _ hK8=>?_;refine A5 ?_;refine oS fun _ hK9=>?_;refine oW N2 ?_;simp only[go_sem];repeat(with_reducible refine oA ?_)
   refine hK9 _ ?_;refine oW N2 ?_;simp (maxSteps:=2000000)only[go_sem];repeat(with_reducible refine oA ?_)
   refine hK8 _ ?_;refine oW N2 ?_;simp only[go_sem];refine hL5 ⟨k+1,by omega⟩ _ (oK ?_) ?_
   ·
    simp (maxSteps:=2000000)only[go_sem];all_goals((repeat' refine And.intro ?_ ?_)<;>first|rfl|exact wk (by omega)|exact A6B (0:Int) (by omega))
   ·
    first|(simp only[];omega)|omega|(simp;omega)
  intro c0;refine C2 ?_;simp only[go_sem];refine hK3 _ ?_;refine oS fun _ hK10=>?_;refine oW N2 ?_;simp only[go_sem];refine hK10 _ ?_;refine A2 ?_;simp only[hres,go_sem];first|exact oF|(refine⟨?_,oF⟩;exact congrArg (List.map _) (List.take_of_length_le (by omega)))
def A7o:F8:=fun f=>if f=15 then some (.p A2d) else A44 f
theorem T6:B8 Tryz.prog A7o:=F9 B7t (B6 Tryz.func15 rfl (by decide)) N2
attribute [go_sem] A7o A2d
def A2g:Con:=⟨[.val ((.row 2 (.int .i64))),.val ((.row 2 (.int .i64)))],[⟨(.row 2 (.int .i64)),true⟩],fun x=>x.1.length≤1000∧J4 x.2.1.length x.1=true,fun x=>x.1.map (fun q=>x.2.1.getD (Int.toNat q) 0)⟩
theorem B7c:D4 Tryz.prog 20 A2g:=by
  refine A7 Tryz.func20 rfl ?_
  have hres:Tryz.f20.results.toList=[.tmp 4]:=rfl
  rintro⟨(xs:List Int),(vs:List Int),_⟩ hc hL
  simp only[A2g,go_sem] at hL
  obtain⟨lxs,lvs⟩:=hL;simp only[A2g,St.init,St.initG,Tryz.ntmps20,go_sem] 
  obtain⟨h1,h2⟩:=(show xs.length≤1000∧J4 vs.length xs=true from hc)
  refine oS fun _ hK1=>?_;refine oW T6 ?_;simp only[go_sem];refine hK1 _ ?_;refine oS fun _ hK2=>?_;refine oW T6 ?_;simp only[List.nodup_nil,go_sem];repeat(with_reducible refine oA ?_)
  refine hK2 _ ?_;refine oS fun _ hK3=>?_;refine oS fun _ hK4=>?_;refine oW T6 ?_;simp only[go_sem];refine hK4 _ ?_;refine A5 ?_;refine B4 (ι:={ k:Nat // k≤xs.length }) (fun k=>⟨[.c (.rd [] 2 (.int .i64) (xs)),.c (.rd [] 2 (.int .i64) (vs)),zz,zz,zz,.c (.ow 9001),.c (.sc (.int .i64 (k.1))),zz,zz,zz,zz,zz,zz,zz,zz,zz,zz,zz,zz,zz,zz,zz,zz,zz,zz],[(9001,.row 2 (.int .i64) ((xs.take k.1).map (fun q=>vs.getD (Int.toNat q) 0)) [])]⟩) (fun k=>xs.length - k.1) ⟨0,by simp⟩ ?_ ?_
  ·
   refine oK ?_;simp (maxSteps:=2000000)only[go_sem];all_goals first|rfl|((repeat' refine And.intro ?_ ?_)<;>first|rfl|simp)
  rintro⟨k,hk⟩ K5 hL5
  have hml:((xs.take k).map (fun q=>vs.getD (Int.toNat q) 0)).length≤1000:=by rw[List.length_map,List.length_take];omega
  have hix:k < xs.length→0≤xs.getD k 0∧xs.getD k 0≤vs.length - 1:=fun h=>I5 h2 (B9 h)
  refine oS fun _ hK6=>?_;refine oS fun _ hK7=>?_;refine oW T6 ?_;simp only[go_sem];refine hK7 _ ?_;refine oC rfl ?_ ?_
  ·
   intro c0;obtain⟨hi1,hi2⟩:=hix (by omega)
   refine A3 ?_;simp only[go_sem];refine hK6 _ ?_;refine oS fun _ hK8=>?_;refine A5 ?_;refine oW T6 ?_;simp (maxSteps:=2000000)only[go_sem];repeat(with_reducible refine oA ?_)
   refine hK8 _ ?_;refine oW T6 ?_;simp only[go_sem];refine hL5 ⟨k+1,by omega⟩ _ (oK ?_) ?_
   ·
    simp (maxSteps:=2000000)only[go_sem];all_goals((repeat' refine And.intro ?_ ?_)<;>first|rfl|exact wk (by omega)|exact A6B (0:Int) (by omega))
   ·
    first|(simp only[];omega)|omega|(simp;omega)
  intro c0;refine C2 ?_;simp only[go_sem];refine hK3 _ ?_;refine oS fun _ hK9=>?_;refine oW T6 ?_;simp only[go_sem];refine hK9 _ ?_;refine A2 ?_;simp only[hres,go_sem];first|exact oF|(refine⟨?_,oF⟩;exact congrArg (List.map _) (List.take_of_length_le (by omega)))
def A0D:F8:=fun f=>if f=20 then some (.p A2g) else A7o f
theorem C4:B8 Tryz.prog A0D:=F9 B7c (B6 Tryz.func20 rfl (by decide)) T6
attribute [go_sem] A0D A2g
end Go.Proofs.YtflobmmbhaofbaaGreat
