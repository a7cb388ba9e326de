/-
  Texts of this claim, joined (part 9). No condition beyond those of the theorems.
-/
import Derived.Test.YtenjbehedcegdaaGreatQ05
import Derived.Test.YtenjbehedcegdaaGreatQ04
namespace Go.Proofs.YtenjbehedcegdaaGreat
open Go.RowKit
set_option linter.unusedSimpArgs false
set_option linter.unusedVariables false
set_option maxRecDepth 100000
set_option maxHeartbeats 1000000
def A6Y:Con:=⟨[.val (.int .i64)],[⟨.int .i64,true⟩],fun _=>True,fun x=>wrap32 x.1⟩
theorem B7f:C8 Tryz.prog 89 A6Y:=by
  refine A4 Tryz.func89 rfl ?_
  have hres:Tryz.f89.results.toList=[.tmp 2]:=rfl
  rintro⟨(x:Int),_⟩ hc hL
  simp only[A6Y,go_sem] at hL
  simp only[A6Y,St.init,St.initG,Tryz.ntmps89,go_sem] 
  refine oS fun _ hK1=>?_;refine oW C4 ?_;simp only[go_sem];refine hK1 _ ?_;refine oS fun _ hK2=>?_;refine oW C4 ?_;simp only[Tryz.underlying21,go_sem];refine hK2 _ ?_;refine A0 ?_;simp only[hres,go_sem];first|exact oF|(refine⟨?_,oF⟩;exact B9v x)
def B28:G4:=fun f=>if f=89 then some (.p A6Y) else m7 f
theorem A3w:B5 Tryz.prog B28:=F8 B7f (B0 Tryz.func89 rfl (by decide)) C4
attribute [go_sem] B28 A6Y
def w4:Con:=⟨[.val (.int .i64)],[⟨.int .i64,true⟩],fun _=>True,fun x=>uns x.1⟩
theorem B0N:C8 Tryz.prog 104 w4:=by
  refine A4 Tryz.func104 rfl ?_
  have hres:Tryz.f104.results.toList=[.tmp 2]:=rfl
  rintro⟨(x:Int),_⟩ hc hL
  simp only[w4,go_sem] at hL
  simp only[w4,St.init,St.initG,Tryz.ntmps104,go_sem] 
  refine oS fun _ hK1=>?_;refine oW A3w ?_;simp only[go_sem];refine hK1 _ ?_;refine oS fun _ hK2=>?_;refine oW A3w ?_;simp only[go_sem];refine hK2 _ ?_;refine A0 ?_;simp only[hres,go_sem];first|exact oF|(refine⟨?_,oF⟩;exact C1F x)
def A2Z:G4:=fun f=>if f=104 then some (.p w4) else B28 f
theorem z8:B5 Tryz.prog A2Z:=F8 B0N (B0 Tryz.func104 rfl (by decide)) A3w
attribute [go_sem] A2Z w4
def A3Q:Con:=⟨[.val (.int .i64)],[⟨.bool,true⟩],fun _=>True,fun x=>decide (x.1 % 2=1)⟩
theorem B6Q:C8 Tryz.prog 105 A3Q:=by
  refine A4 Tryz.func105 rfl ?_
  have hres:Tryz.f105.results.toList=[.tmp 2]:=rfl
  rintro⟨(x:Int),_⟩ hc hL
  simp only[A3Q,go_sem] at hL
  simp only[A3Q,St.init,St.initG,Tryz.ntmps105,go_sem] 
  refine oS fun _ hK1=>?_;refine oW z8 ?_;simp only[go_sem];refine hK1 _ ?_;refine oS fun _ hK2=>?_;refine oW z8 ?_;simp only[go_sem];refine hK2 _ ?_;refine A0 ?_;simp only[hres,go_sem];first|exact oF|(refine⟨?_,oF⟩;exact congrArg (fun z=>decide (z=1)) (B9s x))
def A8C:G4:=fun f=>if f=105 then some (.p A3Q) else A2Z f
theorem V2:B5 Tryz.prog A8C:=F8 B6Q (B0 Tryz.func105 rfl (by decide)) z8
attribute [go_sem] A8C A3Q
def A3i:Con:=⟨[.val (.int .i64)],[⟨.int .i64,true⟩],fun _=>True,fun x=>r8 x.1⟩
theorem B60:C8 Tryz.prog 90 A3i:=by
  refine A4 Tryz.func90 rfl ?_
  have hres:Tryz.f90.results.toList=[.tmp 2]:=rfl
  rintro⟨(x:Int),_⟩ hc hL
  simp only[A3i,go_sem] at hL
  simp only[A3i,St.init,St.initG,Tryz.ntmps90,go_sem] 
  have hu:=A8R x
  have hq:IntKind.i64.wrap (Int.tdiv (uns x) 2)=uns x / 2:=by rw[Int.tdiv_eq_ediv_of_nonneg hu.1];exact H4 (by omega)
  refine oS fun _ hK1=>?_;refine oW V2 ?_;simp only[go_sem];refine hK1 _ ?_;refine oS fun _ hK2=>?_;refine oW V2 ?_;simp only[hq,go_sem];repeat(with_reducible first|refine oA ?_|refine And.intro (by first|decide) ?_)
  refine hK2 _ ?_;refine oS fun _ hK3=>?_;refine oS fun _ hK4=>?_;refine oW V2 ?_;simp only[go_sem];repeat(with_reducible refine oA ?_)
  refine hK4 _ ?_;refine oC rfl ?_ ?_
  ·
   intro c0;refine oW V2 ?_;simp only[C1L,go_sem];refine hK3 _ ?_;refine oS fun _ hK5=>?_;refine oW V2 ?_;simp only[go_sem];repeat(with_reducible refine oA ?_)
   refine hK5 _ ?_;refine A0 ?_;simp only[hres,go_sem];first|exact oF|(refine⟨?_,oF⟩;first|exact(A6I c0).symm|exact(A6x c0).symm)
  intro c0;refine A2 ?_;simp only[go_sem];refine hK3 _ ?_;refine oS fun _ hK6=>?_;refine oW V2 ?_;simp only[go_sem];repeat(with_reducible refine oA ?_)
  refine hK6 _ ?_;refine A0 ?_;simp only[hres,go_sem];first|exact oF|(refine⟨?_,oF⟩;first|exact(A6I c0).symm|exact(A6x c0).symm)
def A8o:G4:=fun f=>if f=90 then some (.p A3i) else A8C f
theorem A2q:B5 Tryz.prog A8o:=F8 B60 (B0 Tryz.func90 rfl (by decide)) V2
attribute [go_sem] A8o A3i
def A3J:Con:=⟨[.val (.int .i64)],[⟨(.row 2 (.int .i64)),true⟩],fun x=>I6 x.1 0 1099511627776=true,fun x=>List.replicate (Int.toNat x.1) 0⟩
theorem B5D:C8 Tryz.prog 27 A3J:=by
  refine A4 Tryz.func27 rfl ?_
  have hres:Tryz.f27.results.toList=[.tmp 2]:=rfl
  rintro⟨(x:Int),_⟩ hc hL
  simp only[A3J,go_sem] at hL
  simp only[A3J,St.init,St.initG,Tryz.ntmps27,go_sem] 
  obtain⟨h1,h2⟩:=B4.1 (show I6 x _ _=true from hc)
  refine oS fun _ hK1=>?_;refine oW A2q ?_;simp only[go_sem];refine hK1 _ ?_;refine oS fun _ hK2=>?_;refine oW A2q ?_;simp only[List.nodup_nil,go_sem];repeat(with_reducible refine oA ?_)
  refine hK2 _ ?_;refine A0 ?_;simp only[hres,go_sem];first|exact oF|exact oFr
def A8t:G4:=fun f=>if f=27 then some (.p A3J) else A8o f
theorem U9:B5 Tryz.prog A8t:=F8 B5D (B0 Tryz.func27 rfl (by decide)) A2q
attribute [go_sem] A8t A3J
def x7:Con:=⟨[.val (.int .i64)],[⟨(.row 2 (.int .i64)),true⟩],fun x=>I6 x.1 0 1099511627776=true,fun x=>List.replicate (Int.toNat x.1) 0⟩
theorem B10:C8 Tryz.prog 76 x7:=by
  refine A4 Tryz.func76 rfl ?_
  have hres:Tryz.f76.results.toList=[.tmp 2]:=rfl
  rintro⟨(x:Int),_⟩ hc hL
  simp only[x7,go_sem] at hL
  simp only[x7,St.init,St.initG,Tryz.ntmps76,go_sem] 
  obtain⟨h1,h2⟩:=B4.1 (show I6 x _ _=true from hc)
  refine oS fun _ hK1=>?_;refine oW U9 ?_;simp only[go_sem];refine hK1 _ ?_;refine oS fun _ hK2=>?_;refine oW U9 ?_;simp only[List.nodup_nil,go_sem];repeat(with_reducible refine oA ?_)
  refine hK2 _ ?_;refine oS fun _ hK3=>?_;refine A3 ?_;refine A8 (ι:={ k:Nat // k≤x.toNat }) (fun k=>⟨[.c (.sc (.int .i64 (x - k.1))),zz,zz,.c (.ow 9001),zz,zz,zz,zz,zz,zz,zz,zz,zz],[(9001,.row 2 (.int .i64) (List.replicate k.1 0) [])]⟩) (fun k=>x.toNat - k.1) ⟨0,by simp⟩ ?_ ?_
  ·
   refine oK ?_;simp (maxSteps:=2000000)only[go_sem];all_goals first|rfl|omega|((repeat' refine And.intro ?_ ?_)<;>first|rfl|omega|simp)
  rintro⟨k,hk⟩ K4 hL4
  have hw:IntKind.i64.wrap (x - (k:Int) - 1)=x - ((k+1:Nat):Int):=by rw[H4 (by omega)];omega
  have hrl:(List.replicate k (0:Int)).length=k:=List.length_replicate
  refine oS fun _ hK5=>?_;refine oS fun _ hK6=>?_;refine oW U9 ?_;simp only[go_sem];refine hK6 _ ?_;refine oC rfl ?_ ?_
  ·
   intro c0;refine A2 ?_;simp only[go_sem];refine hK5 _ ?_;refine oS fun _ hK7=>?_;refine A3 ?_;refine oW U9 ?_;simp only[go_sem];repeat(with_reducible refine oA ?_)
   refine hK7 _ ?_;refine oW U9 ?_;simp only[go_sem];refine hL4 ⟨k+1,by omega⟩ _ (oK ?_) ?_
   ·
    simp (maxSteps:=2000000)only[go_sem];all_goals((repeat' refine And.intro ?_ ?_)<;>first|rfl|exact hw|exact List.replicate_succ'.symm)
   ·
    first|(simp only[];omega)|omega|(simp;omega)
  intro c0;refine B6 ?_;simp only[go_sem];refine hK3 _ ?_;refine oS fun _ hK8=>?_;refine oW U9 ?_;simp only[go_sem];refine hK8 _ ?_;refine A0 ?_;simp only[hres,go_sem];first|exact oF|(refine⟨?_,oF⟩;rw[show x.toNat=k by omega])
def A37:G4:=fun f=>if f=76 then some (.p x7) else A8t f
theorem L2:B5 Tryz.prog A37:=F8 B10 (B0 Tryz.func76 rfl (by decide)) U9
attribute [go_sem] A37 x7
def A1e:Con:=⟨[.val ((.row 2 (.int .i64))),.val ((.row 2 (.int .i64)))],[⟨(.row 2 (.int .i64)),true⟩],fun x=>x.1.length≤1000∧N2 x.2.1.length x.1=true,fun x=>x.1.map (fun q=>x.2.1.getD (Int.toNat q) 0)⟩
theorem B3T:C8 Tryz.prog 32 A1e:=by
  refine A4 Tryz.func32 rfl ?_
  have hres:Tryz.f32.results.toList=[.tmp 4]:=rfl
  rintro⟨(xs:List Int),(vs:List Int),_⟩ hc hL
  simp only[A1e,go_sem] at hL
  obtain⟨lxs,lvs⟩:=hL;simp only[A1e,St.init,St.initG,Tryz.ntmps32,go_sem] 
  obtain⟨h1,h2⟩:=(show xs.length≤1000∧N2 vs.length xs=true from hc)
  refine oS fun _ hK1=>?_;refine oW L2 ?_;simp only[go_sem];refine hK1 _ ?_;refine oS fun _ hK2=>?_;refine oW L2 ?_;simp only[List.nodup_nil,go_sem];repeat(with_reducible refine oA ?_)
  refine hK2 _ ?_;refine oS fun _ hK3=>?_;refine oS fun _ hK4=>?_;refine oW L2 ?_;simp only[go_sem];refine hK4 _ ?_;refine A3 ?_;refine A8 (ι:={ k:Nat // k≤xs.length }) (fun k=>⟨[zz,.c (.rd [] 2 (.int .i64) (vs)),zz,zz,zz,.c (.ow 9001),zz,zz,zz,.c (.rd [] 2 (.int .i64) (xs)),.c (.sc (.int .i64 (xs.length))),.c (.sc (.int .i64 (k.1))),zz,zz,zz,zz,zz,zz,zz,zz,zz,zz,zz,zz],[(9001,.row 2 (.int .i64) ((xs.take k.1).map (fun q=>vs.getD (Int.toNat q) 0)) [])]⟩) (fun k=>xs.length - k.1) ⟨0,by simp⟩ ?_ ?_
  ·
   refine oK ?_;simp (maxSteps:=2000000)only[go_sem];all_goals first|rfl|((repeat' refine And.intro ?_ ?_)<;>first|rfl|simp)
  rintro⟨k,hk⟩ K5 hL5
  have hml:((xs.take k).map (fun q=>vs.getD (Int.toNat q) 0)).length≤1000:=by rw[List.length_map,List.length_take];omega
  have hix:k < xs.length→0≤xs.getD k 0∧xs.getD k 0≤vs.length - 1:=fun h=>O1 h2 (C6 h)
  refine oS fun _ hK6=>?_;refine oW L2 ?_;simp only[go_sem];refine hK6 _ ?_;refine oS fun _ hK7=>?_;refine oC rfl ?_ ?_
  ·
   intro c0;obtain⟨hi1,hi2⟩:=hix (by omega)
   refine A2 ?_;simp only[go_sem];refine hK7 _ ?_;refine oS fun _ hK8=>?_;refine A3 ?_;refine oS fun _ hK9=>?_;refine oW L2 ?_;simp only[go_sem];repeat(with_reducible refine oA ?_)
   refine hK9 _ ?_;refine oW L2 ?_;simp (maxSteps:=2000000)only[go_sem];repeat(with_reducible refine oA ?_)
   refine hK8 _ ?_;refine oW L2 ?_;simp only[go_sem];refine hL5 ⟨k+1,by omega⟩ _ (oK ?_) ?_
   ·
    simp (maxSteps:=2000000)only[go_sem];all_goals((repeat' refine And.intro ?_ ?_)<;>first|rfl|exact wk (by omega)|exact A4O (0:Int) (by omega))
   ·
    first|(simp only[];omega)|omega|(simp;omega)
  intro c0;refine B6 ?_;simp only[go_sem];refine hK3 _ ?_;refine oS fun _ hK10=>?_;refine oW L2 ?_;simp only[go_sem];refine hK10 _ ?_;refine A0 ?_;simp only[hres,go_sem];first|exact oF|(refine⟨?_,oF⟩;exact congrArg (List.map _) (List.take_of_length_le (by omega)))
def A6k:G4:=fun f=>if f=32 then some (.p A1e) else A37 f
theorem Q6:B5 Tryz.prog A6k:=F8 B3T (B0 Tryz.func32 rfl (by decide)) L2
attribute [go_sem] A6k A1e
def A1K:Con:=⟨[.val ((.row 2 (.int .i64))),.val ((.row 2 (.int .i64)))],[⟨(.row 2 (.int .i64)),true⟩],fun x=>x.1.length≤1000∧N2 x.2.1.length x.1=true,fun x=>x.1.map (fun q=>x.2.1.getD (Int.toNat q) 0)⟩
theorem B4O:C8 Tryz.prog 111 A1K:=by
  refine A4 Tryz.func111 rfl ?_
  have hres:Tryz.f111.results.toList=[.tmp 4]:=rfl
  rintro⟨(xs:List Int),(vs:List Int),_⟩ hc hL
  simp only[A1K,go_sem] at hL
  obtain⟨lxs,lvs⟩:=hL;simp only[A1K,St.init,St.initG,Tryz.ntmps111,go_sem] 
  obtain⟨h1,h2⟩:=(show xs.length≤1000∧N2 vs.length xs=true from hc)
  refine oS fun _ hK1=>?_;refine oW Q6 ?_;simp only[go_sem];refine hK1 _ ?_;refine oS fun _ hK2=>?_;refine oW Q6 ?_;simp only[List.nodup_nil,go_sem];repeat(with_reducible refine oA ?_)
  refine hK2 _ ?_;refine oS fun _ hK3=>?_;refine oS fun _ hK4=>?_;refine oW Q6 ?_;simp only[go_sem];refine hK4 _ ?_;refine A3 ?_;refine A8 (ι:={ k:Nat // k≤xs.length }) (fun k=>⟨[.c (.rd [] 2 (.int .i64) (xs)),.c (.rd [] 2 (.int .i64) (vs)),zz,zz,zz,.c (.ow 9001),.c (.sc (.int .i64 (k.1))),zz,zz,zz,zz,zz,zz,zz,zz,zz,zz,zz,zz,zz,zz,zz,zz,zz,zz],[(9001,.row 2 (.int .i64) ((xs.take k.1).map (fun q=>vs.getD (Int.toNat q) 0)) [])]⟩) (fun k=>xs.length - k.1) ⟨0,by simp⟩ ?_ ?_
  ·
   refine oK ?_;simp (maxSteps:=2000000)only[go_sem];all_goals first|rfl|((repeat' refine And.intro ?_ ?_)<;>first|rfl|simp)
  rintro⟨k,hk⟩ K5 hL5
  have hml:((xs.take k).map (fun q=>vs.getD (Int.toNat q) 0)).length≤1000:=by rw[List.length_map,List.length_take];omega
  have hix:k < xs.length→0≤xs.getD k 0∧xs.getD k 0≤vs.length - 1:=fun h=>O1 h2 (C6 h)
  refine oS fun _ hK6=>?_;refine oS fun _ hK7=>?_;refine oW Q6 ?_;simp only[go_sem];refine hK7 _ ?_;refine oC rfl ?_ ?_
  ·
   intro c0;obtain⟨hi1,hi2⟩:=hix (by omega)
   refine A2 ?_;simp only[go_sem];refine hK6 _ ?_;refine oS fun _ hK8=>?_;refine A3 ?_;refine oW Q6 ?_;simp (maxSteps:=2000000)only[go_sem];repeat(with_reducible refine oA ?_)
   refine hK8 _ ?_;refine oW Q6 ?_;simp only[go_sem];refine hL5 ⟨k+1,by omega⟩ _ (oK ?_) ?_
   ·
    simp (maxSteps:=2000000)only[go_sem];all_goals((repeat' refine And.intro ?_ ?_)<;>first|rfl|exact wk (by omega)|exact A4O (0:Int) (by omega))
   ·
    first|(simp only[];omega)|omega|(simp;omega)
  intro c0;refine B6 ?_;simp only[go_sem];refine hK3 _ ?_;refine oS fun _ hK9=>?_;refine oW Q6 ?_;simp only[go_sem];refine hK9 _ ?_;refine A0 ?_;simp only[hres,go_sem];first|exact oF|(refine⟨?_,oF⟩;exact congrArg (List.map _) (List.take_of_length_le (by omega)))
def s8:G4:=fun f=>if f=111 then some (.p A1K) else A6k f
theorem A9:B5 Tryz.prog s8:=F8 B4O (B0 Tryz.func111 rfl (by decide)) Q6
attribute [go_sem] s8 A1K
end Go.Proofs.YtenjbehedcegdaaGreat
