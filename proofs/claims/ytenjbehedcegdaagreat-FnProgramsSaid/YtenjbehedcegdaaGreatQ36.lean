/-
  Texts of this claim, joined (part 36). No condition beyond those of the theorems.
-/
import Derived.Test.YtenjbehedcegdaaGreatQ35
namespace Go.Proofs.YtenjbehedcegdaaGreat
open Go.RowKit
set_option linter.unusedSimpArgs false
set_option linter.unusedVariables false
set_option maxRecDepth 100000
set_option maxHeartbeats 1000000
def A0E:Con:=⟨[.val (.int .i64)],[⟨.int .i64,true⟩],fun _=>True,fun x=>wrap32 x.1⟩
theorem B1Z:C8 Tryz.prog 94 A0E:=by
  refine A4 Tryz.func94 rfl ?_
  have hres:Tryz.f94.results.toList=[.tmp 2]:=rfl
  rintro⟨(x:Int),_⟩ hc hL
  simp only[A0E,go_sem] at hL
  simp only[A0E,St.init,St.initG,Tryz.ntmps94,go_sem] 
  have hu:=A8R x
  refine oS fun _ hK1=>?_;refine oW M7 ?_;simp only[go_sem];refine hK1 _ ?_;refine oS fun _ hK2=>?_;refine oW M7 ?_;simp only[B5I,go_sem];refine hK2 _ ?_;refine oS fun _ hK3=>?_;refine oS fun _ hK4=>?_;refine oW M7 ?_;simp only[go_sem];refine hK4 _ ?_;refine oC rfl ?_ ?_
  ·
   intro c0;have hw:IntKind.i64.wrap (uns x - 4294967296)=uns x - 4294967296:=H4 (by omega)
   refine oW M7 ?_;simp only[hw,go_sem];refine hK3 _ ?_;refine oS fun _ hK5=>?_;refine oW M7 ?_;simp only[go_sem];refine hK5 _ ?_;refine A0 ?_;simp only[hres,go_sem];first|exact oF|(refine⟨?_,oF⟩;first|exact B0a c0|exact B0M c0)
  intro c0;refine A2 ?_;simp only[go_sem];refine hK3 _ ?_;refine oS fun _ hK6=>?_;refine oW M7 ?_;simp only[go_sem];refine hK6 _ ?_;refine A0 ?_;simp only[hres,go_sem];first|exact oF|(refine⟨?_,oF⟩;first|exact B0a c0|exact B0M c0)
def A4Z:G4:=fun f=>if f=94 then some (.p A0E) else A0l f
theorem A0y:B5 Tryz.prog A4Z:=F8 B1Z (B0 Tryz.func94 rfl (by decide)) M7
attribute [go_sem] A4Z A0E
def A21:Con:=⟨[.val (.int .i64),.val (.int .i64)],[⟨.int .i64,true⟩],fun _=>True,fun x=>wrap32 (x.1+x.2.1)⟩
theorem B3Z:C8 Tryz.prog 107 A21:=by
  refine A4 Tryz.func107 rfl ?_
  have hres:Tryz.f107.results.toList=[.tmp 4]:=rfl
  rintro⟨(x:Int),(y:Int),_⟩ hc hL
  simp only[A21,go_sem] at hL
  simp only[A21,St.init,St.initG,Tryz.ntmps107,go_sem] 
  refine oS fun _ hK1=>?_;refine oW A0y ?_;simp only[go_sem];refine hK1 _ ?_;refine oS fun _ hK2=>?_;refine oW A0y ?_;simp (maxSteps:=2000000)only[go_sem];repeat(with_reducible refine oA ?_)
  refine hK2 _ ?_;refine A0 ?_;simp only[hres,go_sem];first|exact oF|(refine⟨?_,oF⟩;exact C13 x y)
def A5j:G4:=fun f=>if f=107 then some (.p A21) else A4Z f
theorem A1x:B5 Tryz.prog A5j:=F8 B3Z (B0 Tryz.func107 rfl (by decide)) A0y
attribute [go_sem] A5j A21
def A1w:Con:=⟨[.val (.int .i64),.val (.int .i64)],[⟨.int .i64,true⟩],fun _=>True,fun x=>wrap32 (x.1 - x.2.1)⟩
theorem B3j:C8 Tryz.prog 108 A1w:=by
  refine A4 Tryz.func108 rfl ?_
  have hres:Tryz.f108.results.toList=[.tmp 4]:=rfl
  rintro⟨(x:Int),(y:Int),_⟩ hc hL
  simp only[A1w,go_sem] at hL
  simp only[A1w,St.init,St.initG,Tryz.ntmps108,go_sem] 
  refine oS fun _ hK1=>?_;refine oW A1x ?_;simp only[go_sem];refine hK1 _ ?_;refine oS fun _ hK2=>?_;refine oW A1x ?_;simp (maxSteps:=2000000)only[go_sem];repeat(with_reducible refine oA ?_)
  refine hK2 _ ?_;refine A0 ?_;simp only[hres,go_sem];first|exact oF|(refine⟨?_,oF⟩;exact C15 x y)
def A6K:G4:=fun f=>if f=108 then some (.p A1w) else A5j f
theorem A22:B5 Tryz.prog A6K:=F8 B3j (B0 Tryz.func108 rfl (by decide)) A1x
attribute [go_sem] A6K A1w
def A1g:Con:=⟨[.val (.int .i64),.val (.int .i64)],[⟨.int .i64,true⟩],fun _=>True,fun x=>wrap32 (x.1 * x.2.1)⟩
theorem B3N:C8 Tryz.prog 109 A1g:=by
  refine A4 Tryz.func109 rfl ?_
  have hres:Tryz.f109.results.toList=[.tmp 4]:=rfl
  rintro⟨(x:Int),(y:Int),_⟩ hc hL
  simp only[A1g,go_sem] at hL
  simp only[A1g,St.init,St.initG,Tryz.ntmps109,go_sem] 
  refine oS fun _ hK1=>?_;refine oW A22 ?_;simp only[go_sem];refine hK1 _ ?_;refine oS fun _ hK2=>?_;refine oW A22 ?_;simp (maxSteps:=2000000)only[go_sem];repeat(with_reducible refine oA ?_)
  refine hK2 _ ?_;refine A0 ?_;simp only[hres,go_sem];first|exact oF|(refine⟨?_,oF⟩;exact C1D x y)
def A6y:G4:=fun f=>if f=109 then some (.p A1g) else A6K f
theorem V9:B5 Tryz.prog A6y:=F8 B3N (B0 Tryz.func109 rfl (by decide)) A22
attribute [go_sem] A6y A1g
def w9:Con:=⟨[.val (.int .i64)],[⟨.int .i64,true⟩],fun _=>True,fun x=>r8 x.1⟩
theorem B0u:C8 Tryz.prog 113 w9:=by
  refine A4 Tryz.func113 rfl ?_
  have hres:Tryz.f113.results.toList=[.tmp 2]:=rfl
  rintro⟨(x:Int),_⟩ hc hL
  simp only[w9,go_sem] at hL
  simp only[w9,St.init,St.initG,Tryz.ntmps113,go_sem] 
  have hu:=A8R x
  refine oS fun _ hK1=>?_;refine oW V9 ?_;simp only[go_sem];repeat(with_reducible first|refine oA ?_|refine And.intro (by first|decide) ?_)
  refine hK1 _ ?_;refine oS fun _ hK2=>?_;refine oW V9 ?_;simp only[B5I,go_sem];repeat(with_reducible first|refine oA ?_|refine And.intro (by first|decide) ?_)
  refine hK2 _ ?_;refine oS fun _ hK3=>?_;refine oS fun _ hK4=>?_;refine oW V9 ?_;simp only[B9i,go_sem];repeat(with_reducible first|refine oA ?_|refine And.intro (by first|decide) ?_)
  refine hK4 _ ?_;refine oC rfl ?_ ?_
  ·
   intro c0;refine oS fun _ hK5=>?_;refine oW V9 ?_;simp (maxSteps:=2000000)only[B6e,C0t,go_sem];repeat(with_reducible first|refine oA ?_|refine And.intro (by first|decide) ?_)
   refine hK5 _ ?_;refine A0 ?_;simp only[hres,go_sem];first|exact oF|(refine⟨?_,oF⟩;first|exact(A9e c0).symm|exact(A9n c0).symm)
  intro c0;refine A2 ?_;simp only[go_sem];refine hK3 _ ?_;refine oS fun _ hK6=>?_;refine oW V9 ?_;simp only[B6e,go_sem];repeat(with_reducible first|refine oA ?_|refine And.intro (by first|decide) ?_)
  refine hK6 _ ?_;refine A0 ?_;simp only[hres,go_sem];first|exact oF|(refine⟨?_,oF⟩;first|exact(A9e c0).symm|exact(A9n c0).symm)
def A2j:G4:=fun f=>if f=113 then some (.p w9) else A6y f
theorem A04:B5 Tryz.prog A2j:=F8 B0u (B0 Tryz.func113 rfl (by decide)) V9
attribute [go_sem] A2j w9
def A0d:Con:=⟨[.val ((.row 2 (.int .i64))),.val (.int .i64)],[⟨.int .i64,true⟩],fun x=>1≤x.1.length∧x.1.length≤16,fun x=>B6O x.1 x.2.1⟩
theorem B2C:C8 Tryz.prog 110 A0d:=by
  refine A4 Tryz.func110 rfl ?_
  have hres:Tryz.f110.results.toList=[.tmp 4]:=rfl
  rintro⟨(xs:List Int),(x:Int),_⟩ hc hL
  simp only[A0d,go_sem] at hL
  simp only[A0d,St.init,St.initG,Tryz.ntmps110,go_sem] 
  obtain⟨h1,h2⟩:=(show 1≤xs.length∧xs.length≤16 from hc)
  obtain⟨hl1,hl2,hl3,hl4⟩:=B2T (t:=xs) (x:=x) h1 h2
  have hlw:IntKind.i64.wrap ((xs.length:Int) * uns x)=(xs.length:Int) * uns x:=H4 (by omega)
  refine oS fun _ hK1=>?_;refine oW A04 ?_;simp only[go_sem];refine hK1 _ ?_;refine oS fun _ hK2=>?_;refine oW A04 ?_;simp (maxSteps:=2000000)only[B5I,hlw,B2f,go_sem];repeat(with_reducible first|refine oA ?_|refine And.intro (by first|decide) ?_)
  refine hK2 _ ?_;refine A0 ?_;simp only[hres,go_sem];first|exact oF|exact oFr
def A0J:G4:=fun f=>if f=110 then some (.p A0d) else A2j f
theorem F9:B5 Tryz.prog A0J:=F8 B2C (B0 Tryz.func110 rfl (by decide)) A04
attribute [go_sem] A0J A0d
end Go.Proofs.YtenjbehedcegdaaGreat
