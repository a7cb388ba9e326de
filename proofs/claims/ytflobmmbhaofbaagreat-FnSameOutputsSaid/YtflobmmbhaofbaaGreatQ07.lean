/-
  Texts of this claim, joined (part 7). No condition beyond those of the theorems.
-/
import Derived.Test.YtflobmmbhaofbaaGreatQ06
namespace Go.Proofs.YtflobmmbhaofbaaGreat
open Go.RowKit
set_option linter.unusedSimpArgs false
set_option linter.unusedVariables false
set_option maxRecDepth 100000
set_option maxHeartbeats 1000000
def A0E:Con:=⟨[.ptr (.prod (.int .i64) (.prod (.int .i64) (.prod (.int .i64) (.row 2 (.int .i64)))))],[⟨(.row 2 (.int .i64)),true⟩],fun x=>B6s x.1,fun x=>O2 x.1⟩
theorem B2i:D4 Tryz.prog 70 A0E:=by
  refine A7 Tryz.func70 rfl ?_
  have hres:Tryz.f70.results.toList=[.tmp 2]:=rfl
  rintro⟨⟨(kd:Int),(a:Int),(bb:Int),(fr:List Int)⟩,_⟩ hc hL
  simp only[A0E,go_sem] at hL
  simp only[A0E,St.init,St.initG,Tryz.ntmps70,go_sem] 
  obtain⟨h1,h2,h3,h4⟩:=B3t (show B6s (kd,a,bb,fr) from hc)
  refine oS fun _ hK1=>?_;refine oW C4 ?_;simp only[go_sem];repeat(with_reducible first|refine oA ?_|refine And.intro (by first|exact E0.2 (by omega)|decide) ?_)
  refine hK1 _ ?_;refine oS fun _ hK2=>?_;refine oS fun _ hK3=>?_;refine oW C4 ?_;simp only[go_sem];repeat(with_reducible first|refine oA ?_|refine And.intro (by first|exact E0.2 (by omega)|decide) ?_)
  refine hK3 _ ?_;refine A5 ?_;refine oS fun _ hK4=>?_;refine oW C4 ?_;simp only[go_sem];repeat(with_reducible first|refine oA ?_|refine And.intro (by first|exact E0.2 (by omega)|decide) ?_)
  refine hK4 _ ?_;refine oC rfl ?_ ?_
  ·
   intro c0;refine oS fun _ hK5=>?_;refine oW C4 ?_;simp (maxSteps:=2000000)only[go_sem];repeat(with_reducible first|refine oA ?_|refine And.intro (by first|exact E0.2 (by omega)|decide) ?_)
   refine hK5 _ ?_;refine A2 ?_;simp only[hres,go_sem];first|exact oF|(refine⟨?_,oF⟩;first|(have e:kd=6:=(by assumption);subst e;rfl)|(exfalso;omega)|exact(H8 (by omega) (by omega) (by omega) (by omega) (by omega) (by omega) (by omega)).symm)
  intro c0;refine oS fun _ hK6=>?_;refine oW C4 ?_;simp only[go_sem];repeat(with_reducible first|refine oA ?_|refine And.intro (by first|exact E0.2 (by omega)|decide) ?_)
  refine hK6 _ ?_;refine oC rfl ?_ ?_
  ·
   intro c1;refine oS fun _ hK7=>?_;refine oW C4 ?_;simp (maxSteps:=2000000)only[go_sem];repeat(with_reducible first|refine oA ?_|refine And.intro (by first|exact E0.2 (by omega)|decide) ?_)
   refine hK7 _ ?_;refine A2 ?_;simp only[hres,go_sem];first|exact oF|(refine⟨?_,oF⟩;first|(have e:kd=17:=(by assumption);subst e;rfl)|(exfalso;omega)|exact(H8 (by omega) (by omega) (by omega) (by omega) (by omega) (by omega) (by omega)).symm)
  intro c1;refine oS fun _ hK8=>?_;refine oS fun _ hK9=>?_;refine oW C4 ?_;simp only[go_sem];repeat(with_reducible first|refine oA ?_|refine And.intro (by first|exact E0.2 (by omega)|decide) ?_)
  refine hK9 _ ?_;refine oC rfl ?_ ?_
  ·
   intro c2;refine A3 ?_;simp only[go_sem];refine hK8 _ ?_;refine oC rfl ?_ ?_
   ·
    intro c4;refine oS fun _ hK10=>?_;refine oW C4 ?_;simp only[List.nodup_nil,go_sem];repeat(with_reducible first|refine oA ?_|refine And.intro (by first|exact E0.2 (by omega)|decide) ?_)
    refine hK10 _ ?_;refine A2 ?_;simp only[hres,go_sem];first|exact oF|(refine⟨?_,oF⟩;first|(have e:kd=7:=(by assumption);subst e;rfl)|(exfalso;omega)|exact(H8 (by omega) (by omega) (by omega) (by omega) (by omega) (by omega) (by omega)).symm)
   intro c4;refine oS fun _ hK11=>?_;refine oS fun _ hK12=>?_;refine oW C4 ?_;simp only[go_sem];repeat(with_reducible first|refine oA ?_|refine And.intro (by first|exact E0.2 (by omega)|decide) ?_)
   refine hK12 _ ?_;refine oC rfl ?_ ?_
   ·
    intro c5;refine A3 ?_;simp only[go_sem];refine hK11 _ ?_;refine oC rfl ?_ ?_
    ·
     intro c6;refine oS fun _ hK13=>?_;refine oW C4 ?_;simp (maxSteps:=2000000)only[List.nodup_nil,go_sem];repeat(with_reducible first|refine oA ?_|refine And.intro (by first|exact E0.2 (by omega)|decide) ?_)
     refine hK13 _ ?_;refine A2 ?_;simp only[hres,go_sem];first|exact oF|(refine⟨?_,oF⟩;first|(have e:kd=12:=(by assumption);subst e;rfl)|(exfalso;omega)|exact(H8 (by omega) (by omega) (by omega) (by omega) (by omega) (by omega) (by omega)).symm)
    intro c6;refine A3 ?_;simp only[go_sem];refine hK2 _ ?_;refine oS fun _ hK14=>?_;refine oW C4 ?_;simp only[List.nodup_nil,go_sem];repeat(with_reducible first|refine oA ?_|refine And.intro (by first|exact E0.2 (by omega)|decide) ?_)
    refine hK14 _ ?_;refine A2 ?_;simp only[hres,go_sem];first|exact oF|(refine⟨?_,oF⟩;first|(have e:kd=12:=(by assumption);subst e;rfl)|(exfalso;omega)|exact(H8 (by omega) (by omega) (by omega) (by omega) (by omega) (by omega) (by omega)).symm)
   intro c5;refine oW C4 ?_;simp only[go_sem];repeat(with_reducible first|refine oA ?_|refine And.intro (by first|exact E0.2 (by omega)|decide) ?_)
   refine hK11 _ ?_;refine oC rfl ?_ ?_
   ·
    intro c6;refine oS fun _ hK15=>?_;refine oW C4 ?_;simp (maxSteps:=2000000)only[List.nodup_nil,go_sem];repeat(with_reducible first|refine oA ?_|refine And.intro (by first|exact E0.2 (by omega)|decide) ?_)
    refine hK15 _ ?_;refine A2 ?_;simp only[hres,go_sem];first|exact oF|(refine⟨?_,oF⟩;first|(have e:kd=14:=(by assumption);subst e;rfl)|(exfalso;omega)|exact(H8 (by omega) (by omega) (by omega) (by omega) (by omega) (by omega) (by omega)).symm)
   intro c6;refine A3 ?_;simp only[go_sem];refine hK2 _ ?_;refine oS fun _ hK16=>?_;refine oW C4 ?_;simp only[List.nodup_nil,go_sem];repeat(with_reducible first|refine oA ?_|refine And.intro (by first|exact E0.2 (by omega)|decide) ?_)
   refine hK16 _ ?_;refine A2 ?_;simp only[hres,go_sem];first|exact oF|(refine⟨?_,oF⟩;first|(have e:kd=7:=(by assumption);subst e;rfl)|(exfalso;omega)|exact(H8 (by omega) (by omega) (by omega) (by omega) (by omega) (by omega) (by omega)).symm)
  intro c2;refine oS fun _ hK17=>?_;refine oW C4 ?_;simp only[go_sem];repeat(with_reducible first|refine oA ?_|refine And.intro (by first|exact E0.2 (by omega)|decide) ?_)
  refine hK17 _ ?_;refine oC rfl ?_ ?_
  ·
   intro c3;refine A3 ?_;simp only[go_sem];refine hK8 _ ?_;refine oC rfl ?_ ?_
   ·
    intro c4;refine oS fun _ hK18=>?_;refine oW C4 ?_;simp only[List.nodup_nil,go_sem];repeat(with_reducible first|refine oA ?_|refine And.intro (by first|exact E0.2 (by omega)|decide) ?_)
    refine hK18 _ ?_;refine A2 ?_;simp only[hres,go_sem];first|exact oF|(refine⟨?_,oF⟩;first|(have e:kd=8:=(by assumption);subst e;rfl)|(exfalso;omega)|exact(H8 (by omega) (by omega) (by omega) (by omega) (by omega) (by omega) (by omega)).symm)
   intro c4;refine oS fun _ hK19=>?_;refine oS fun _ hK20=>?_;refine oW C4 ?_;simp only[go_sem];repeat(with_reducible first|refine oA ?_|refine And.intro (by first|exact E0.2 (by omega)|decide) ?_)
   refine hK20 _ ?_;refine oC rfl ?_ ?_
   ·
    intro c5;refine A3 ?_;simp only[go_sem];refine hK19 _ ?_;refine oC rfl ?_ ?_
    ·
     intro c6;refine oS fun _ hK21=>?_;refine oW C4 ?_;simp (maxSteps:=2000000)only[List.nodup_nil,go_sem];repeat(with_reducible first|refine oA ?_|refine And.intro (by first|exact E0.2 (by omega)|decide) ?_)
     refine hK21 _ ?_;refine A2 ?_;simp only[hres,go_sem];first|exact oF|(refine⟨?_,oF⟩;first|(have e:kd=12:=(by assumption);subst e;rfl)|(exfalso;omega)|exact(H8 (by omega) (by omega) (by omega) (by omega) (by omega) (by omega) (by omega)).symm)
    intro c6;refine A3 ?_;simp only[go_sem];refine hK2 _ ?_;refine oS fun _ hK22=>?_;refine oW C4 ?_;simp only[List.nodup_nil,go_sem];repeat(with_reducible first|refine oA ?_|refine And.intro (by first|exact E0.2 (by omega)|decide) ?_)
    refine hK22 _ ?_;refine A2 ?_;simp only[hres,go_sem];first|exact oF|(refine⟨?_,oF⟩;first|(have e:kd=12:=(by assumption);subst e;rfl)|(exfalso;omega)|exact(H8 (by omega) (by omega) (by omega) (by omega) (by omega) (by omega) (by omega)).symm)
   intro c5;refine oW C4 ?_;simp only[go_sem];repeat(with_reducible first|refine oA ?_|refine And.intro (by first|exact E0.2 (by omega)|decide) ?_)
   refine hK19 _ ?_;refine oC rfl ?_ ?_
   ·
    intro c6;refine oS fun _ hK23=>?_;refine oW C4 ?_;simp (maxSteps:=2000000)only[List.nodup_nil,go_sem];repeat(with_reducible first|refine oA ?_|refine And.intro (by first|exact E0.2 (by omega)|decide) ?_)
    refine hK23 _ ?_;refine A2 ?_;simp only[hres,go_sem];first|exact oF|(refine⟨?_,oF⟩;first|(have e:kd=14:=(by assumption);subst e;rfl)|(exfalso;omega)|exact(H8 (by omega) (by omega) (by omega) (by omega) (by omega) (by omega) (by omega)).symm)
   intro c6;refine A3 ?_;simp only[go_sem];refine hK2 _ ?_;refine oS fun _ hK24=>?_;refine oW C4 ?_;simp only[List.nodup_nil,go_sem];repeat(with_reducible first|refine oA ?_|refine And.intro (by first|exact E0.2 (by omega)|decide) ?_)
   refine hK24 _ ?_;refine A2 ?_;simp only[hres,go_sem];first|exact oF|(refine⟨?_,oF⟩;first|(have e:kd=8:=(by assumption);subst e;rfl)|(exfalso;omega)|exact(H8 (by omega) (by omega) (by omega) (by omega) (by omega) (by omega) (by omega)).symm)
  intro c3;refine oW C4 ?_;simp only[go_sem];repeat(with_reducible first|refine oA ?_|refine And.intro (by first|exact E0.2 (by omega)|decide) ?_)
  refine hK8 _ ?_;refine oC rfl ?_ ?_
  ·
   intro c4;refine oS fun _ hK25=>?_;refine oW C4 ?_;simp only[List.nodup_nil,go_sem];repeat(with_reducible first|refine oA ?_|refine And.intro (by first|exact E0.2 (by omega)|decide) ?_)
   refine hK25 _ ?_;refine A2 ?_;simp only[hres,go_sem];first|exact oF|(refine⟨?_,oF⟩;first|(have e:kd=16:=(by assumption);subst e;rfl)|(exfalso;omega)|exact(H8 (by omega) (by omega) (by omega) (by omega) (by omega) (by omega) (by omega)).symm)
  intro c4;refine oS fun _ hK26=>?_;refine oS fun _ hK27=>?_;refine oW C4 ?_;simp only[go_sem];repeat(with_reducible first|refine oA ?_|refine And.intro (by first|exact E0.2 (by omega)|decide) ?_)
  refine hK27 _ ?_;refine oC rfl ?_ ?_
  ·
   intro c5;refine A3 ?_;simp only[go_sem];refine hK26 _ ?_;refine oC rfl ?_ ?_
   ·
    intro c6;refine oS fun _ hK28=>?_;refine oW C4 ?_;simp (maxSteps:=2000000)only[List.nodup_nil,go_sem];repeat(with_reducible first|refine oA ?_|refine And.intro (by first|exact E0.2 (by omega)|decide) ?_)
    refine hK28 _ ?_;refine A2 ?_;simp only[hres,go_sem];first|exact oF|(refine⟨?_,oF⟩;first|(have e:kd=12:=(by assumption);subst e;rfl)|(exfalso;omega)|exact(H8 (by omega) (by omega) (by omega) (by omega) (by omega) (by omega) (by omega)).symm)
   intro c6;refine A3 ?_;simp only[go_sem];refine hK2 _ ?_;refine oS fun _ hK29=>?_;refine oW C4 ?_;simp only[List.nodup_nil,go_sem];repeat(with_reducible first|refine oA ?_|refine And.intro (by first|exact E0.2 (by omega)|decide) ?_)
   refine hK29 _ ?_;refine A2 ?_;simp only[hres,go_sem];first|exact oF|(refine⟨?_,oF⟩;first|(have e:kd=12:=(by assumption);subst e;rfl)|(exfalso;omega)|exact(H8 (by omega) (by omega) (by omega) (by omega) (by omega) (by omega) (by omega)).symm)
  intro c5;refine oW C4 ?_;simp only[go_sem];repeat(with_reducible first|refine oA ?_|refine And.intro (by first|exact E0.2 (by omega)|decide) ?_)
  refine hK26 _ ?_;refine oC rfl ?_ ?_
  ·
   intro c6;refine oS fun _ hK30=>?_;refine oW C4 ?_;simp (maxSteps:=2000000)only[List.nodup_nil,go_sem];repeat(with_reducible first|refine oA ?_|refine And.intro (by first|exact E0.2 (by omega)|decide) ?_)
   refine hK30 _ ?_;refine A2 ?_;simp only[hres,go_sem];first|exact oF|(refine⟨?_,oF⟩;first|(have e:kd=14:=(by assumption);subst e;rfl)|(exfalso;omega)|exact(H8 (by omega) (by omega) (by omega) (by omega) (by omega) (by omega) (by omega)).symm)
  intro c6;refine A3 ?_;simp only[go_sem];refine hK2 _ ?_;refine oS fun _ hK31=>?_;refine oW C4 ?_;simp only[List.nodup_nil,go_sem];repeat(with_reducible first|refine oA ?_|refine And.intro (by first|exact E0.2 (by omega)|decide) ?_)
  refine hK31 _ ?_;refine A2 ?_;simp only[hres,go_sem];first|exact oF|(refine⟨?_,oF⟩;first|(have e:kd=0:=(by assumption);subst e;rfl)|(exfalso;omega)|exact(H8 (by omega) (by omega) (by omega) (by omega) (by omega) (by omega) (by omega)).symm)
def l4:F8:=fun f=>if f=70 then some (.p A0E) else A0D f
theorem L6:B8 Tryz.prog l4:=F9 B2i (B6 Tryz.func70 rfl (by decide)) C4
attribute [go_sem] l4 A0E
set_option maxRecDepth 100000
set_option maxHeartbeats 1000000
def A1Y:Con:=⟨[.val (.int .i64)],[⟨.int .i64,true⟩],fun _=>True,fun x=>wrap32 x.1⟩
theorem B4U:D4 Tryz.prog 118 A1Y:=by
  refine A7 Tryz.func118 rfl ?_
  have hres:Tryz.f118.results.toList=[.tmp 2]:=rfl
  rintro⟨(x:Int),_⟩ hc hL
  simp only[A1Y,go_sem] at hL
  simp only[A1Y,St.init,St.initG,Tryz.ntmps118,go_sem] 
  have hu:=B58 x
  refine oS fun _ hK1=>?_;refine oW L6 ?_;simp only[go_sem];refine hK1 _ ?_;refine oS fun _ hK2=>?_;refine oW L6 ?_;simp only[C0q,go_sem];refine hK2 _ ?_;refine oS fun _ hK3=>?_;refine oS fun _ hK4=>?_;refine oW L6 ?_;simp only[go_sem];refine hK4 _ ?_;refine oC rfl ?_ ?_
  ·
   intro c0;have hw:IntKind.i64.wrap (uns x - 4294967296)=uns x - 4294967296:=G9 (by omega)
   refine oW L6 ?_;simp only[hw,go_sem];refine hK3 _ ?_;refine oS fun _ hK5=>?_;refine oW L6 ?_;simp only[go_sem];refine hK5 _ ?_;refine A2 ?_;simp only[hres,go_sem];first|exact oF|(refine⟨?_,oF⟩;first|exact B2h c0|exact B2z c0)
  intro c0;refine A3 ?_;simp only[go_sem];refine hK3 _ ?_;refine oS fun _ hK6=>?_;refine oW L6 ?_;simp only[go_sem];refine hK6 _ ?_;refine A2 ?_;simp only[hres,go_sem];first|exact oF|(refine⟨?_,oF⟩;first|exact B2h c0|exact B2z c0)
def A6a:F8:=fun f=>if f=118 then some (.p A1Y) else l4 f
theorem A22:B8 Tryz.prog A6a:=F9 B4U (B6 Tryz.func118 rfl (by decide)) L6
attribute [go_sem] A6a A1Y
def A36:Con:=⟨[.val (.int .i64),.val (.int .i64)],[⟨.int .i64,true⟩],fun _=>True,fun x=>wrap32 (x.1+x.2.1)⟩
theorem B8g:D4 Tryz.prog 114 A36:=by
  refine A7 Tryz.func114 rfl ?_
  have hres:Tryz.f114.results.toList=[.tmp 4]:=rfl
  rintro⟨(x:Int),(y:Int),_⟩ hc hL
  simp only[A36,go_sem] at hL
  simp only[A36,St.init,St.initG,Tryz.ntmps114,go_sem] 
  refine oS fun _ hK1=>?_;refine oW A22 ?_;simp only[go_sem];refine hK1 _ ?_;refine oS fun _ hK2=>?_;refine oW A22 ?_;simp (maxSteps:=2000000)only[go_sem];repeat(with_reducible refine oA ?_)
  refine hK2 _ ?_;refine A2 ?_;simp only[hres,go_sem];first|exact oF|(refine⟨?_,oF⟩;exact C5f x y)
def A8o:F8:=fun f=>if f=114 then some (.p A36) else A6a f
theorem A37:B8 Tryz.prog A8o:=F9 B8g (B6 Tryz.func114 rfl (by decide)) A22
attribute [go_sem] A8o A36
def A2r:Con:=⟨[.val (.int .i64),.val (.int .i64)],[⟨.int .i64,true⟩],fun _=>True,fun x=>wrap32 (x.1 - x.2.1)⟩
theorem B7W:D4 Tryz.prog 115 A2r:=by
  refine A7 Tryz.func115 rfl ?_
  have hres:Tryz.f115.results.toList=[.tmp 4]:=rfl
  rintro⟨(x:Int),(y:Int),_⟩ hc hL
  simp only[A2r,go_sem] at hL
  simp only[A2r,St.init,St.initG,Tryz.ntmps115,go_sem] 
  refine oS fun _ hK1=>?_;refine oW A37 ?_;simp only[go_sem];refine hK1 _ ?_;refine oS fun _ hK2=>?_;refine oW A37 ?_;simp (maxSteps:=2000000)only[go_sem];repeat(with_reducible refine oA ?_)
  refine hK2 _ ?_;refine A2 ?_;simp only[hres,go_sem];first|exact oF|(refine⟨?_,oF⟩;exact C5O x y)
def A96:F8:=fun f=>if f=115 then some (.p A2r) else A8o f
theorem A2p:B8 Tryz.prog A96:=F9 B7W (B6 Tryz.func115 rfl (by decide)) A37
attribute [go_sem] A96 A2r
def A34:Con:=⟨[.val (.int .i64),.val (.int .i64)],[⟨.int .i64,true⟩],fun _=>True,fun x=>wrap32 (x.1 * x.2.1)⟩
theorem B8b:D4 Tryz.prog 104 A34:=by
  refine A7 Tryz.func104 rfl ?_
  have hres:Tryz.f104.results.toList=[.tmp 4]:=rfl
  rintro⟨(x:Int),(y:Int),_⟩ hc hL
  simp only[A34,go_sem] at hL
  simp only[A34,St.init,St.initG,Tryz.ntmps104,go_sem] 
  refine oS fun _ hK1=>?_;refine oW A2p ?_;simp only[go_sem];refine hK1 _ ?_;refine oS fun _ hK2=>?_;refine oW A2p ?_;simp (maxSteps:=2000000)only[go_sem];repeat(with_reducible refine oA ?_)
  refine hK2 _ ?_;refine A2 ?_;simp only[hres,go_sem];first|exact oF|(refine⟨?_,oF⟩;exact C5Y x y)
def A8A:F8:=fun f=>if f=104 then some (.p A34) else A96 f
theorem Z6:B8 Tryz.prog A8A:=F9 B8b (B6 Tryz.func104 rfl (by decide)) A2p
attribute [go_sem] A8A A34
def A0G:Con:=⟨[.val (.int .i64)],[⟨.int .i64,true⟩],fun _=>True,fun x=>A11 x.1⟩
theorem B3c:D4 Tryz.prog 117 A0G:=by
  refine A7 Tryz.func117 rfl ?_
  have hres:Tryz.f117.results.toList=[.tmp 2]:=rfl
  rintro⟨(x:Int),_⟩ hc hL
  simp only[A0G,go_sem] at hL
  simp only[A0G,St.init,St.initG,Tryz.ntmps117,go_sem] 
  have hu:=B58 x
  refine oS fun _ hK1=>?_;refine oW Z6 ?_;simp only[go_sem];repeat(with_reducible first|refine oA ?_|refine And.intro (by first|decide) ?_)
  refine hK1 _ ?_;refine oS fun _ hK2=>?_;refine oW Z6 ?_;simp only[C0q,go_sem];repeat(with_reducible first|refine oA ?_|refine And.intro (by first|decide) ?_)
  refine hK2 _ ?_;refine oS fun _ hK3=>?_;refine oS fun _ hK4=>?_;refine oW Z6 ?_;simp only[C4D,go_sem];repeat(with_reducible first|refine oA ?_|refine And.intro (by first|decide) ?_)
  refine hK4 _ ?_;refine oC rfl ?_ ?_
  ·
   intro c0;refine oS fun _ hK5=>?_;refine oW Z6 ?_;simp (maxSteps:=2000000)only[C0u,C4m,go_sem];repeat(with_reducible first|refine oA ?_|refine And.intro (by first|decide) ?_)
   refine hK5 _ ?_;refine A2 ?_;simp only[hres,go_sem];first|exact oF|(refine⟨?_,oF⟩;first|exact(B2o c0).symm|exact(B2y c0).symm)
  intro c0;refine A3 ?_;simp only[go_sem];refine hK3 _ ?_;refine oS fun _ hK6=>?_;refine oW Z6 ?_;simp only[C0u,go_sem];repeat(with_reducible first|refine oA ?_|refine And.intro (by first|decide) ?_)
  refine hK6 _ ?_;refine A2 ?_;simp only[hres,go_sem];first|exact oF|(refine⟨?_,oF⟩;first|exact(B2o c0).symm|exact(B2y c0).symm)
def A4C:F8:=fun f=>if f=117 then some (.p A0G) else A8A f
theorem A1A:B8 Tryz.prog A4C:=F9 B3c (B6 Tryz.func117 rfl (by decide)) Z6
attribute [go_sem] A4C A0G
def A1E:Con:=⟨[.val ((.row 2 (.int .i64))),.val (.int .i64)],[⟨.int .i64,true⟩],fun x=>1≤x.1.length∧x.1.length≤16,fun x=>B2k x.1 x.2.1⟩
theorem B52:D4 Tryz.prog 116 A1E:=by
  refine A7 Tryz.func116 rfl ?_
  have hres:Tryz.f116.results.toList=[.tmp 4]:=rfl
  rintro⟨(xs:List Int),(x:Int),_⟩ hc hL
  simp only[A1E,go_sem] at hL
  simp only[A1E,St.init,St.initG,Tryz.ntmps116,go_sem] 
  obtain⟨h1,h2⟩:=(show 1≤xs.length∧xs.length≤16 from hc)
  obtain⟨hl1,hl2,hl3,hl4⟩:=C1K (t:=xs) (x:=x) h1 h2
  have hlw:IntKind.i64.wrap ((xs.length:Int) * uns x)=(xs.length:Int) * uns x:=G9 (by omega)
  refine oS fun _ hK1=>?_;refine oW A1A ?_;simp only[go_sem];refine hK1 _ ?_;refine oS fun _ hK2=>?_;refine oW A1A ?_;simp (maxSteps:=2000000)only[C0q,hlw,C2L,go_sem];repeat(with_reducible first|refine oA ?_|refine And.intro (by first|decide) ?_)
  refine hK2 _ ?_;refine A2 ?_;simp only[hres,go_sem];first|exact oF|exact oFr
def A08:F8:=fun f=>if f=116 then some (.p A1E) else A4C f
theorem G3:B8 Tryz.prog A08:=F9 B52 (B6 Tryz.func116 rfl (by decide)) A1A
attribute [go_sem] A08 A1E
end Go.Proofs.YtflobmmbhaofbaaGreat
