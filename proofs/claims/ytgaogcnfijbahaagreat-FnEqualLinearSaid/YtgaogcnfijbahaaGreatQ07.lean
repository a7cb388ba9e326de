/-
  Texts of this claim, joined (part 7). No condition beyond those of the theorems.
-/
import Derived.Test.YtgaogcnfijbahaaGreatQ06
namespace Go.Proofs.YtgaogcnfijbahaaGreat
open Go.RowKit
set_option linter.unusedSimpArgs false
set_option linter.unusedVariables false
set_option maxRecDepth 100000
set_option maxHeartbeats 1000000
def A14:Con:=⟨[.ptr (.prod (.int .i64) (.prod (.int .i64) (.prod (.int .i64) (.row 2 (.int .i64)))))],[⟨(.row 2 (.int .i64)),true⟩],fun x=>A23 x.1,fun x=>D4 x.1⟩
theorem B5O:C9 Tryz.prog 108 A14:=by
  refine A4 Tryz.func108 rfl ?_
  have hres:Tryz.f108.results.toList=[.tmp 2]:=rfl
  rintro⟨⟨(kd:Int),(a:Int),(bb:Int),(fr:List Int)⟩,_⟩ hc hL
  simp only[A14,go_sem] at hL
  simp only[A14,St.init,St.initG,Tryz.ntmps108,go_sem] 
  obtain⟨h1,h2,h3,h4⟩:=A86 (show A23 (kd,a,bb,fr) from hc)
  refine oS fun _ hK1=>?_;refine oW A5 ?_;simp only[go_sem];repeat(with_reducible first|refine oA ?_|refine And.intro (by first|exact C1.2 (by omega)|decide) ?_)
  refine hK1 _ ?_;refine oS fun _ hK2=>?_;refine oS fun _ hK3=>?_;refine oW A5 ?_;simp only[go_sem];repeat(with_reducible first|refine oA ?_|refine And.intro (by first|exact C1.2 (by omega)|decide) ?_)
  refine hK3 _ ?_;refine A1 ?_;refine oS fun _ hK4=>?_;refine oW A5 ?_;simp only[go_sem];repeat(with_reducible first|refine oA ?_|refine And.intro (by first|exact C1.2 (by omega)|decide) ?_)
  refine hK4 _ ?_;refine oC rfl ?_ ?_
  ·
   intro c0;refine oS fun _ hK5=>?_;refine oW A5 ?_;simp (maxSteps:=2000000)only[go_sem];repeat(with_reducible first|refine oA ?_|refine And.intro (by first|exact C1.2 (by omega)|decide) ?_)
   refine hK5 _ ?_;refine A0 ?_;simp only[hres,go_sem];first|exact oF|(refine⟨?_,oF⟩;first|(have e:kd=6:=(by assumption);subst e;rfl)|(exfalso;omega)|exact(D5 (by omega) (by omega) (by omega) (by omega) (by omega) (by omega) (by omega)).symm)
  intro c0;refine oS fun _ hK6=>?_;refine oW A5 ?_;simp only[go_sem];repeat(with_reducible first|refine oA ?_|refine And.intro (by first|exact C1.2 (by omega)|decide) ?_)
  refine hK6 _ ?_;refine oC rfl ?_ ?_
  ·
   intro c1;refine oS fun _ hK7=>?_;refine oW A5 ?_;simp (maxSteps:=2000000)only[go_sem];repeat(with_reducible first|refine oA ?_|refine And.intro (by first|exact C1.2 (by omega)|decide) ?_)
   refine hK7 _ ?_;refine A0 ?_;simp only[hres,go_sem];first|exact oF|(refine⟨?_,oF⟩;first|(have e:kd=17:=(by assumption);subst e;rfl)|(exfalso;omega)|exact(D5 (by omega) (by omega) (by omega) (by omega) (by omega) (by omega) (by omega)).symm)
  intro c1;refine oS fun _ hK8=>?_;refine oS fun _ hK9=>?_;refine oW A5 ?_;simp only[go_sem];repeat(with_reducible first|refine oA ?_|refine And.intro (by first|exact C1.2 (by omega)|decide) ?_)
  refine hK9 _ ?_;refine oC rfl ?_ ?_
  ·
   intro c2;refine A2 ?_;simp only[go_sem];refine hK8 _ ?_;refine oC rfl ?_ ?_
   ·
    intro c4;refine oS fun _ hK10=>?_;refine oW A5 ?_;simp only[List.nodup_nil,go_sem];repeat(with_reducible first|refine oA ?_|refine And.intro (by first|exact C1.2 (by omega)|decide) ?_)
    refine hK10 _ ?_;refine A0 ?_;simp only[hres,go_sem];first|exact oF|(refine⟨?_,oF⟩;first|(have e:kd=7:=(by assumption);subst e;rfl)|(exfalso;omega)|exact(D5 (by omega) (by omega) (by omega) (by omega) (by omega) (by omega) (by omega)).symm)
   intro c4;refine oS fun _ hK11=>?_;refine oS fun _ hK12=>?_;refine oW A5 ?_;simp only[go_sem];repeat(with_reducible first|refine oA ?_|refine And.intro (by first|exact C1.2 (by omega)|decide) ?_)
   refine hK12 _ ?_;refine oC rfl ?_ ?_
   ·
    intro c5;refine A2 ?_;simp only[go_sem];refine hK11 _ ?_;refine oC rfl ?_ ?_
    ·
     intro c6;refine oS fun _ hK13=>?_;refine oW A5 ?_;simp (maxSteps:=2000000)only[List.nodup_nil,go_sem];repeat(with_reducible first|refine oA ?_|refine And.intro (by first|exact C1.2 (by omega)|decide) ?_)
     refine hK13 _ ?_;refine A0 ?_;simp only[hres,go_sem];first|exact oF|(refine⟨?_,oF⟩;first|(have e:kd=12:=(by assumption);subst e;rfl)|(exfalso;omega)|exact(D5 (by omega) (by omega) (by omega) (by omega) (by omega) (by omega) (by omega)).symm)
    intro c6;refine A2 ?_;simp only[go_sem];refine hK2 _ ?_;refine oS fun _ hK14=>?_;refine oW A5 ?_;simp only[List.nodup_nil,go_sem];repeat(with_reducible first|refine oA ?_|refine And.intro (by first|exact C1.2 (by omega)|decide) ?_)
    refine hK14 _ ?_;refine A0 ?_;simp only[hres,go_sem];first|exact oF|(refine⟨?_,oF⟩;first|(have e:kd=12:=(by assumption);subst e;rfl)|(exfalso;omega)|exact(D5 (by omega) (by omega) (by omega) (by omega) (by omega) (by omega) (by omega)).symm)
   intro c5;refine oW A5 ?_;simp only[go_sem];repeat(with_reducible first|refine oA ?_|refine And.intro (by first|exact C1.2 (by omega)|decide) ?_)
   refine hK11 _ ?_;refine oC rfl ?_ ?_
   ·
    intro c6;refine oS fun _ hK15=>?_;refine oW A5 ?_;simp (maxSteps:=2000000)only[List.nodup_nil,go_sem];repeat(with_reducible first|refine oA ?_|refine And.intro (by first|exact C1.2 (by omega)|decide) ?_)
    refine hK15 _ ?_;refine A0 ?_;simp only[hres,go_sem];first|exact oF|(refine⟨?_,oF⟩;first|(have e:kd=14:=(by assumption);subst e;rfl)|(exfalso;omega)|exact(D5 (by omega) (by omega) (by omega) (by omega) (by omega) (by omega) (by omega)).symm)
   intro c6;refine A2 ?_;simp only[go_sem];refine hK2 _ ?_;refine oS fun _ hK16=>?_;refine oW A5 ?_;simp only[List.nodup_nil,go_sem];repeat(with_reducible first|refine oA ?_|refine And.intro (by first|exact C1.2 (by omega)|decide) ?_)
   refine hK16 _ ?_;refine A0 ?_;simp only[hres,go_sem];first|exact oF|(refine⟨?_,oF⟩;first|(have e:kd=7:=(by assumption);subst e;rfl)|(exfalso;omega)|exact(D5 (by omega) (by omega) (by omega) (by omega) (by omega) (by omega) (by omega)).symm)
  intro c2;refine oS fun _ hK17=>?_;refine oW A5 ?_;simp only[go_sem];repeat(with_reducible first|refine oA ?_|refine And.intro (by first|exact C1.2 (by omega)|decide) ?_)
  refine hK17 _ ?_;refine oC rfl ?_ ?_
  ·
   intro c3;refine A2 ?_;simp only[go_sem];refine hK8 _ ?_;refine oC rfl ?_ ?_
   ·
    intro c4;refine oS fun _ hK18=>?_;refine oW A5 ?_;simp only[List.nodup_nil,go_sem];repeat(with_reducible first|refine oA ?_|refine And.intro (by first|exact C1.2 (by omega)|decide) ?_)
    refine hK18 _ ?_;refine A0 ?_;simp only[hres,go_sem];first|exact oF|(refine⟨?_,oF⟩;first|(have e:kd=8:=(by assumption);subst e;rfl)|(exfalso;omega)|exact(D5 (by omega) (by omega) (by omega) (by omega) (by omega) (by omega) (by omega)).symm)
   intro c4;refine oS fun _ hK19=>?_;refine oS fun _ hK20=>?_;refine oW A5 ?_;simp only[go_sem];repeat(with_reducible first|refine oA ?_|refine And.intro (by first|exact C1.2 (by omega)|decide) ?_)
   refine hK20 _ ?_;refine oC rfl ?_ ?_
   ·
    intro c5;refine A2 ?_;simp only[go_sem];refine hK19 _ ?_;refine oC rfl ?_ ?_
    ·
     intro c6;refine oS fun _ hK21=>?_;refine oW A5 ?_;simp (maxSteps:=2000000)only[List.nodup_nil,go_sem];repeat(with_reducible first|refine oA ?_|refine And.intro (by first|exact C1.2 (by omega)|decide) ?_)
     refine hK21 _ ?_;refine A0 ?_;simp only[hres,go_sem];first|exact oF|(refine⟨?_,oF⟩;first|(have e:kd=12:=(by assumption);subst e;rfl)|(exfalso;omega)|exact(D5 (by omega) (by omega) (by omega) (by omega) (by omega) (by omega) (by omega)).symm)
    intro c6;refine A2 ?_;simp only[go_sem];refine hK2 _ ?_;refine oS fun _ hK22=>?_;refine oW A5 ?_;simp only[List.nodup_nil,go_sem];repeat(with_reducible first|refine oA ?_|refine And.intro (by first|exact C1.2 (by omega)|decide) ?_)
    refine hK22 _ ?_;refine A0 ?_;simp only[hres,go_sem];first|exact oF|(refine⟨?_,oF⟩;first|(have e:kd=12:=(by assumption);subst e;rfl)|(exfalso;omega)|exact(D5 (by omega) (by omega) (by omega) (by omega) (by omega) (by omega) (by omega)).symm)
   intro c5;refine oW A5 ?_;simp only[go_sem];repeat(with_reducible first|refine oA ?_|refine And.intro (by first|exact C1.2 (by omega)|decide) ?_)
   refine hK19 _ ?_;refine oC rfl ?_ ?_
   ·
    intro c6;refine oS fun _ hK23=>?_;refine oW A5 ?_;simp (maxSteps:=2000000)only[List.nodup_nil,go_sem];repeat(with_reducible first|refine oA ?_|refine And.intro (by first|exact C1.2 (by omega)|decide) ?_)
    refine hK23 _ ?_;refine A0 ?_;simp only[hres,go_sem];first|exact oF|(refine⟨?_,oF⟩;first|(have e:kd=14:=(by assumption);subst e;rfl)|(exfalso;omega)|exact(D5 (by omega) (by omega) (by omega) (by omega) (by omega) (by omega) (by omega)).symm)
   intro c6;refine A2 ?_;simp only[go_sem];refine hK2 _ ?_;refine oS fun _ hK24=>?_;refine oW A5 ?_;simp only[List.nodup_nil,go_sem];repeat(with_reducible first|refine oA ?_|refine And.intro (by first|exact C1.2 (by omega)|decide) ?_)
   refine hK24 _ ?_;refine A0 ?_;simp only[hres,go_sem];first|exact oF|(refine⟨?_,oF⟩;first|(have e:kd=8:=(by assumption);subst e;rfl)|(exfalso;omega)|exact(D5 (by omega) (by omega) (by omega) (by omega) (by omega) (by omega) (by omega)).symm)
  intro c3;refine oW A5 ?_;simp only[go_sem];repeat(with_reducible first|refine oA ?_|refine And.intro (by first|exact C1.2 (by omega)|decide) ?_)
  refine hK8 _ ?_;refine oC rfl ?_ ?_
  ·
   intro c4;refine oS fun _ hK25=>?_;refine oW A5 ?_;simp only[List.nodup_nil,go_sem];repeat(with_reducible first|refine oA ?_|refine And.intro (by first|exact C1.2 (by omega)|decide) ?_)
   refine hK25 _ ?_;refine A0 ?_;simp only[hres,go_sem];first|exact oF|(refine⟨?_,oF⟩;first|(have e:kd=16:=(by assumption);subst e;rfl)|(exfalso;omega)|exact(D5 (by omega) (by omega) (by omega) (by omega) (by omega) (by omega) (by omega)).symm)
  intro c4;refine oS fun _ hK26=>?_;refine oS fun _ hK27=>?_;refine oW A5 ?_;simp only[go_sem];repeat(with_reducible first|refine oA ?_|refine And.intro (by first|exact C1.2 (by omega)|decide) ?_)
  refine hK27 _ ?_;refine oC rfl ?_ ?_
  ·
   intro c5;refine A2 ?_;simp only[go_sem];refine hK26 _ ?_;refine oC rfl ?_ ?_
   ·
    intro c6;refine oS fun _ hK28=>?_;refine oW A5 ?_;simp (maxSteps:=2000000)only[List.nodup_nil,go_sem];repeat(with_reducible first|refine oA ?_|refine And.intro (by first|exact C1.2 (by omega)|decide) ?_)
    refine hK28 _ ?_;refine A0 ?_;simp only[hres,go_sem];first|exact oF|(refine⟨?_,oF⟩;first|(have e:kd=12:=(by assumption);subst e;rfl)|(exfalso;omega)|exact(D5 (by omega) (by omega) (by omega) (by omega) (by omega) (by omega) (by omega)).symm)
   intro c6;refine A2 ?_;simp only[go_sem];refine hK2 _ ?_;refine oS fun _ hK29=>?_;refine oW A5 ?_;simp only[List.nodup_nil,go_sem];repeat(with_reducible first|refine oA ?_|refine And.intro (by first|exact C1.2 (by omega)|decide) ?_)
   refine hK29 _ ?_;refine A0 ?_;simp only[hres,go_sem];first|exact oF|(refine⟨?_,oF⟩;first|(have e:kd=12:=(by assumption);subst e;rfl)|(exfalso;omega)|exact(D5 (by omega) (by omega) (by omega) (by omega) (by omega) (by omega) (by omega)).symm)
  intro c5;refine oW A5 ?_;simp only[go_sem];repeat(with_reducible first|refine oA ?_|refine And.intro (by first|exact C1.2 (by omega)|decide) ?_)
  refine hK26 _ ?_;refine oC rfl ?_ ?_
  ·
   intro c6;refine oS fun _ hK30=>?_;refine oW A5 ?_;simp (maxSteps:=2000000)only[List.nodup_nil,go_sem];repeat(with_reducible first|refine oA ?_|refine And.intro (by first|exact C1.2 (by omega)|decide) ?_)
   refine hK30 _ ?_;refine A0 ?_;simp only[hres,go_sem];first|exact oF|(refine⟨?_,oF⟩;first|(have e:kd=14:=(by assumption);subst e;rfl)|(exfalso;omega)|exact(D5 (by omega) (by omega) (by omega) (by omega) (by omega) (by omega) (by omega)).symm)
  intro c6;refine A2 ?_;simp only[go_sem];refine hK2 _ ?_;refine oS fun _ hK31=>?_;refine oW A5 ?_;simp only[List.nodup_nil,go_sem];repeat(with_reducible first|refine oA ?_|refine And.intro (by first|exact C1.2 (by omega)|decide) ?_)
  refine hK31 _ ?_;refine A0 ?_;simp only[hres,go_sem];first|exact oF|(refine⟨?_,oF⟩;first|(have e:kd=0:=(by assumption);subst e;rfl)|(exfalso;omega)|exact(D5 (by omega) (by omega) (by omega) (by omega) (by omega) (by omega) (by omega)).symm)
def n6:E4:=fun f=>if f=108 then some (.p A14) else Z3 f
theorem L8:B4 Tryz.prog n6:=E3 B5O (B0 Tryz.func108 rfl (by decide)) A5
attribute [go_sem] n6 A14
set_option maxRecDepth 100000
set_option maxHeartbeats 1000000
def A28:Con:=⟨[.val (.int .i64)],[⟨.int .i64,true⟩],fun _=>True,fun x=>wrap32 x.1⟩
theorem B7r:C9 Tryz.prog 106 A28:=by
  refine A4 Tryz.func106 rfl ?_
  have hres:Tryz.f106.results.toList=[.tmp 2]:=rfl
  rintro⟨(x:Int),_⟩ hc hL
  simp only[A28,go_sem] at hL
  simp only[A28,St.init,St.initG,Tryz.ntmps106,go_sem] 
  have hu:=B2Z x
  refine oS fun _ hK1=>?_;refine oW L8 ?_;simp only[go_sem];refine hK1 _ ?_;refine oS fun _ hK2=>?_;refine oW L8 ?_;simp only[C1d,go_sem];refine hK2 _ ?_;refine oS fun _ hK3=>?_;refine oS fun _ hK4=>?_;refine oW L8 ?_;simp only[go_sem];refine hK4 _ ?_;refine oC rfl ?_ ?_
  ·
   intro c0;have hw:IntKind.i64.wrap (uns x - 4294967296)=uns x - 4294967296:=F3 (by omega)
   refine oW L8 ?_;simp only[hw,go_sem];refine hK3 _ ?_;refine oS fun _ hK5=>?_;refine oW L8 ?_;simp only[go_sem];refine hK5 _ ?_;refine A0 ?_;simp only[hres,go_sem];first|exact oF|(refine⟨?_,oF⟩;first|exact B60 c0|exact B5P c0)
  intro c0;refine A2 ?_;simp only[go_sem];refine hK3 _ ?_;refine oS fun _ hK6=>?_;refine oW L8 ?_;simp only[go_sem];refine hK6 _ ?_;refine A0 ?_;simp only[hres,go_sem];first|exact oF|(refine⟨?_,oF⟩;first|exact B60 c0|exact B5P c0)
def A7G:E4:=fun f=>if f=106 then some (.p A28) else n6 f
theorem A2r:B4 Tryz.prog A7G:=E3 B7r (B0 Tryz.func106 rfl (by decide)) L8
attribute [go_sem] A7G A28
def A3r:Con:=⟨[.val (.int .i64),.val (.int .i64)],[⟨.int .i64,true⟩],fun _=>True,fun x=>wrap32 (x.1+x.2.1)⟩
theorem C0x:C9 Tryz.prog 103 A3r:=by
  refine A4 Tryz.func103 rfl ?_
  have hres:Tryz.f103.results.toList=[.tmp 4]:=rfl
  rintro⟨(x:Int),(y:Int),_⟩ hc hL
  simp only[A3r,go_sem] at hL
  simp only[A3r,St.init,St.initG,Tryz.ntmps103,go_sem] 
  refine oS fun _ hK1=>?_;refine oW A2r ?_;simp only[go_sem];refine hK1 _ ?_;refine oS fun _ hK2=>?_;refine oW A2r ?_;simp (maxSteps:=2000000)only[go_sem];repeat(with_reducible refine oA ?_)
  refine hK2 _ ?_;refine A0 ?_;simp only[hres,go_sem];first|exact oF|(refine⟨?_,oF⟩;exact C9Q x y)
def B0P:E4:=fun f=>if f=103 then some (.p A3r) else A7G f
theorem A3G:B4 Tryz.prog B0P:=E3 C0x (B0 Tryz.func103 rfl (by decide)) A2r
attribute [go_sem] B0P A3r
def A3l:Con:=⟨[.val (.int .i64),.val (.int .i64)],[⟨.int .i64,true⟩],fun _=>True,fun x=>wrap32 (x.1 - x.2.1)⟩
theorem C0m:C9 Tryz.prog 101 A3l:=by
  refine A4 Tryz.func101 rfl ?_
  have hres:Tryz.f101.results.toList=[.tmp 4]:=rfl
  rintro⟨(x:Int),(y:Int),_⟩ hc hL
  simp only[A3l,go_sem] at hL
  simp only[A3l,St.init,St.initG,Tryz.ntmps101,go_sem] 
  refine oS fun _ hK1=>?_;refine oW A3G ?_;simp only[go_sem];refine hK1 _ ?_;refine oS fun _ hK2=>?_;refine oW A3G ?_;simp (maxSteps:=2000000)only[go_sem];repeat(with_reducible refine oA ?_)
  refine hK2 _ ?_;refine A0 ?_;simp only[hres,go_sem];first|exact oF|(refine⟨?_,oF⟩;exact C9E x y)
def A97:E4:=fun f=>if f=101 then some (.p A3l) else B0P f
theorem A3V:B4 Tryz.prog A97:=E3 C0m (B0 Tryz.func101 rfl (by decide)) A3G
attribute [go_sem] A97 A3l
def A3q:Con:=⟨[.val (.int .i64),.val (.int .i64)],[⟨.int .i64,true⟩],fun _=>True,fun x=>wrap32 (x.1 * x.2.1)⟩
theorem C0Z:C9 Tryz.prog 104 A3q:=by
  refine A4 Tryz.func104 rfl ?_
  have hres:Tryz.f104.results.toList=[.tmp 4]:=rfl
  rintro⟨(x:Int),(y:Int),_⟩ hc hL
  simp only[A3q,go_sem] at hL
  simp only[A3q,St.init,St.initG,Tryz.ntmps104,go_sem] 
  refine oS fun _ hK1=>?_;refine oW A3V ?_;simp only[go_sem];refine hK1 _ ?_;refine oS fun _ hK2=>?_;refine oW A3V ?_;simp (maxSteps:=2000000)only[go_sem];repeat(with_reducible refine oA ?_)
  refine hK2 _ ?_;refine A0 ?_;simp only[hres,go_sem];first|exact oF|(refine⟨?_,oF⟩;exact C9g x y)
def A8z:E4:=fun f=>if f=104 then some (.p A3q) else A97 f
theorem a8:B4 Tryz.prog A8z:=E3 C0Z (B0 Tryz.func104 rfl (by decide)) A3V
attribute [go_sem] A8z A3q
def A0p:Con:=⟨[.val (.int .i64)],[⟨.int .i64,true⟩],fun _=>True,fun x=>A1E x.1⟩
theorem B4B:C9 Tryz.prog 151 A0p:=by
  refine A4 Tryz.func151 rfl ?_
  have hres:Tryz.f151.results.toList=[.tmp 2]:=rfl
  rintro⟨(x:Int),_⟩ hc hL
  simp only[A0p,go_sem] at hL
  simp only[A0p,St.init,St.initG,Tryz.ntmps151,go_sem] 
  have hu:=B2Z x
  refine oS fun _ hK1=>?_;refine oW a8 ?_;simp only[go_sem];repeat(with_reducible first|refine oA ?_|refine And.intro (by first|decide) ?_)
  refine hK1 _ ?_;refine oS fun _ hK2=>?_;refine oW a8 ?_;simp only[C1d,go_sem];repeat(with_reducible first|refine oA ?_|refine And.intro (by first|decide) ?_)
  refine hK2 _ ?_;refine oS fun _ hK3=>?_;refine oS fun _ hK4=>?_;refine oW a8 ?_;simp only[C97,go_sem];repeat(with_reducible first|refine oA ?_|refine And.intro (by first|decide) ?_)
  refine hK4 _ ?_;refine oC rfl ?_ ?_
  ·
   intro c0;refine oS fun _ hK5=>?_;refine oW a8 ?_;simp (maxSteps:=2000000)only[C2n,C8U,go_sem];repeat(with_reducible first|refine oA ?_|refine And.intro (by first|decide) ?_)
   refine hK5 _ ?_;refine A0 ?_;simp only[hres,go_sem];first|exact oF|(refine⟨?_,oF⟩;first|exact(B5y c0).symm|exact(B5W c0).symm)
  intro c0;refine A2 ?_;simp only[go_sem];refine hK3 _ ?_;refine oS fun _ hK6=>?_;refine oW a8 ?_;simp only[C2n,go_sem];repeat(with_reducible first|refine oA ?_|refine And.intro (by first|decide) ?_)
  refine hK6 _ ?_;refine A0 ?_;simp only[hres,go_sem];first|exact oF|(refine⟨?_,oF⟩;first|exact(B5y c0).symm|exact(B5W c0).symm)
def A5Q:E4:=fun f=>if f=151 then some (.p A0p) else A8z f
theorem A1b:B4 Tryz.prog A5Q:=E3 B4B (B0 Tryz.func151 rfl (by decide)) a8
attribute [go_sem] A5Q A0p
def A1m:Con:=⟨[.val ((.row 2 (.int .i64))),.val (.int .i64)],[⟨.int .i64,true⟩],fun x=>1≤x.1.length∧x.1.length≤16,fun x=>B5J x.1 x.2.1⟩
theorem B7u:C9 Tryz.prog 150 A1m:=by
  refine A4 Tryz.func150 rfl ?_
  have hres:Tryz.f150.results.toList=[.tmp 4]:=rfl
  rintro⟨(xs:List Int),(x:Int),_⟩ hc hL
  simp only[A1m,go_sem] at hL
  simp only[A1m,St.init,St.initG,Tryz.ntmps150,go_sem] 
  obtain⟨h1,h2⟩:=(show 1≤xs.length∧xs.length≤16 from hc)
  obtain⟨hl1,hl2,hl3,hl4⟩:=B9U (t:=xs) (x:=x) h1 h2
  have hlw:IntKind.i64.wrap ((xs.length:Int) * uns x)=(xs.length:Int) * uns x:=F3 (by omega)
  refine oS fun _ hK1=>?_;refine oW A1b ?_;simp only[go_sem];refine hK1 _ ?_;refine oS fun _ hK2=>?_;refine oW A1b ?_;simp (maxSteps:=2000000)only[C1d,hlw,B8K,go_sem];repeat(with_reducible first|refine oA ?_|refine And.intro (by first|decide) ?_)
  refine hK2 _ ?_;refine A0 ?_;simp only[hres,go_sem];first|exact oF|exact oFr
def A1t:E4:=fun f=>if f=150 then some (.p A1m) else A5Q f
theorem F9:B4 Tryz.prog A1t:=E3 B7u (B0 Tryz.func150 rfl (by decide)) A1b
attribute [go_sem] A1t A1m
end Go.Proofs.YtgaogcnfijbahaaGreat
