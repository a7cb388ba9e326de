/-
  Texts of this claim, joined (part 50). No condition beyond those of the theorems.
-/
import Derived.Test.YtenjbehedcegdaaGreatQ05
import Derived.Test.YtenjbehedcegdaaGreatQ04
import Derived.Test.YtenjbehedcegdaaGreatQ36
import Derived.Test.YtenjbehedcegdaaGreatQ09
namespace Go.Proofs.YtenjbehedcegdaaGreat
open Go.RowKit
set_option linter.unusedSimpArgs false
set_option linter.unusedVariables false
set_option maxRecDepth 100000
set_option maxHeartbeats 4000000
def A1h:Con:=⟨[.val ((.row 2 (.int .i64)))],[⟨(.row 2 (.int .i64)),true⟩],fun x=>x.1.length≤1099511627776,fun x=>x.1⟩
theorem B4W:C8 Tryz.prog 112 A1h:=by
  refine A4 Tryz.func112 rfl ?_
  have hres:Tryz.f112.results.toList=[.tmp 2]:=rfl
  rintro⟨(xs:List Int),_⟩ hc hL
  simp only[A1h,go_sem] at hL
  simp only[A1h,St.init,St.initG,Tryz.ntmps112,go_sem] 
  have hx:xs.length≤1099511627776:=hc
  refine oS fun _ hK1=>?_;refine oW C4 ?_;simp only[go_sem];refine hK1 _ ?_;refine oS fun _ hK2=>?_;refine oW C4 ?_;simp only[go_sem];repeat(with_reducible refine oA ?_)
  refine hK2 _ ?_;refine A0 ?_;simp only[hres,go_sem];first|exact oF|exact oFr
def A5Q:G4:=fun f=>if f=112 then some (.p A1h) else m7 f
theorem B0e:B5 Tryz.prog A5Q:=F8 B4W (B0 Tryz.func112 rfl (by decide)) C4
attribute [go_sem] A5Q A1h
def A3r:G4:=A5Q
theorem A4g:B5 Tryz.prog A3r:=B0e
attribute [go_sem] A3r
set_option maxRecDepth 100000
set_option maxHeartbeats 8000000
def A8J:G4:=fun f=>match A0J f with
 | some k=>some k
 | none=>A3r f
theorem E8:B5 Tryz.prog A8J:=W6 F9 A4g
attribute [go_sem] A8J T0
def A0C:Con:=⟨[.ptr (.prod (.int .i64) (.prod (.int .i64) (.prod (.int .i64) (.row 2 (.int .i64))))),.val ((.row 2 (.int .i64))),.val ((.row 2 (.int .i64))),.val (.int .i64)],[⟨(.row 2 (.int .i64)),true⟩],fun x=>∃tabs,X2 x.1 tabs x.2.1 x.2.2.1,fun x=>A0D x.1.1 x.2.1 x.2.2.1 x.2.2.2.1⟩
theorem B21:C8 Tryz.prog 102 A0C:=by
  refine A4 Tryz.func102 rfl ?_
  have hres:Tryz.f102.results.toList=[.tmp 8]:=rfl
  rintro⟨⟨(kd:Int),(a:Int),(bb:Int),(fr:List Int)⟩,(ii:List Int),(ss:List Int),(oo:Int),_⟩ hc hL
  simp only[A0C,go_sem] at hL
  simp only[A0C,St.init,St.initG,Tryz.ntmps102,go_sem] 
  obtain⟨tb,hS⟩:∃tb,X2 (kd,a,bb,fr) tb ii ss:=hc
  obtain⟨h1,h2,h3,h4,h5,h6,h7,h8,h9,h10,h11,h12,h13⟩:=z0 hS
  have hi0:=V4 hS 0
  have hi1:=V4 hS 1
  refine oS fun _ hK1=>?_;refine oW E8 ?_;simp only[go_sem];refine hK1 _ ?_;refine oS fun _ hK2=>?_;refine oS fun _ hK3=>?_;refine oW E8 ?_;simp only[go_sem];repeat(with_reducible refine oA ?_)
  refine hK3 _ ?_;refine A3 ?_;refine oS fun _ hK4=>?_;refine oW E8 ?_;simp only[go_sem];refine hK4 _ ?_;refine oC rfl ?_ ?_
  ·
   intro c0;refine oS fun _ hK5=>?_
   refine oR E8
     [[],[0],[0,1],[],[3],[3,4],[3,4,5],[0,1,2,3,4,5,6],[0,1,2,3,4,5,6,7]]
     [[436],[436],[436],[372,373,374,375,376,377,378,379,380,381,382,383,384,385,386,387],[372,373,374,375,376,377,378,379,380,381,382,383,384,385,386,387],[372,373,374,375,376,377,378,379,380,381,382,383,384,385,386,387],[372,373,374,375,376,377,378,379,380,381,382,383,384,385,386,387],[],[]]
     [[],[],[372,373,374,375,376,377,378,379,380,381,382,383,384,385,386,387],[],[],[],[436],[],[]] (by kernel_rfl) (by kernel_rfl) (A7 (acc:=[]) ?_)
   simp (maxSteps:=2000000)only[List.nodup_nil,List.take_length,List.length_drop,go_sem];repeat(with_reducible refine oD ?_)
   refine hK5 _ ?_;refine A0 ?_;simp only[hres,go_sem];first|exact oF|(refine⟨?_,oF⟩;first|(have e:kd=6:=(by assumption);subst e;rfl)|(exfalso;omega)|exact(F7 (by omega) (by omega) (by omega) (by omega) (by omega) (by omega) (by omega)).symm)
  intro c0;refine oS fun _ hK6=>?_;refine oW E8 ?_;simp only[List.nodup_nil,List.take_length,List.length_drop,go_sem];refine hK6 _ ?_;refine oC rfl ?_ ?_
  ·
   intro c1;refine oS fun _ hK7=>?_;refine oW E8 ?_;simp (maxSteps:=2000000)only[List.nodup_nil,List.take_length,List.length_drop,go_sem];repeat(with_reducible refine oA ?_)
   refine hK7 _ ?_;refine A0 ?_;simp only[hres,go_sem];first|exact oF|(refine⟨?_,oF⟩;first|(have e:kd=17:=(by assumption);subst e;rfl)|(exfalso;omega)|exact(F7 (by omega) (by omega) (by omega) (by omega) (by omega) (by omega) (by omega)).symm)
  intro c1;refine oS fun _ hK8=>?_;refine oS fun _ hK9=>?_;refine oW E8 ?_;simp only[List.nodup_nil,List.take_length,List.length_drop,go_sem];refine hK9 _ ?_;refine oC rfl ?_ ?_
  ·
   intro c2;refine A2 ?_;simp only[go_sem];refine hK8 _ ?_;refine oC rfl ?_ ?_
   ·
    intro c3;refine oS fun _ hK10=>?_;refine oW E8 ?_;simp only[List.nodup_nil,List.take_length,List.length_drop,go_sem];repeat(with_reducible refine oA ?_)
    refine hK10 _ ?_;refine A0 ?_;simp only[hres,go_sem];first|exact oF|(refine⟨?_,oF⟩;first|(have e:kd=7:=(by assumption);subst e;rfl)|(exfalso;omega)|exact(F7 (by omega) (by omega) (by omega) (by omega) (by omega) (by omega) (by omega)).symm)
   intro c3;refine oS fun _ hK11=>?_;refine oW E8 ?_;simp only[List.nodup_nil,List.take_length,List.length_drop,go_sem];refine hK11 _ ?_;refine oC rfl ?_ ?_
   ·
    intro c4;refine oS fun _ hK12=>?_;refine oW E8 ?_;simp (maxSteps:=2000000)only[List.nodup_nil,List.take_length,List.length_drop,go_sem];repeat(with_reducible refine oA ?_)
    refine hK12 _ ?_;refine A0 ?_;simp only[hres,go_sem];first|exact oF|(refine⟨?_,oF⟩;first|(have e:kd=8:=(by assumption);subst e;rfl)|(exfalso;omega)|exact(F7 (by omega) (by omega) (by omega) (by omega) (by omega) (by omega) (by omega)).symm)
   intro c4;refine oS fun _ hK13=>?_;refine oW E8 ?_;simp only[List.nodup_nil,List.take_length,List.length_drop,go_sem];refine hK13 _ ?_;refine oC rfl ?_ ?_
   ·
    intro c5;refine oS fun _ hK14=>?_
    refine oR E8
      [[],[0],[0,1],[],[3],[3,4],[0,1,2,3,4,5],[0,1,2,3,4,5,6],[0,1,2,3,4,5,6,7]]
      [[],[],[],[],[],[],[],[],[]]
      [[],[],[],[],[],[],[],[],[]] (by kernel_rfl) (by kernel_rfl) (A7 (acc:=[]) ?_)
    simp (maxSteps:=2000000)only[List.nodup_nil,List.take_length,List.length_drop,go_sem];repeat(with_reducible refine oD ?_)
    refine hK14 _ ?_;refine A0 ?_;simp only[hres,go_sem];first|exact oF|(refine⟨?_,oF⟩;first|(have e:kd=12:=(by assumption);subst e;rfl)|(exfalso;omega)|exact(F7 (by omega) (by omega) (by omega) (by omega) (by omega) (by omega) (by omega)).symm)
   intro c5;refine oS fun _ hK15=>?_;refine oW E8 ?_;simp only[List.nodup_nil,List.take_length,List.length_drop,go_sem];refine hK15 _ ?_;refine oC rfl ?_ ?_
   ·
    intro c6;refine oS fun _ hK16=>?_;refine oW E8 ?_;simp (maxSteps:=2000000)only[List.nodup_nil,List.take_length,List.length_drop,go_sem];repeat(with_reducible refine oA ?_)
    refine hK16 _ ?_;refine A0 ?_;simp only[hres,go_sem];first|exact oF|(refine⟨?_,oF⟩;first|(have e:kd=14:=(by assumption);subst e;rfl)|(exfalso;omega)|exact(F7 (by omega) (by omega) (by omega) (by omega) (by omega) (by omega) (by omega)).symm)
   intro c6;refine A2 ?_;simp only[go_sem];refine hK2 _ ?_;refine oS fun _ hK17=>?_;refine oW E8 ?_;simp only[List.nodup_nil,List.take_length,List.length_drop,go_sem];repeat(with_reducible refine oA ?_)
   refine hK17 _ ?_;refine A0 ?_;simp only[hres,go_sem];first|exact oF|(refine⟨?_,oF⟩;first|(have e:kd=7:=(by assumption);subst e;rfl)|(exfalso;omega)|exact(F7 (by omega) (by omega) (by omega) (by omega) (by omega) (by omega) (by omega)).symm)
  intro c2;refine oW E8 ?_;simp only[List.nodup_nil,List.take_length,List.length_drop,go_sem];refine hK8 _ ?_;refine oC rfl ?_ ?_
  ·
   intro c3;refine oS fun _ hK18=>?_;refine oW E8 ?_;simp only[List.nodup_nil,List.take_length,List.length_drop,go_sem];repeat(with_reducible refine oA ?_)
   refine hK18 _ ?_;refine A0 ?_;simp only[hres,go_sem];first|exact oF|(refine⟨?_,oF⟩;first|(have e:kd=16:=(by assumption);subst e;rfl)|(exfalso;omega)|exact(F7 (by omega) (by omega) (by omega) (by omega) (by omega) (by omega) (by omega)).symm)
  intro c3;refine oS fun _ hK19=>?_;refine oW E8 ?_;simp only[List.nodup_nil,List.take_length,List.length_drop,go_sem];refine hK19 _ ?_;refine oC rfl ?_ ?_
  ·
   intro c4;refine oS fun _ hK20=>?_;refine oW E8 ?_;simp (maxSteps:=2000000)only[List.nodup_nil,List.take_length,List.length_drop,go_sem];repeat(with_reducible refine oA ?_)
   refine hK20 _ ?_;refine A0 ?_;simp only[hres,go_sem];first|exact oF|(refine⟨?_,oF⟩;first|(have e:kd=8:=(by assumption);subst e;rfl)|(exfalso;omega)|exact(F7 (by omega) (by omega) (by omega) (by omega) (by omega) (by omega) (by omega)).symm)
  intro c4;refine oS fun _ hK21=>?_;refine oW E8 ?_;simp only[List.nodup_nil,List.take_length,List.length_drop,go_sem];refine hK21 _ ?_;refine oC rfl ?_ ?_
  ·
   intro c5;refine oS fun _ hK22=>?_
   refine oR E8
     [[],[0],[0,1],[],[3],[3,4],[0,1,2,3,4,5],[0,1,2,3,4,5,6],[0,1,2,3,4,5,6,7]]
     [[],[],[],[],[],[],[],[],[]]
     [[],[],[],[],[],[],[],[],[]] (by kernel_rfl) (by kernel_rfl) (A7 (acc:=[]) ?_)
   simp (maxSteps:=2000000)only[List.nodup_nil,List.take_length,List.length_drop,go_sem];repeat(with_reducible refine oD ?_)
   refine hK22 _ ?_;refine A0 ?_;simp only[hres,go_sem];first|exact oF|(refine⟨?_,oF⟩;first|(have e:kd=12:=(by assumption);subst e;rfl)|(exfalso;omega)|exact(F7 (by omega) (by omega) (by omega) (by omega) (by omega) (by omega) (by omega)).symm)
  intro c5;refine oS fun _ hK23=>?_;refine oW E8 ?_;simp only[List.nodup_nil,List.take_length,List.length_drop,go_sem];refine hK23 _ ?_;refine oC rfl ?_ ?_
  ·
   intro c6;refine oS fun _ hK24=>?_;refine oW E8 ?_;simp (maxSteps:=2000000)only[List.nodup_nil,List.take_length,List.length_drop,go_sem];repeat(with_reducible refine oA ?_)
   refine hK24 _ ?_;refine A0 ?_;simp only[hres,go_sem];first|exact oF|(refine⟨?_,oF⟩;first|(have e:kd=14:=(by assumption);subst e;rfl)|(exfalso;omega)|exact(F7 (by omega) (by omega) (by omega) (by omega) (by omega) (by omega) (by omega)).symm)
  intro c6;refine A2 ?_;simp only[go_sem];refine hK2 _ ?_;refine oS fun _ hK25=>?_;refine oW E8 ?_;simp only[List.nodup_nil,List.take_length,List.length_drop,go_sem];repeat(with_reducible refine oA ?_)
  refine hK25 _ ?_;refine A0 ?_;simp only[hres,go_sem];first|exact oF|(refine⟨?_,oF⟩;first|(have e:kd=0:=(by assumption);subst e;rfl)|(exfalso;omega)|exact(F7 (by omega) (by omega) (by omega) (by omega) (by omega) (by omega) (by omega)).symm)
def A4L:G4:=fun f=>if f=102 then some (.p A0C) else A8J f
theorem A8w:B5 Tryz.prog A4L:=F8 B21 (B0 Tryz.func102 rfl (by decide)) E8
attribute [go_sem] A4L A0C
set_option maxRecDepth 100000
set_option maxHeartbeats 1000000
def A3P:Con:=⟨[.ptr (.prod (.int .i64) (.prod (.int .i64) (.prod (.int .i64) (.row 2 (.int .i64))))),.val ((.row 2 (.int .i64))),.val ((.row 2 (.int .i64)))],[⟨(.row 2 (.int .i64)),true⟩],fun x=>B5H x.1 x.2.1 x.2.2.1,fun x=>A0N x.1 x.2.1 x.2.2.1⟩
theorem B6A:C8 Tryz.prog 101 A3P:=by
  refine A4 Tryz.func101 rfl ?_
  have hres:Tryz.f101.results.toList=[.tmp 6]:=rfl
  rintro⟨⟨(kd:Int),(a:Int),(bb:Int),(fr:List Int)⟩,(ff:List Int),(vv:List Int),_⟩ hc hL
  simp only[A3P,go_sem] at hL
  simp only[A3P,St.init,St.initG,Tryz.ntmps101,go_sem] 
  obtain⟨h1,h2,h3⟩:=(show B5H (kd,a,bb,fr) ff vv from hc)
  have h1:kd=1→0≤a∧a < ff.length:=h1
  have h2:N2 vv.length fr=true:=h2
  have h3:fr.length≤1000:=h3
  refine oS fun _ hK1=>?_;refine oW A9 ?_;simp only[go_sem];refine hK1 _ ?_;refine oS fun _ hK2=>?_;refine oS fun _ hK3=>?_;refine oW A9 ?_;simp (maxSteps:=2000000)only[go_sem];repeat(with_reducible refine oA ?_)
  refine hK3 _ ?_;refine oC rfl ?_ ?_
  ·
   intro c0;refine oS fun _ hK4=>?_;refine oW A9 ?_;simp (maxSteps:=2000000)only[List.nodup_nil,go_sem];repeat(with_reducible refine oA ?_)
   refine hK4 _ ?_;refine A0 ?_;simp only[hres,go_sem];first|exact oF|(refine⟨?_,oF⟩;first|exact(B54 c0).symm|exact(B4z c0).symm)
  intro c0;refine A2 ?_;simp only[go_sem];refine hK2 _ ?_;refine oS fun _ hK5=>?_;refine oW A9 ?_;simp (maxSteps:=2000000)only[go_sem];repeat(with_reducible first|refine oA ?_|refine And.intro (by first|exact⟨h3,h2⟩) ?_)
  refine hK5 _ ?_;refine A0 ?_;simp only[hres,go_sem];first|exact oF|(refine⟨?_,oF⟩;first|exact(B54 c0).symm|exact(B4z c0).symm)
def A91:G4:=fun f=>if f=101 then some (.p A3P) else s8 f
theorem B2D:B5 Tryz.prog A91:=F8 B6A (B0 Tryz.func101 rfl (by decide)) A9
attribute [go_sem] A91 A3P
def A4P:G4:=A91
theorem A8L:B5 Tryz.prog A4P:=B2D
attribute [go_sem] A4P
end Go.Proofs.YtenjbehedcegdaaGreat
