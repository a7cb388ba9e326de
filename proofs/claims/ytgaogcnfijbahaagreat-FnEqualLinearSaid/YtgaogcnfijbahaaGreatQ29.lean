/-
  Texts of this claim, joined (part 29). No condition beyond those of the theorems.
-/
import Derived.Test.YtgaogcnfijbahaaGreatQ07
import Derived.Test.YtgaogcnfijbahaaGreatQ25
import Derived.Test.YtgaogcnfijbahaaGreatQ06
namespace Go.Proofs.YtgaogcnfijbahaaGreat
open Go.RowKit
set_option linter.unusedSimpArgs false
set_option linter.unusedVariables false
set_option maxRecDepth 100000
set_option maxHeartbeats 8000000
def B43:E4:=fun f=>match A1t f with
 | some k=>some k
 | none=>A3f f
theorem F1:B4 Tryz.prog B43:=N2 F9 A3b
attribute [go_sem] B43 T0
def A2G:Con:=⟨[.ptr (.prod (.int .i64) (.prod (.int .i64) (.prod (.int .i64) (.row 2 (.int .i64))))),.val ((.row 2 (.int .i64))),.val ((.row 2 (.int .i64))),.val (.int .i64)],[⟨(.row 2 (.int .i64)),true⟩],fun x=>∃tabs,m6 x.1 tabs x.2.1 x.2.2.1,fun x=>m0 x.1.1 x.2.1 x.2.2.1 x.2.2.2.1⟩
theorem B7W:C9 Tryz.prog 140 A2G:=by
  refine A4 Tryz.func140 rfl ?_
  have hres:Tryz.f140.results.toList=[.tmp 8]:=rfl
  rintro⟨⟨(kd:Int),(a:Int),(bb:Int),(fr:List Int)⟩,(ii:List Int),(ss:List Int),(oo:Int),_⟩ hc hL
  simp only[A2G,go_sem] at hL
  simp only[A2G,St.init,St.initG,Tryz.ntmps140,go_sem] 
  obtain⟨tb,hS⟩:∃tb,m6 (kd,a,bb,fr) tb ii ss:=hc
  obtain⟨h1,h2,h3,h4,h5,h6,h7,h8,h9,h10,h11,h12,h13⟩:=b7 hS
  have hi0:=b6 hS 0
  have hi1:=b6 hS 1
  refine oS fun _ hK1=>?_;refine oW F1 ?_;simp only[go_sem];refine hK1 _ ?_;refine oS fun _ hK2=>?_;refine oS fun _ hK3=>?_;refine oW F1 ?_;simp only[go_sem];repeat(with_reducible refine oA ?_)
  refine hK3 _ ?_;refine A1 ?_;refine oS fun _ hK4=>?_;refine oW F1 ?_;simp only[go_sem];refine hK4 _ ?_;refine oC rfl ?_ ?_
  ·
   intro c0;refine oS fun _ hK5=>?_
   refine oR F1
     [[],[0],[0,1],[],[3],[3,4],[3,4,5],[0,1,2,3,4,5,6],[0,1,2,3,4,5,6,7]]
     [[436],[436],[436],[372,373,374,375,376,377,378,379,380,381,382,383,384,385,386,387],[372,373,374,375,376,377,378,379,380,381,382,383,384,385,386,387],[372,373,374,375,376,377,378,379,380,381,382,383,384,385,386,387],[372,373,374,375,376,377,378,379,380,381,382,383,384,385,386,387],[],[]]
     [[],[],[372,373,374,375,376,377,378,379,380,381,382,383,384,385,386,387],[],[],[],[436],[],[]] (by kernel_rfl) (by kernel_rfl) (A9 (acc:=[]) ?_)
   simp (maxSteps:=2000000)only[List.nodup_nil,List.take_length,List.length_drop,go_sem];repeat(with_reducible refine oD ?_)
   refine hK5 _ ?_;refine A0 ?_;simp only[hres,go_sem];first|exact oF|(refine⟨?_,oF⟩;first|(have e:kd=6:=(by assumption);subst e;rfl)|(exfalso;omega)|exact(G1 (by omega) (by omega) (by omega) (by omega) (by omega) (by omega) (by omega)).symm)
  intro c0;refine oS fun _ hK6=>?_;refine oW F1 ?_;simp only[List.nodup_nil,List.take_length,List.length_drop,go_sem];refine hK6 _ ?_;refine oC rfl ?_ ?_
  ·
   intro c1;refine oS fun _ hK7=>?_;refine oW F1 ?_;simp (maxSteps:=2000000)only[List.nodup_nil,List.take_length,List.length_drop,go_sem];repeat(with_reducible refine oA ?_)
   refine hK7 _ ?_;refine A0 ?_;simp only[hres,go_sem];first|exact oF|(refine⟨?_,oF⟩;first|(have e:kd=17:=(by assumption);subst e;rfl)|(exfalso;omega)|exact(G1 (by omega) (by omega) (by omega) (by omega) (by omega) (by omega) (by omega)).symm)
  intro c1;refine oS fun _ hK8=>?_;refine oS fun _ hK9=>?_;refine oW F1 ?_;simp only[List.nodup_nil,List.take_length,List.length_drop,go_sem];refine hK9 _ ?_;refine oC rfl ?_ ?_
  ·
   intro c2;refine A2 ?_;simp only[go_sem];refine hK8 _ ?_;refine oC rfl ?_ ?_
   ·
    intro c3;refine oS fun _ hK10=>?_;refine oW F1 ?_;simp only[List.nodup_nil,List.take_length,List.length_drop,go_sem];repeat(with_reducible refine oA ?_)
    refine hK10 _ ?_;refine A0 ?_;simp only[hres,go_sem];first|exact oF|(refine⟨?_,oF⟩;first|(have e:kd=7:=(by assumption);subst e;rfl)|(exfalso;omega)|exact(G1 (by omega) (by omega) (by omega) (by omega) (by omega) (by omega) (by omega)).symm)
   intro c3;refine oS fun _ hK11=>?_;refine oW F1 ?_;simp only[List.nodup_nil,List.take_length,List.length_drop,go_sem];refine hK11 _ ?_;refine oC rfl ?_ ?_
   ·
    intro c4;refine oS fun _ hK12=>?_;refine oW F1 ?_;simp (maxSteps:=2000000)only[List.nodup_nil,List.take_length,List.length_drop,go_sem];repeat(with_reducible refine oA ?_)
    refine hK12 _ ?_;refine A0 ?_;simp only[hres,go_sem];first|exact oF|(refine⟨?_,oF⟩;first|(have e:kd=8:=(by assumption);subst e;rfl)|(exfalso;omega)|exact(G1 (by omega) (by omega) (by omega) (by omega) (by omega) (by omega) (by omega)).symm)
   intro c4;refine oS fun _ hK13=>?_;refine oW F1 ?_;simp only[List.nodup_nil,List.take_length,List.length_drop,go_sem];refine hK13 _ ?_;refine oC rfl ?_ ?_
   ·
    intro c5;refine oS fun _ hK14=>?_
    refine oR F1
      [[],[0],[0,1],[],[3],[3,4],[0,1,2,3,4,5],[0,1,2,3,4,5,6],[0,1,2,3,4,5,6,7]]
      [[],[],[],[],[],[],[],[],[]]
      [[],[],[],[],[],[],[],[],[]] (by kernel_rfl) (by kernel_rfl) (A9 (acc:=[]) ?_)
    simp (maxSteps:=2000000)only[List.nodup_nil,List.take_length,List.length_drop,go_sem];repeat(with_reducible refine oD ?_)
    refine hK14 _ ?_;refine A0 ?_;simp only[hres,go_sem];first|exact oF|(refine⟨?_,oF⟩;first|(have e:kd=12:=(by assumption);subst e;rfl)|(exfalso;omega)|exact(G1 (by omega) (by omega) (by omega) (by omega) (by omega) (by omega) (by omega)).symm)
   intro c5;refine oS fun _ hK15=>?_;refine oW F1 ?_;simp only[List.nodup_nil,List.take_length,List.length_drop,go_sem];refine hK15 _ ?_;refine oC rfl ?_ ?_
   ·
    intro c6;refine oS fun _ hK16=>?_;refine oW F1 ?_;simp (maxSteps:=2000000)only[List.nodup_nil,List.take_length,List.length_drop,go_sem];repeat(with_reducible refine oA ?_)
    refine hK16 _ ?_;refine A0 ?_;simp only[hres,go_sem];first|exact oF|(refine⟨?_,oF⟩;first|(have e:kd=14:=(by assumption);subst e;rfl)|(exfalso;omega)|exact(G1 (by omega) (by omega) (by omega) (by omega) (by omega) (by omega) (by omega)).symm)
   intro c6;refine A2 ?_;simp only[go_sem];refine hK2 _ ?_;refine oS fun _ hK17=>?_;refine oW F1 ?_;simp only[List.nodup_nil,List.take_length,List.length_drop,go_sem];repeat(with_reducible refine oA ?_)
   refine hK17 _ ?_;refine A0 ?_;simp only[hres,go_sem];first|exact oF|(refine⟨?_,oF⟩;first|(have e:kd=7:=(by assumption);subst e;rfl)|(exfalso;omega)|exact(G1 (by omega) (by omega) (by omega) (by omega) (by omega) (by omega) (by omega)).symm)
  intro c2;refine oW F1 ?_;simp only[List.nodup_nil,List.take_length,List.length_drop,go_sem];refine hK8 _ ?_;refine oC rfl ?_ ?_
  ·
   intro c3;refine oS fun _ hK18=>?_;refine oW F1 ?_;simp only[List.nodup_nil,List.take_length,List.length_drop,go_sem];repeat(with_reducible refine oA ?_)
   refine hK18 _ ?_;refine A0 ?_;simp only[hres,go_sem];first|exact oF|(refine⟨?_,oF⟩;first|(have e:kd=16:=(by assumption);subst e;rfl)|(exfalso;omega)|exact(G1 (by omega) (by omega) (by omega) (by omega) (by omega) (by omega) (by omega)).symm)
  intro c3;refine oS fun _ hK19=>?_;refine oW F1 ?_;simp only[List.nodup_nil,List.take_length,List.length_drop,go_sem];refine hK19 _ ?_;refine oC rfl ?_ ?_
  ·
   intro c4;refine oS fun _ hK20=>?_;refine oW F1 ?_;simp (maxSteps:=2000000)only[List.nodup_nil,List.take_length,List.length_drop,go_sem];repeat(with_reducible refine oA ?_)
   refine hK20 _ ?_;refine A0 ?_;simp only[hres,go_sem];first|exact oF|(refine⟨?_,oF⟩;first|(have e:kd=8:=(by assumption);subst e;rfl)|(exfalso;omega)|exact(G1 (by omega) (by omega) (by omega) (by omega) (by omega) (by omega) (by omega)).symm)
  intro c4;refine oS fun _ hK21=>?_;refine oW F1 ?_;simp only[List.nodup_nil,List.take_length,List.length_drop,go_sem];refine hK21 _ ?_;refine oC rfl ?_ ?_
  ·
   intro c5;refine oS fun _ hK22=>?_
   refine oR F1
     [[],[0],[0,1],[],[3],[3,4],[0,1,2,3,4,5],[0,1,2,3,4,5,6],[0,1,2,3,4,5,6,7]]
     [[],[],[],[],[],[],[],[],[]]
     [[],[],[],[],[],[],[],[],[]] (by kernel_rfl) (by kernel_rfl) (A9 (acc:=[]) ?_)
   simp (maxSteps:=2000000)only[List.nodup_nil,List.take_length,List.length_drop,go_sem];repeat(with_reducible refine oD ?_)
   refine hK22 _ ?_;refine A0 ?_;simp only[hres,go_sem];first|exact oF|(refine⟨?_,oF⟩;first|(have e:kd=12:=(by assumption);subst e;rfl)|(exfalso;omega)|exact(G1 (by omega) (by omega) (by omega) (by omega) (by omega) (by omega) (by omega)).symm)
  intro c5;refine oS fun _ hK23=>?_;refine oW F1 ?_;simp only[List.nodup_nil,List.take_length,List.length_drop,go_sem];refine hK23 _ ?_;refine oC rfl ?_ ?_
  ·
   intro c6;refine oS fun _ hK24=>?_;refine oW F1 ?_;simp (maxSteps:=2000000)only[List.nodup_nil,List.take_length,List.length_drop,go_sem];repeat(with_reducible refine oA ?_)
   refine hK24 _ ?_;refine A0 ?_;simp only[hres,go_sem];first|exact oF|(refine⟨?_,oF⟩;first|(have e:kd=14:=(by assumption);subst e;rfl)|(exfalso;omega)|exact(G1 (by omega) (by omega) (by omega) (by omega) (by omega) (by omega) (by omega)).symm)
  intro c6;refine A2 ?_;simp only[go_sem];refine hK2 _ ?_;refine oS fun _ hK25=>?_;refine oW F1 ?_;simp only[List.nodup_nil,List.take_length,List.length_drop,go_sem];repeat(with_reducible refine oA ?_)
  refine hK25 _ ?_;refine A0 ?_;simp only[hres,go_sem];first|exact oF|(refine⟨?_,oF⟩;first|(have e:kd=0:=(by assumption);subst e;rfl)|(exfalso;omega)|exact(G1 (by omega) (by omega) (by omega) (by omega) (by omega) (by omega) (by omega)).symm)
def A7Q:E4:=fun f=>if f=140 then some (.p A2G) else B43 f
theorem B3E:B4 Tryz.prog A7Q:=E3 B7W (B0 Tryz.func140 rfl (by decide)) F1
attribute [go_sem] A7Q A2G
set_option maxRecDepth 100000
set_option maxHeartbeats 1000000
def A6H:Con:=⟨[.ptr (.prod (.int .i64) (.prod (.int .i64) (.prod (.int .i64) (.row 2 (.int .i64))))),.val ((.row 2 (.int .i64))),.val ((.row 2 (.int .i64)))],[⟨(.row 2 (.int .i64)),true⟩],fun x=>A9i x.1 x.2.1 x.2.2.1,fun x=>Q8 x.1 x.2.1 x.2.2.1⟩
theorem C3b:C9 Tryz.prog 139 A6H:=by
  refine A4 Tryz.func139 rfl ?_
  have hres:Tryz.f139.results.toList=[.tmp 6]:=rfl
  rintro⟨⟨(kd:Int),(a:Int),(bb:Int),(fr:List Int)⟩,(ff:List Int),(vv:List Int),_⟩ hc hL
  simp only[A6H,go_sem] at hL
  simp only[A6H,St.init,St.initG,Tryz.ntmps139,go_sem] 
  obtain⟨h1,h2,h3⟩:=(show A9i (kd,a,bb,fr) ff vv from hc)
  have h1:kd=1→0≤a∧a < ff.length:=h1
  have h2:N9 vv.length fr=true:=h2
  have h3:fr.length≤1000:=h3
  refine oS fun _ hK1=>?_;refine oW A5 ?_;simp only[go_sem];refine hK1 _ ?_;refine oS fun _ hK2=>?_;refine oS fun _ hK3=>?_;refine oW A5 ?_;simp (maxSteps:=2000000)only[go_sem];repeat(with_reducible refine oA ?_)
  refine hK3 _ ?_;refine oC rfl ?_ ?_
  ·
   intro c0;refine oS fun _ hK4=>?_;refine oW A5 ?_;simp (maxSteps:=2000000)only[List.nodup_nil,go_sem];repeat(with_reducible refine oA ?_)
   refine hK4 _ ?_;refine A0 ?_;simp only[hres,go_sem];first|exact oF|(refine⟨?_,oF⟩;first|exact(B44 c0).symm|exact(B34 c0).symm)
  intro c0;refine A2 ?_;simp only[go_sem];refine hK2 _ ?_;refine oS fun _ hK5=>?_;refine oW A5 ?_;simp (maxSteps:=2000000)only[go_sem];repeat(with_reducible first|refine oA ?_|refine And.intro (by first|exact⟨h3,h2⟩) ?_)
  refine hK5 _ ?_;refine A0 ?_;simp only[hres,go_sem];first|exact oF|(refine⟨?_,oF⟩;first|exact(B44 c0).symm|exact(B34 c0).symm)
def B2A:E4:=fun f=>if f=139 then some (.p A6H) else Z3 f
theorem A0h:B4 Tryz.prog B2A:=E3 C3b (B0 Tryz.func139 rfl (by decide)) A5
attribute [go_sem] B2A A6H
def A37:Con:=⟨[.ptr (.prod (.prod (.int .i64) (.prod (.row 26 (.row 2 (.int .i64))) (.prod (.row 95 (.prod (.int .i64) (.prod (.int .i64) (.prod (.int .i64) (.row 2 (.int .i64)))))) (.row 2 (.int .i64))))) (.prod (.row 2 (.int .i64)) (.prod (.row 2 (.int .i64)) (.row 26 (.row 2 (.int .i64)))))),.val ((.prod (.int .i64) (.prod (.int .i64) (.prod (.int .i64) (.row 2 (.int .i64)))))),.val ((.row 2 (.int .i64)))],[⟨(.row 2 (.int .i64)),true⟩],fun x=>A9i x.2.1 x.2.2.1 x.1.2.2.1,fun x=>Q8 x.2.1 x.2.2.1 x.1.2.2.1⟩
theorem C0I:C9 Tryz.prog 133 A37:=by
  refine A4 Tryz.func133 rfl ?_
  have hres:Tryz.f133.results.toList=[.tmp 6]:=rfl
  rintro⟨⟨⟨(pi:Int),(ts:List (List Int)),(ns:List A6),(os:List Int)⟩,(oo:List Int),(vv:List Int),(cc:List (List Int))⟩,⟨(kd:Int),(a:Int),(bb:Int),(fr:List Int)⟩,(ff:List Int),_⟩ hc hL
  simp only[A37,go_sem] at hL
  simp only[A37,St.init,St.initG,Tryz.ntmps133,go_sem] 
  obtain⟨h1,h2,h3⟩:=(show A9i (kd,a,bb,fr) ff vv from hc)
  have h1:kd=1→0≤a∧a < ff.length:=h1
  have h2:N9 vv.length fr=true:=h2
  have h3:fr.length≤1000:=h3
  refine oS fun _ hK1=>?_;refine oW A0h ?_;simp only[go_sem];refine hK1 _ ?_;refine oS fun _ hK2=>?_;refine oS fun _ hK3=>?_;refine oW A0h ?_;simp only[go_sem];repeat(with_reducible refine oA ?_)
  refine hK3 _ ?_;refine oC rfl ?_ ?_
  ·
   intro c0;refine oS fun _ hK4=>?_;refine oW A0h ?_;simp (maxSteps:=2000000)only[List.nodup_nil,go_sem];repeat(with_reducible refine oA ?_)
   refine hK4 _ ?_;refine A0 ?_;simp only[hres,go_sem];first|exact oF|(refine⟨?_,oF⟩;first|exact(B44 c0).symm|exact(B34 c0).symm)
  intro c0;refine A2 ?_;simp only[go_sem];refine hK2 _ ?_;refine oS fun _ hK5=>?_
  refine oR A0h
    [[],[0],[],[2],[2,3],[2,3,4],[0,1,2,3,4,5],[0,1,2,3,4,5,6]]
    [[],[],[],[],[],[],[],[]]
    [[],[],[],[],[],[],[],[]] (by kernel_rfl) (by kernel_rfl) (A9 (acc:=[]) ?_)
  simp (maxSteps:=2000000)only[go_sem];repeat(with_reducible first|refine oD ?_|refine And.intro (by first|exact⟨h3,h2⟩) ?_)
  refine hK5 _ ?_;refine A0 ?_;simp only[hres,go_sem];first|exact oF|(refine⟨?_,oF⟩;first|exact(B44 c0).symm|exact(B34 c0).symm)
def B0K:E4:=fun f=>if f=133 then some (.p A37) else B2A f
theorem A3e:B4 Tryz.prog B0K:=E3 C0I (B0 Tryz.func133 rfl (by decide)) A0h
attribute [go_sem] B0K A37
def A29:Con:=⟨[.ptr (.prod (.prod (.int .i64) (.prod (.row 26 (.row 2 (.int .i64))) (.prod (.row 95 (.prod (.int .i64) (.prod (.int .i64) (.prod (.int .i64) (.row 2 (.int .i64)))))) (.row 2 (.int .i64))))) (.prod (.row 2 (.int .i64)) (.prod (.row 2 (.int .i64)) (.row 26 (.row 2 (.int .i64))))))],[⟨(.row 2 (.int .i64)),true⟩],fun x=>x.1.1.2.2.2.length≤1000∧N9 x.1.2.2.1.length x.1.1.2.2.2=true,fun x=>J4 x.1.1 x.1.2.2.1⟩
theorem B7E:C9 Tryz.prog 88 A29:=by
  refine A4 Tryz.func88 rfl ?_
  have hres:Tryz.f88.results.toList=[.tmp 2]:=rfl
  rintro⟨⟨⟨(pi:Int),(ts:List (List Int)),(ns:List A6),(os:List Int)⟩,(oo:List Int),(vv:List Int),(cc:List (List Int))⟩,_⟩ hc hL
  simp only[A29,go_sem] at hL
  simp only[A29,St.init,St.initG,Tryz.ntmps88,go_sem] 
  have hcc:os.length≤1000∧N9 vv.length os=true:=hc
  refine oS fun _ hK1=>?_;refine oW A3e ?_;simp only[go_sem];repeat(with_reducible first|refine oA ?_|refine And.intro (by first|exact hcc) ?_)
  refine hK1 _ ?_;refine oS fun _ hK2=>?_
  refine oR A3e
    [[],[0],[0,1],[0,1,2],[0,1,2,3],[],[5],[5,6],[5,6,7],[0,1,2,3,4,5,6,7,8],[0,1,2,3,4,5,6,7,8,9]]
    [[],[],[],[],[],[],[],[],[],[],[]]
    [[],[],[],[],[],[],[],[],[],[],[]] (by kernel_rfl) (by kernel_rfl) (A9 (acc:=[]) ?_)
  simp (maxSteps:=2000000)only[go_sem];repeat(with_reducible first|refine oD ?_|refine And.intro (by first|exact hcc) ?_)
  refine hK2 _ ?_;refine A0 ?_;simp only[hres,go_sem];first|exact oF|exact oFr
def A2E:E4:=fun f=>if f=88 then some (.p A29) else B0K f
theorem A2N:B4 Tryz.prog A2E:=E3 B7E (B0 Tryz.func88 rfl (by decide)) A3e
attribute [go_sem] A2E A29
end Go.Proofs.YtgaogcnfijbahaaGreat
