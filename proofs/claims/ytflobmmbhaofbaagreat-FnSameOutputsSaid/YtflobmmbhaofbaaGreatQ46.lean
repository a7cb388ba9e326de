/-
  Texts of this claim, joined (part 46). No condition beyond those of the theorems.
-/
import Derived.Test.YtflobmmbhaofbaaGreatQ41
import Derived.Test.YtflobmmbhaofbaaGreatQ44
import Derived.Test.YtflobmmbhaofbaaGreatQ45
import Derived.Test.YtflobmmbhaofbaaGreatQ35
import Derived.Test.YtflobmmbhaofbaaGreatQ07
import Derived.Test.YtflobmmbhaofbaaGreatQ18
import Derived.Test.YtflobmmbhaofbaaGreatQ06
namespace Go.Proofs.YtflobmmbhaofbaaGreat
open Go.RowKit
set_option linter.unusedSimpArgs false
set_option linter.unusedVariables false
set_option maxRecDepth 100000
set_option maxHeartbeats 8000000
def B2R:F8:=fun f=>match A6e f with
 | some k=>some k
 | none=>A2j f
theorem B5Y:B8 Tryz.prog B2R:=T3 B1S A8g
attribute [go_sem] B2R T0
def B1O:F8:=fun f=>match B2R f with
 | some k=>some k
 | none=>B0l f
theorem B5A:B8 Tryz.prog B1O:=T3 B5Y B62
attribute [go_sem] B1O T0
def A5l:F8:=B1O
theorem Q9:B8 Tryz.prog A5l:=B5A
attribute [go_sem] A5l
set_option maxRecDepth 100000
set_option maxHeartbeats 4000000
def s7:Con:=⟨[.val ((.prod (.int .i64) (.prod (.row 26 (.row 2 (.int .i64))) (.prod (.row 56 (.prod (.int .i64) (.prod (.int .i64) (.prod (.int .i64) (.row 2 (.int .i64)))))) (.row 2 (.int .i64)))))),.val ((.prod (.int .i64) (.prod (.row 26 (.row 2 (.int .i64))) (.prod (.row 56 (.prod (.int .i64) (.prod (.int .i64) (.prod (.int .i64) (.row 2 (.int .i64)))))) (.row 2 (.int .i64))))))],[⟨.bool,true⟩,⟨.int .i64,true⟩],fun _=>True,fun x=>r5 x.1 x.2.1⟩
theorem B0r:D4 Tryz.prog 6 s7:=by
  refine A7 Tryz.func6 rfl ?_
  have hres:Tryz.f6.results.toList=[.tmp 4,.tmp 5]:=rfl
  rintro⟨⟨(pi:Int),(ts:List (List Int)),(ns:List A4),(os:List Int)⟩,⟨(pi2:Int),(ts2:List (List Int)),(ns2:List A4),(os2:List Int)⟩,_⟩ hc hL
  simp only[s7,go_sem] at hL
  simp only[s7,St.init,St.initG,Tryz.ntmps6,go_sem] 
  refine oS fun _ hK1=>?_;refine oW Q9 ?_;simp only[go_sem];refine hK1 _ ?_;refine oS fun _ hK2=>?_;refine oS fun _ hK3=>?_;refine oW Q9 ?_;simp only[go_sem];repeat(with_reducible refine oA ?_)
  refine hK3 _ ?_;refine oS fun _ hK4=>?_;refine oW Q9 ?_;simp only[go_sem];refine hK4 _ ?_;refine oC rfl ?_ ?_
  ·
   intro c0;refine oS fun _ hK5=>?_;refine oW Q9 ?_;simp only[go_sem];refine hK5 _ ?_;refine A2 ?_;simp only[hres,go_sem];first|exact oF|(refine⟨?_,oF⟩;first|(rw[A5T c0];exact⟨rfl,rfl⟩)|(rw[A5T c0]))
  intro c0;obtain⟨a1,a2,a3⟩:=C1Q c0
  have hsm:B2Q [(pi,ts,ns,os),(pi2,ts2,ns2,os2)]:=⟨by simp,fun p hp=>by simp only[List.mem_cons,List.not_mem_nil,or_false] at hp;rcases hp with rfl|rfl;exact Z8 a1;exact Z8 a2⟩
  have hun:J1 [(pi,ts,ns,os),(pi2,ts2,ns2,os2)]=(S9 (pi,ts,ns,os) (pi2,ts2,ns2,os2)).2:=congrArg Prod.snd (B7K (p:=(pi,ts,ns,os)) (q:=(pi2,ts2,ns2,os2)) a1)
  have hU:uOk (S9 (pi,ts,ns,os) (pi2,ts2,ns2,os2)).2.1 (S9 (pi,ts,ns,os) (pi2,ts2,ns2,os2)).2.2.1:=B0c a1 a2
  have hio:=C04 a1 a2
  have hou:(S9 (pi,ts,ns,os) (pi2,ts2,ns2,os2)).2.2.2.length=os.length+os2.length:=by simp[S9]
  have hcl:(H1 (S9 (pi,ts,ns,os) (pi2,ts2,ns2,os2)).2.1 (S9 (pi,ts,ns,os) (pi2,ts2,ns2,os2)).2.2.1).length=(S9 (pi,ts,ns,os) (pi2,ts2,ns2,os2)).2.2.1.length:=A1f
  have ho4:os.length≤4:=(A8 (A9 a1).1).2.1
  have ho5:os2.length≤4:=(A8 (A9 a2).1).2.1
  have hmc:(S9 (pi,ts,ns,os) (pi2,ts2,ns2,os2)).2.2.2.length≤1000∧J4 (H1 (S9 (pi,ts,ns,os) (pi2,ts2,ns2,os2)).2.1 (S9 (pi,ts,ns,os) (pi2,ts2,ns2,os2)).2.2.1).length (S9 (pi,ts,ns,os) (pi2,ts2,ns2,os2)).2.2.2=true:=⟨by omega,by rw[hcl];exact hio⟩
  have hOC:List.map (fun q=>(H1 (S9 (pi,ts,ns,os) (pi2,ts2,ns2,os2)).2.1 (S9 (pi,ts,ns,os) (pi2,ts2,ns2,os2)).2.2.1).getD (Int.toNat q) 0) (S9 (pi,ts,ns,os) (pi2,ts2,ns2,os2)).2.2.2=M3 (pi,ts,ns,os) (pi2,ts2,ns2,os2):=rfl
  have hOL:=z7 (pi,ts,ns,os) (pi2,ts2,ns2,os2)
  have hOL:(M3 (pi,ts,ns,os) (pi2,ts2,ns2,os2)).length=os.length+os2.length:=hOL
  refine A3 ?_;simp only[go_sem];refine hK2 _ ?_;refine oS fun _ hK6=>?_;refine oW Q9 ?_;simp (maxSteps:=2000000)only[List.nodup_cons,List.nodup_nil,List.not_mem_nil,not_false_eq_true,hun,go_sem];repeat(with_reducible first|refine oA ?_|refine And.intro (by first|exact hsm) ?_)
  refine hK6 _ ?_;refine oS fun _ hK7=>?_
  refine oR Q9
    [[],[0],[],[2],[0,1,2,3],[],[5],[5,6],[0,1,2,3,4],[0,1,2,3,4,5,6,7,8]]
    [[468,469,470,471,472,473,474,475,476,477,478,479,480,481,482,483],[468,469,470,471,472,473,474,475,476,477,478,479,480,481,482,483],[],[],[],[468,469,470,471,472,473,474,475,476,477,478,479,480,481,482,483,484,485,486,487,488,489,490,491,492,493,494,495,496,497,498,499],[468,469,470,471,472,473,474,475,476,477,478,479,480,481,482,483,484,485,486,487,488,489,490,491,492,493,494,495,496,497,498,499],[468,469,470,471,472,473,474,475,476,477,478,479,480,481,482,483,484,485,486,487,488,489,490,491,492,493,494,495,496,497,498,499],[],[]]
    [[],[],[],[468,469,470,471,472,473,474,475,476,477,478,479,480,481,482,483],[484,485,486,487,488,489,490,491,492,493,494,495,496,497,498,499],[],[],[],[],[]] (by kernel_rfl) (by kernel_rfl) (B7 (acc:=[]) ?_)
  simp (maxSteps:=2000000)only[hOC,go_sem];repeat(with_reducible first|refine oD ?_|refine And.intro (by first|exact hU|exact hmc) ?_)
  refine hK7 _ ?_;refine oS fun _ hK8=>?_
  refine oR Q9
    [[],[],[0,1],[],[],[3,4],[0,1,2,3,4,5],[0,1,2,3,4,5,6],[0,1,2,3,4,5,6,7]]
    [[],[],[],[],[],[],[],[],[]]
    [[],[],[],[],[],[],[],[],[]] (by kernel_rfl) (by kernel_rfl) (B7 (acc:=[]) ?_)
  simp (maxSteps:=2000000)only[go_sem];repeat(with_reducible first|refine oD ?_|refine And.intro (by first|exact⟨by omega,by omega⟩|omega) ?_)
  refine hK8 _ ?_;refine A2 ?_;simp only[hres,go_sem]
  first
   | exact oF
   | refine ⟨?_, oF⟩
     have hTk:List.take (M3 (pi,ts,ns,os) (pi2,ts2,ns2,os2)).length (M3 (pi,ts,ns,os) (pi2,ts2,ns2,os2))=M3 (pi,ts,ns,os) (pi2,ts2,ns2,os2):=List.take_length
     first|(rw[A0q c0,hTk];done)|(rw[A0q c0,hTk];rfl)|(rw[A0q c0,hTk];exact⟨rfl,rfl⟩)
def A2U:F8:=fun f=>if f=6 then some (.p s7) else A5l f
theorem A7b:B8 Tryz.prog A2U:=F9 B0r (B6 Tryz.func6 rfl (by decide)) Q9
attribute [go_sem] A2U s7
set_option maxRecDepth 100000
set_option maxHeartbeats 8000000
def B1N:F8:=fun f=>match A08 f with
 | some k=>some k
 | none=>A0S f
theorem F7:B8 Tryz.prog B1N:=T3 G3 t2
attribute [go_sem] B1N T0
def A1d:Con:=⟨[.ptr (.prod (.int .i64) (.prod (.int .i64) (.prod (.int .i64) (.row 2 (.int .i64))))),.val ((.row 2 (.int .i64))),.val ((.row 2 (.int .i64))),.val (.int .i64)],[⟨(.row 2 (.int .i64)),true⟩],fun x=>∃tabs,A3h x.1 tabs x.2.1 x.2.2.1,fun x=>A6y x.1.1 x.2.1 x.2.2.1 x.2.2.2.1⟩
theorem B5y:D4 Tryz.prog 96 A1d:=by
  refine A7 Tryz.func96 rfl ?_
  have hres:Tryz.f96.results.toList=[.tmp 8]:=rfl
  rintro⟨⟨(kd:Int),(a:Int),(bb:Int),(fr:List Int)⟩,(ii:List Int),(ss:List Int),(oo:Int),_⟩ hc hL
  simp only[A1d,go_sem] at hL
  simp only[A1d,St.init,St.initG,Tryz.ntmps96,go_sem] 
  obtain⟨tb,hS⟩:∃tb,A3h (kd,a,bb,fr) tb ii ss:=hc
  obtain⟨h1,h2,h3,h4,h5,h6,h7,h8,h9,h10,h11,h12,h13⟩:=A6s hS
  have hi0:=A3Z hS 0
  have hi1:=A3Z hS 1
  refine oS fun _ hK1=>?_;refine oW F7 ?_;simp only[go_sem];refine hK1 _ ?_;refine oS fun _ hK2=>?_;refine oS fun _ hK3=>?_;refine oW F7 ?_;simp only[go_sem];repeat(with_reducible refine oA ?_)
  refine hK3 _ ?_;refine A5 ?_;refine oS fun _ hK4=>?_;refine oW F7 ?_;simp only[go_sem];refine hK4 _ ?_;refine oC rfl ?_ ?_
  ·
   intro c0;refine oS fun _ hK5=>?_
   refine oR F7
     [[],[0],[0,1],[],[3],[3,4],[3,4,5],[0,1,2,3,4,5,6],[0,1,2,3,4,5,6,7]]
     [[436],[436],[436],[372,373,374,375,376,377,378,379,380,381,382,383,384,385,386,387],[372,373,374,375,376,377,378,379,380,381,382,383,384,385,386,387],[372,373,374,375,376,377,378,379,380,381,382,383,384,385,386,387],[372,373,374,375,376,377,378,379,380,381,382,383,384,385,386,387],[],[]]
     [[],[],[372,373,374,375,376,377,378,379,380,381,382,383,384,385,386,387],[],[],[],[436],[],[]] (by kernel_rfl) (by kernel_rfl) (B7 (acc:=[]) ?_)
   simp (maxSteps:=2000000)only[List.nodup_nil,List.take_length,List.length_drop,go_sem];repeat(with_reducible refine oD ?_)
   refine hK5 _ ?_;refine A2 ?_;simp only[hres,go_sem];first|exact oF|(refine⟨?_,oF⟩;first|(have e:kd=6:=(by assumption);subst e;rfl)|(exfalso;omega)|exact(O3 (by omega) (by omega) (by omega) (by omega) (by omega) (by omega) (by omega)).symm)
  intro c0;refine oS fun _ hK6=>?_;refine oW F7 ?_;simp only[List.nodup_nil,List.take_length,List.length_drop,go_sem];refine hK6 _ ?_;refine oC rfl ?_ ?_
  ·
   intro c1;refine oS fun _ hK7=>?_;refine oW F7 ?_;simp (maxSteps:=2000000)only[List.nodup_nil,List.take_length,List.length_drop,go_sem];repeat(with_reducible refine oA ?_)
   refine hK7 _ ?_;refine A2 ?_;simp only[hres,go_sem];first|exact oF|(refine⟨?_,oF⟩;first|(have e:kd=17:=(by assumption);subst e;rfl)|(exfalso;omega)|exact(O3 (by omega) (by omega) (by omega) (by omega) (by omega) (by omega) (by omega)).symm)
  intro c1;refine oS fun _ hK8=>?_;refine oS fun _ hK9=>?_;refine oW F7 ?_;simp only[List.nodup_nil,List.take_length,List.length_drop,go_sem];refine hK9 _ ?_;refine oC rfl ?_ ?_
  ·
   intro c2;refine A3 ?_;simp only[go_sem];refine hK8 _ ?_;refine oC rfl ?_ ?_
   ·
    intro c3;refine oS fun _ hK10=>?_;refine oW F7 ?_;simp only[List.nodup_nil,List.take_length,List.length_drop,go_sem];repeat(with_reducible refine oA ?_)
    refine hK10 _ ?_;refine A2 ?_;simp only[hres,go_sem];first|exact oF|(refine⟨?_,oF⟩;first|(have e:kd=7:=(by assumption);subst e;rfl)|(exfalso;omega)|exact(O3 (by omega) (by omega) (by omega) (by omega) (by omega) (by omega) (by omega)).symm)
   intro c3;refine oS fun _ hK11=>?_;refine oW F7 ?_;simp only[List.nodup_nil,List.take_length,List.length_drop,go_sem];refine hK11 _ ?_;refine oC rfl ?_ ?_
   ·
    intro c4;refine oS fun _ hK12=>?_;refine oW F7 ?_;simp (maxSteps:=2000000)only[List.nodup_nil,List.take_length,List.length_drop,go_sem];repeat(with_reducible refine oA ?_)
    refine hK12 _ ?_;refine A2 ?_;simp only[hres,go_sem];first|exact oF|(refine⟨?_,oF⟩;first|(have e:kd=8:=(by assumption);subst e;rfl)|(exfalso;omega)|exact(O3 (by omega) (by omega) (by omega) (by omega) (by omega) (by omega) (by omega)).symm)
   intro c4;refine oS fun _ hK13=>?_;refine oW F7 ?_;simp only[List.nodup_nil,List.take_length,List.length_drop,go_sem];refine hK13 _ ?_;refine oC rfl ?_ ?_
   ·
    intro c5;refine oS fun _ hK14=>?_
    refine oR F7
      [[],[0],[0,1],[],[3],[3,4],[0,1,2,3,4,5],[0,1,2,3,4,5,6],[0,1,2,3,4,5,6,7]]
      [[],[],[],[],[],[],[],[],[]]
      [[],[],[],[],[],[],[],[],[]] (by kernel_rfl) (by kernel_rfl) (B7 (acc:=[]) ?_)
    simp (maxSteps:=2000000)only[List.nodup_nil,List.take_length,List.length_drop,go_sem];repeat(with_reducible refine oD ?_)
    refine hK14 _ ?_;refine A2 ?_;simp only[hres,go_sem];first|exact oF|(refine⟨?_,oF⟩;first|(have e:kd=12:=(by assumption);subst e;rfl)|(exfalso;omega)|exact(O3 (by omega) (by omega) (by omega) (by omega) (by omega) (by omega) (by omega)).symm)
   intro c5;refine oS fun _ hK15=>?_;refine oW F7 ?_;simp only[List.nodup_nil,List.take_length,List.length_drop,go_sem];refine hK15 _ ?_;refine oC rfl ?_ ?_
   ·
    intro c6;refine oS fun _ hK16=>?_;refine oW F7 ?_;simp (maxSteps:=2000000)only[List.nodup_nil,List.take_length,List.length_drop,go_sem];repeat(with_reducible refine oA ?_)
    refine hK16 _ ?_;refine A2 ?_;simp only[hres,go_sem];first|exact oF|(refine⟨?_,oF⟩;first|(have e:kd=14:=(by assumption);subst e;rfl)|(exfalso;omega)|exact(O3 (by omega) (by omega) (by omega) (by omega) (by omega) (by omega) (by omega)).symm)
   intro c6;refine A3 ?_;simp only[go_sem];refine hK2 _ ?_;refine oS fun _ hK17=>?_;refine oW F7 ?_;simp only[List.nodup_nil,List.take_length,List.length_drop,go_sem];repeat(with_reducible refine oA ?_)
   refine hK17 _ ?_;refine A2 ?_;simp only[hres,go_sem];first|exact oF|(refine⟨?_,oF⟩;first|(have e:kd=7:=(by assumption);subst e;rfl)|(exfalso;omega)|exact(O3 (by omega) (by omega) (by omega) (by omega) (by omega) (by omega) (by omega)).symm)
  intro c2;refine oW F7 ?_;simp only[List.nodup_nil,List.take_length,List.length_drop,go_sem];refine hK8 _ ?_;refine oC rfl ?_ ?_
  ·
   intro c3;refine oS fun _ hK18=>?_;refine oW F7 ?_;simp only[List.nodup_nil,List.take_length,List.length_drop,go_sem];repeat(with_reducible refine oA ?_)
   refine hK18 _ ?_;refine A2 ?_;simp only[hres,go_sem];first|exact oF|(refine⟨?_,oF⟩;first|(have e:kd=16:=(by assumption);subst e;rfl)|(exfalso;omega)|exact(O3 (by omega) (by omega) (by omega) (by omega) (by omega) (by omega) (by omega)).symm)
  intro c3;refine oS fun _ hK19=>?_;refine oW F7 ?_;simp only[List.nodup_nil,List.take_length,List.length_drop,go_sem];refine hK19 _ ?_;refine oC rfl ?_ ?_
  ·
   intro c4;refine oS fun _ hK20=>?_;refine oW F7 ?_;simp (maxSteps:=2000000)only[List.nodup_nil,List.take_length,List.length_drop,go_sem];repeat(with_reducible refine oA ?_)
   refine hK20 _ ?_;refine A2 ?_;simp only[hres,go_sem];first|exact oF|(refine⟨?_,oF⟩;first|(have e:kd=8:=(by assumption);subst e;rfl)|(exfalso;omega)|exact(O3 (by omega) (by omega) (by omega) (by omega) (by omega) (by omega) (by omega)).symm)
  intro c4;refine oS fun _ hK21=>?_;refine oW F7 ?_;simp only[List.nodup_nil,List.take_length,List.length_drop,go_sem];refine hK21 _ ?_;refine oC rfl ?_ ?_
  ·
   intro c5;refine oS fun _ hK22=>?_
   refine oR F7
     [[],[0],[0,1],[],[3],[3,4],[0,1,2,3,4,5],[0,1,2,3,4,5,6],[0,1,2,3,4,5,6,7]]
     [[],[],[],[],[],[],[],[],[]]
     [[],[],[],[],[],[],[],[],[]] (by kernel_rfl) (by kernel_rfl) (B7 (acc:=[]) ?_)
   simp (maxSteps:=2000000)only[List.nodup_nil,List.take_length,List.length_drop,go_sem];repeat(with_reducible refine oD ?_)
   refine hK22 _ ?_;refine A2 ?_;simp only[hres,go_sem];first|exact oF|(refine⟨?_,oF⟩;first|(have e:kd=12:=(by assumption);subst e;rfl)|(exfalso;omega)|exact(O3 (by omega) (by omega) (by omega) (by omega) (by omega) (by omega) (by omega)).symm)
  intro c5;refine oS fun _ hK23=>?_;refine oW F7 ?_;simp only[List.nodup_nil,List.take_length,List.length_drop,go_sem];refine hK23 _ ?_;refine oC rfl ?_ ?_
  ·
   intro c6;refine oS fun _ hK24=>?_;refine oW F7 ?_;simp (maxSteps:=2000000)only[List.nodup_nil,List.take_length,List.length_drop,go_sem];repeat(with_reducible refine oA ?_)
   refine hK24 _ ?_;refine A2 ?_;simp only[hres,go_sem];first|exact oF|(refine⟨?_,oF⟩;first|(have e:kd=14:=(by assumption);subst e;rfl)|(exfalso;omega)|exact(O3 (by omega) (by omega) (by omega) (by omega) (by omega) (by omega) (by omega)).symm)
  intro c6;refine A3 ?_;simp only[go_sem];refine hK2 _ ?_;refine oS fun _ hK25=>?_;refine oW F7 ?_;simp only[List.nodup_nil,List.take_length,List.length_drop,go_sem];repeat(with_reducible refine oA ?_)
  refine hK25 _ ?_;refine A2 ?_;simp only[hres,go_sem];first|exact oF|(refine⟨?_,oF⟩;first|(have e:kd=0:=(by assumption);subst e;rfl)|(exfalso;omega)|exact(O3 (by omega) (by omega) (by omega) (by omega) (by omega) (by omega) (by omega)).symm)
def A5g:F8:=fun f=>if f=96 then some (.p A1d) else B1N f
theorem B1m:B8 Tryz.prog A5g:=F9 B5y (B6 Tryz.func96 rfl (by decide)) F7
attribute [go_sem] A5g A1d
set_option maxRecDepth 100000
set_option maxHeartbeats 1000000
def A5O:Con:=⟨[.ptr (.prod (.int .i64) (.prod (.int .i64) (.prod (.int .i64) (.row 2 (.int .i64))))),.val ((.row 2 (.int .i64))),.val ((.row 2 (.int .i64)))],[⟨(.row 2 (.int .i64)),true⟩],fun x=>C0d x.1 x.2.1 x.2.2.1,fun x=>j6 x.1 x.2.1 x.2.2.1⟩
theorem B9n:D4 Tryz.prog 95 A5O:=by
  refine A7 Tryz.func95 rfl ?_
  have hres:Tryz.f95.results.toList=[.tmp 6]:=rfl
  rintro⟨⟨(kd:Int),(a:Int),(bb:Int),(fr:List Int)⟩,(ff:List Int),(vv:List Int),_⟩ hc hL
  simp only[A5O,go_sem] at hL
  simp only[A5O,St.init,St.initG,Tryz.ntmps95,go_sem] 
  obtain⟨h1,h2,h3⟩:=(show C0d (kd,a,bb,fr) ff vv from hc)
  have h1:kd=1→0≤a∧a < ff.length:=h1
  have h2:J4 vv.length fr=true:=h2
  have h3:fr.length≤1000:=h3
  refine oS fun _ hK1=>?_;refine oW C4 ?_;simp only[go_sem];refine hK1 _ ?_;refine oS fun _ hK2=>?_;refine oS fun _ hK3=>?_;refine oW C4 ?_;simp (maxSteps:=2000000)only[go_sem];repeat(with_reducible refine oA ?_)
  refine hK3 _ ?_;refine oC rfl ?_ ?_
  ·
   intro c0;refine oS fun _ hK4=>?_;refine oW C4 ?_;simp (maxSteps:=2000000)only[List.nodup_nil,go_sem];repeat(with_reducible refine oA ?_)
   refine hK4 _ ?_;refine A2 ?_;simp only[hres,go_sem];first|exact oF|(refine⟨?_,oF⟩;first|exact(C0h c0).symm|exact(B9B c0).symm)
  intro c0;refine A3 ?_;simp only[go_sem];refine hK2 _ ?_;refine oS fun _ hK5=>?_;refine oW C4 ?_;simp (maxSteps:=2000000)only[go_sem];repeat(with_reducible first|refine oA ?_|refine And.intro (by first|exact⟨h3,h2⟩) ?_)
  refine hK5 _ ?_;refine A2 ?_;simp only[hres,go_sem];first|exact oF|(refine⟨?_,oF⟩;first|exact(C0h c0).symm|exact(B9B c0).symm)
def B1K:F8:=fun f=>if f=95 then some (.p A5O) else A0D f
theorem B69:B8 Tryz.prog B1K:=F9 B9n (B6 Tryz.func95 rfl (by decide)) C4
attribute [go_sem] B1K A5O
def A5w:F8:=B1K
theorem B0q:B8 Tryz.prog A5w:=B69
attribute [go_sem] A5w
end Go.Proofs.YtflobmmbhaofbaaGreat
