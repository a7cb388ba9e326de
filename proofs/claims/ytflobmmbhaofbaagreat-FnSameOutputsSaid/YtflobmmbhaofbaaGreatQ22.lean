/-
  Texts of this claim, joined (part 22). No condition beyond those of the theorems.
-/
import Derived.Test.YtflobmmbhaofbaaGreatQ06
import Derived.Test.YtflobmmbhaofbaaGreatQ19
namespace Go.Proofs.YtflobmmbhaofbaaGreat
open Go.RowKit
set_option linter.unusedSimpArgs false
set_option linter.unusedVariables false
set_option maxRecDepth 100000
set_option maxHeartbeats 4000000
def A8W:Con:=⟨[.val ((.row 2 (.int .i64))),.val ((.row 2 (.int .i64)))],[⟨.bool,true⟩],fun _=>True,fun x=>eqD (x.1:List Int) (x.2.1:List Int)⟩
theorem C2a:D4 Tryz.prog 17 A8W:=by
  refine A7 Tryz.func17 rfl ?_
  have hres:Tryz.f17.results.toList=[.tmp 4]:=rfl
  rintro⟨(xs:List Int),(ys:List Int),_⟩ hc hL
  simp only[A8W,go_sem] at hL
  obtain⟨lxs,lys⟩:=hL;simp only[A8W,St.init,St.initG,Tryz.ntmps17,go_sem] 
  refine oS fun _ hK1=>?_;refine oW C4 ?_;simp only[go_sem];refine hK1 _ ?_;refine oS fun _ hK2=>?_;refine oS fun _ hK3=>?_;refine oW C4 ?_;simp (maxSteps:=2000000)only[go_sem];refine hK3 _ ?_;refine oC rfl ?_ ?_
  ·
   intro c0;refine oS fun _ hK4=>?_;refine oW C4 ?_;simp only[go_sem];refine hK4 _ ?_;refine A2 ?_;simp only[hres,go_sem];first|exact oF|(refine⟨?_,oF⟩;exact(B0u (by omega)).symm)
  intro c0;refine A3 ?_;simp only[go_sem];refine hK2 _ ?_;refine oS fun _ hK5=>?_;refine oS fun _ hK6=>?_;refine oW C4 ?_;simp only[go_sem];refine hK6 _ ?_;refine A5 ?_;refine B4 (ι:={ k:Nat // k≤xs.length∧xs.take k=ys.take k }) (fun k=>⟨[zz,.c (.rd [] 2 (.int .i64) (ys)),zz,zz,zz,zz,zz,zz,zz,zz,zz,zz,.c (.rd [] 2 (.int .i64) (xs)),.c (.sc (.int .i64 (xs.length))),.c (.sc (.int .i64 (k.1))),zz,zz,zz,zz,zz,zz,zz,zz,zz,zz,zz],[]⟩) (fun k=>xs.length - k.1) ⟨0,by simp,by simp⟩ ?_ ?_
  ·
   refine oK ?_;simp (maxSteps:=2000000)only[go_sem];all_goals(first|rfl|((repeat' refine And.intro ?_ ?_)<;>first|rfl|simp))
  rintro⟨k,hk,hp⟩ K7 hL7
  refine oS fun _ hK8=>?_;refine oW C4 ?_;simp only[go_sem];refine hK8 _ ?_;refine oS fun _ hK9=>?_;refine oC rfl ?_ ?_
  ·
   intro c1;refine A3 ?_;simp only[go_sem];refine hK9 _ ?_;refine oS fun _ hK10=>?_;refine A5 ?_;refine oS fun _ hK11=>?_;refine oW C4 ?_;simp (maxSteps:=2000000)only[go_sem];repeat(with_reducible refine oA ?_)
   refine hK11 _ ?_;refine oS fun _ hK12=>?_;refine oW C4 ?_;simp (maxSteps:=2000000)only[go_sem];repeat(with_reducible refine oA ?_)
   refine hK12 _ ?_;refine oC rfl ?_ ?_
   ·
    intro c2;refine oS fun _ hK13=>?_;refine oW C4 ?_;simp only[go_sem];refine hK13 _ ?_;refine A2 ?_;simp only[hres,go_sem];first|exact oF|(refine⟨?_,oF⟩;exact(A7J (0:Int) (m:=k) (decide_eq_false (by assumption))).symm)
   intro c2;refine A3 ?_;simp only[go_sem];refine hK10 _ ?_;refine oW C4 ?_;simp only[go_sem];refine hL7 ⟨k+1,by omega,A7Q (d:=(0:Int)) (by omega) (by omega) hp (decide_eq_true (by assumption))⟩ _ (oK ?_) ?_
   ·
    simp (maxSteps:=2000000)only[go_sem];all_goals(first|rfl|((repeat' refine And.intro ?_ ?_)<;>first|rfl|exact wk (by omega)|simp))
   ·
    first|(simp only[];omega)|omega|(simp;omega)
  intro c1;refine C2 ?_;simp only[go_sem];refine hK5 _ ?_;refine oS fun _ hK14=>?_;refine oW C4 ?_;simp only[go_sem];refine hK14 _ ?_;refine A2 ?_;simp only[hres,go_sem];first|exact oF|(refine⟨?_,oF⟩;exact(A7O (m:=k) (by omega) (by omega) hp).symm)
def B4h:F8:=fun f=>if f=17 then some (.p A8W) else A0D f
theorem V4:B8 Tryz.prog B4h:=F9 C2a (B6 Tryz.func17 rfl (by decide)) C4
attribute [go_sem] B4h A8W
def A1X:Con:=⟨[.val ((.row 2 (.int .i64))),.val ((.row 2 (.int .i64)))],[⟨.bool,true⟩],fun _=>True,fun x=>eqD (x.1:List Int) (x.2.1:List Int)⟩
theorem B5J:D4 Tryz.prog 92 A1X:=by
  refine A7 Tryz.func92 rfl ?_
  have hres:Tryz.f92.results.toList=[.tmp 4]:=rfl
  rintro⟨(xs:List Int),(ys:List Int),_⟩ hc hL
  simp only[A1X,go_sem] at hL
  obtain⟨lxs,lys⟩:=hL;simp only[A1X,St.init,St.initG,Tryz.ntmps92,go_sem] 
  refine oS fun _ hK1=>?_;refine oW V4 ?_;simp only[go_sem];refine hK1 _ ?_;refine oS fun _ hK2=>?_;refine oS fun _ hK3=>?_;refine oW V4 ?_;simp (maxSteps:=2000000)only[go_sem];refine hK3 _ ?_;refine oC rfl ?_ ?_
  ·
   intro c0;refine oS fun _ hK4=>?_;refine oW V4 ?_;simp only[go_sem];refine hK4 _ ?_;refine A2 ?_;simp only[hres,go_sem];first|exact oF|(refine⟨?_,oF⟩;exact(B0u (by omega)).symm)
  intro c0;refine A3 ?_;simp only[go_sem];refine hK2 _ ?_;refine oS fun _ hK5=>?_;refine oS fun _ hK6=>?_;refine oW V4 ?_;simp only[go_sem];refine hK6 _ ?_;refine A5 ?_;refine B4 (ι:={ k:Nat // k≤xs.length∧xs.take k=ys.take k }) (fun k=>⟨[.c (.rd [] 2 (.int .i64) (xs)),.c (.rd [] 2 (.int .i64) (ys)),zz,zz,zz,.c (.sc (.int .i64 (k.1))),zz,zz,zz,zz,zz,zz,zz,zz,zz,zz,zz,zz,zz,zz,zz,zz,zz,zz,zz,zz],[]⟩) (fun k=>xs.length - k.1) ⟨0,by simp,by simp⟩ ?_ ?_
  ·
   refine oK ?_;simp (maxSteps:=2000000)only[go_sem];all_goals(first|rfl|((repeat' refine And.intro ?_ ?_)<;>first|rfl|simp))
  rintro⟨k,hk,hp⟩ K7 hL7
  refine oS fun _ hK8=>?_;refine oS fun _ hK9=>?_;refine oW V4 ?_;simp only[go_sem];refine hK9 _ ?_;refine oC rfl ?_ ?_
  ·
   intro c1;refine A3 ?_;simp only[go_sem];refine hK8 _ ?_;refine oS fun _ hK10=>?_;refine A5 ?_;refine oS fun _ hK11=>?_
   refine oR V4
     [[],[],[0,1],[0,1,2],[],[],[4,5],[4,5,6],[0,1,2,3,4,5,6,7]]
     [[],[],[],[],[],[],[],[],[]]
     [[],[],[],[],[],[],[],[],[]] (by kernel_rfl) (by kernel_rfl) (B7 (acc:=[]) ?_)
   simp (maxSteps:=2000000)only[go_sem];repeat(with_reducible refine oD ?_)
   refine hK11 _ ?_;refine oC rfl ?_ ?_
   ·
    intro c2;refine oS fun _ hK12=>?_;refine oW V4 ?_;simp only[go_sem];refine hK12 _ ?_;refine A2 ?_;simp only[hres,go_sem];first|exact oF|(refine⟨?_,oF⟩;exact(A7J (0:Int) (m:=k) (decide_eq_false (by assumption))).symm)
   intro c2;refine A3 ?_;simp only[go_sem];refine hK10 _ ?_;refine oW V4 ?_;simp only[go_sem];refine hL7 ⟨k+1,by omega,A7Q (d:=(0:Int)) (by omega) (by omega) hp (decide_eq_true (by assumption))⟩ _ (oK ?_) ?_
   ·
    simp (maxSteps:=2000000)only[go_sem];all_goals(first|rfl|((repeat' refine And.intro ?_ ?_)<;>first|rfl|exact wk (by omega)|simp))
   ·
    first|(simp only[];omega)|omega|(simp;omega)
  intro c1;refine C2 ?_;simp only[go_sem];refine hK5 _ ?_;refine oS fun _ hK13=>?_;refine oW V4 ?_;simp only[go_sem];refine hK13 _ ?_;refine A2 ?_;simp only[hres,go_sem];first|exact oF|(refine⟨?_,oF⟩;exact(A7O (m:=k) (by omega) (by omega) hp).symm)
def A68:F8:=fun f=>if f=92 then some (.p A1X) else B4h f
theorem T8:B8 Tryz.prog A68:=F9 B5J (B6 Tryz.func92 rfl (by decide)) V4
attribute [go_sem] A68 A1X
def A0C:Con:=⟨[.val ((.prod (.row 26 (.row 2 (.int .i64))) (.prod (.row 56 (.prod (.int .i64) (.prod (.int .i64) (.prod (.int .i64) (.row 2 (.int .i64)))))) (.row 2 (.int .i64))))),.val ((.prod (.int .i64) (.prod (.int .i64) (.prod (.int .i64) (.row 2 (.int .i64)))))),.val ((.prod (.int .i64) (.prod (.int .i64) (.prod (.int .i64) (.row 2 (.int .i64))))))],[⟨.bool,true⟩],fun x=>T5 x.1.1 x.2.1∧T5 x.1.1 x.2.2.1,fun x=>A2W x.1.1 x.2.1 x.2.2.1⟩
theorem B3m:D4 Tryz.prog 38 A0C:=by
  refine A7 Tryz.func38 rfl ?_
  have hres:Tryz.f38.results.toList=[.tmp 6]:=rfl
  rintro⟨⟨(ts:List (List Int)),(ns:List A4),(os:List Int)⟩,⟨(kd:Int),(a:Int),(bb:Int),(fr:List Int)⟩,⟨(kd2:Int),(a2:Int),(bb2:Int),(fr2:List Int)⟩,_⟩ hc hL
  simp only[A0C,go_sem] at hL
  simp only[A0C,St.init,St.initG,Tryz.ntmps38,go_sem] 
  obtain⟨h1,h2⟩:=(show T5 ts (kd,a,bb,fr)∧T5 ts (kd2,a2,bb2,fr2) from hc)
  have h1:kd=13→0≤a∧a < ts.length:=h1
  have h2:kd2=13→0≤a2∧a2 < ts.length:=h2
  refine oS fun _ hK1=>?_;refine oW T8 ?_;simp only[go_sem];refine hK1 _ ?_;refine oS fun _ hK2=>?_;refine oS fun _ hK3=>?_;refine oW T8 ?_;simp (maxSteps:=2000000)only[go_sem];repeat' (with_reducible first|refine oA ?_|refine oT (fun g1=>?_) (fun g1=>?_)|refine oE (fun g1=>?_) (fun g1=>?_))
  all_goals
   refine hK3 _ ?_;refine D2 rfl ?_ ?_
   ·
    intro c0;try simp only[zA,zB,zC,zD,zE,zF,zG,zH,zI] at c0
    all_goals
     refine oS fun _ hK4=>?_;refine oW T8 ?_;simp only[go_sem];refine hK4 _ ?_;refine A2 ?_;simp only[hres,go_sem];first|exact oF|(refine⟨?_,oF⟩;first|exact(B74 (a:=(kd,a,bb,fr)) (b:=(kd2,a2,bb2,fr2)) (show ¬kd=kd2 by assumption)).symm|exact(B6x (a:=(kd,a,bb,fr)) (b:=(kd2,a2,bb2,fr2)) (show ¬bb=bb2 by assumption)).symm)
   ·
    intro c0;try simp only[zA,zB,zC,zD,zE,zF,zG,zH,zI] at c0
    all_goals
     refine A3 ?_;simp only[go_sem];refine hK2 _ ?_;refine oS fun _ hK5=>?_;refine oS fun _ hK6=>?_;refine oW T8 ?_;simp only[go_sem];repeat(with_reducible refine oA ?_)
     refine hK6 _ ?_;refine D2 rfl ?_ ?_
     ·
      intro c1;try simp only[zA,zB,zC,zD,zE,zF,zG,zH,zI] at c1
      all_goals
       refine oS fun _ hK7=>?_;have h3:=h1 (by assumption)
       have e1:kd=kd2:=by assumption
       have h4:=h2 (by omega)
       refine oR T8
         [[],[0],[],[2],[0,1,2,3],[0,1,2,3,4],[],[6],[],[8],[6,7,8,9],[6,7,8,9,10],[0,1,2,3,4,5,6,7,8,9,10,11],[0,1,2,3,4,5,6,7,8,9,10,11,12]]
         [[],[],[],[],[],[],[],[],[],[],[],[],[],[]]
         [[],[],[],[],[],[],[],[],[],[],[],[],[],[]] (by kernel_rfl) (by kernel_rfl) (B7 (acc:=[]) ?_)
       simp (maxSteps:=2000000)only[go_sem];repeat(with_reducible first|refine oD ?_|refine And.intro (by first|exact⟨by omega,by omega⟩) ?_)
       refine hK7 _ ?_;refine A2 ?_;simp only[hres,go_sem];first|exact oF|(refine⟨?_,oF⟩;exact(B4N (a:=(kd,a,bb,fr)) (b:=(kd2,a2,bb2,fr2)) (show kd=kd2 by assumption) (show bb=bb2 by assumption) (show kd=13 by assumption)).symm)
     ·
      intro c1;try simp only[zA,zB,zC,zD,zE,zF,zG,zH,zI] at c1
      all_goals
       refine A3 ?_;simp only[go_sem];refine hK5 _ ?_;refine oS fun _ hK8=>?_;refine oW T8 ?_;simp (maxSteps:=2000000)only[go_sem];repeat(with_reducible refine oA ?_)
       refine hK8 _ ?_;refine A2 ?_;simp only[hres,go_sem];first|exact oF|(refine⟨?_,oF⟩;exact(B9I (a:=(kd,a,bb,fr)) (b:=(kd2,a2,bb2,fr2)) (show kd=kd2 by assumption) (show bb=bb2 by assumption) (show ¬kd=13 by assumption)).symm)
def A47:F8:=fun f=>if f=38 then some (.p A0C) else A68 f
theorem S6:B8 Tryz.prog A47:=F9 B3m (B6 Tryz.func38 rfl (by decide)) T8
attribute [go_sem] A47 A0C
def A3J:Con:=⟨[.ptr (.prod (.int .i64) (.prod (.row 26 (.row 2 (.int .i64))) (.prod (.row 56 (.prod (.int .i64) (.prod (.int .i64) (.prod (.int .i64) (.row 2 (.int .i64)))))) (.row 2 (.int .i64))))),.ptr (.prod (.int .i64) (.prod (.int .i64) (.prod (.int .i64) (.row 2 (.int .i64))))),.ptr (.prod (.int .i64) (.prod (.int .i64) (.prod (.int .i64) (.row 2 (.int .i64)))))],[⟨.bool,true⟩],fun x=>T5 x.1.2.1 x.2.1∧T5 x.1.2.1 x.2.2.1,fun x=>A2W x.1.2.1 x.2.1 x.2.2.1⟩
theorem B7r:D4 Tryz.prog 67 A3J:=by
  refine A7 Tryz.func67 rfl ?_
  have hres:Tryz.f67.results.toList=[.tmp 6]:=rfl
  rintro⟨⟨(pi:Int),(ts:List (List Int)),(ns:List A4),(os:List Int)⟩,⟨(kd:Int),(a:Int),(bb:Int),(fr:List Int)⟩,⟨(kd2:Int),(a2:Int),(bb2:Int),(fr2:List Int)⟩,_⟩ hc hL
  simp only[A3J,go_sem] at hL
  simp only[A3J,St.init,St.initG,Tryz.ntmps67,go_sem] 
  obtain⟨h1,h2⟩:=(show T5 ts (kd,a,bb,fr)∧T5 ts (kd2,a2,bb2,fr2) from hc)
  have h1:kd=13→0≤a∧a < ts.length:=h1
  have h2:kd2=13→0≤a2∧a2 < ts.length:=h2
  refine oS fun _ hK1=>?_;refine oW S6 ?_;simp only[go_sem];refine hK1 _ ?_;refine oS fun _ hK2=>?_;refine oS fun _ hK3=>?_
  refine oR S6
    [[],[0],[0,1],[0,1,2],[],[4],[4,5],[4,5,6],[0,1,2,3,4,5,6,7],[0,1,2,3,4,5,6,7,8],[0,1,2,3,4,5,6,7,8,9],[0,1,2,3,4,5,6,7,8,9,10],[0,1,2,3,4,5,6,7,8,9,10,11],[0,1,2,3,4,5,6,7,8,9,10,11,12],[0,1,2,3,4,5,6,7,8,9],[0,1,2,3,4,5,6,7,8,9,14],[0,1,2,3,4,5,6,7,8,9,14,15],[0,1,2,3,4,5,6,7,8,9,14,15,16],[0,1,2,3,4,5,6,7,8,9,10,11,12,13,14,15,16,17],[0,1,2,3,4,5,6,7,8,9,10,11,12,13,14,15,16,17,18]]
    [[],[],[],[],[],[],[],[],[],[],[],[],[],[],[],[],[],[],[],[]]
    [[],[],[],[],[],[],[],[],[],[],[],[],[],[],[],[],[],[],[],[]] (by kernel_rfl) (by kernel_rfl) (B7 (acc:=[]) ?_)
  simp (maxSteps:=2000000)only[go_sem];repeat' (with_reducible first|refine oD ?_|refine oT (fun g1=>?_) (fun g1=>?_)|refine oE (fun g1=>?_) (fun g1=>?_))
  all_goals
   refine hK3 _ ?_;refine D2 rfl ?_ ?_
   ·
    intro c0;try simp only[zA,zB,zC,zD,zE,zF,zG,zH,zI] at c0
    all_goals
     refine oS fun _ hK4=>?_;refine oW S6 ?_;simp only[go_sem];refine hK4 _ ?_;refine A2 ?_;simp only[hres,go_sem];first|exact oF|(refine⟨?_,oF⟩;first|exact(B74 (a:=(kd,a,bb,fr)) (b:=(kd2,a2,bb2,fr2)) (show ¬kd=kd2 by assumption)).symm|exact(B6x (a:=(kd,a,bb,fr)) (b:=(kd2,a2,bb2,fr2)) (show ¬bb=bb2 by assumption)).symm)
   ·
    intro c0;try simp only[zA,zB,zC,zD,zE,zF,zG,zH,zI] at c0
    all_goals
     refine A3 ?_;simp only[go_sem];refine hK2 _ ?_;refine oS fun _ hK5=>?_;refine oS fun _ hK6=>?_;refine oW S6 ?_;simp (maxSteps:=2000000)only[go_sem];repeat(with_reducible refine oA ?_)
     refine hK6 _ ?_;refine D2 rfl ?_ ?_
     ·
      intro c1;try simp only[zA,zB,zC,zD,zE,zF,zG,zH,zI] at c1
      all_goals
       refine oS fun _ hK7=>?_;have h3:=h1 (by assumption)
       have e1:kd=kd2:=by assumption
       have h4:=h2 (by omega)
       refine oR S6
         [[],[0],[0,1],[0,1,2],[],[4],[4,5],[4,5,6],[0,1,2,3,4,5,6,7],[0,1,2,3,4,5,6,7,8],[],[10],[10,11],[10,11,12],[],[14],[14,15],[14,15,16],[10,11,12,13,14,15,16,17],[10,11,12,13,14,15,16,17,18],[0,1,2,3,4,5,6,7,8,9,10,11,12,13,14,15,16,17,18,19],[0,1,2,3,4,5,6,7,8,9,10,11,12,13,14,15,16,17,18,19,20]]
         [[],[],[],[],[],[],[],[],[],[],[],[],[],[],[],[],[],[],[],[],[],[]]
         [[],[],[],[],[],[],[],[],[],[],[],[],[],[],[],[],[],[],[],[],[],[]] (by kernel_rfl) (by kernel_rfl) (B7 (acc:=[]) ?_)
       simp (maxSteps:=2000000)only[go_sem];repeat(with_reducible first|refine oD ?_|refine And.intro (by first|exact⟨by omega,by omega⟩) ?_)
       refine hK7 _ ?_;refine A2 ?_;simp only[hres,go_sem];first|exact oF|(refine⟨?_,oF⟩;exact(B4N (a:=(kd,a,bb,fr)) (b:=(kd2,a2,bb2,fr2)) (show kd=kd2 by assumption) (show bb=bb2 by assumption) (show kd=13 by assumption)).symm)
     ·
      intro c1;try simp only[zA,zB,zC,zD,zE,zF,zG,zH,zI] at c1
      all_goals
       refine A3 ?_;simp only[go_sem];refine hK5 _ ?_;refine oS fun _ hK8=>?_
       refine oR S6
         [[],[0],[0,1],[0,1,2],[],[4],[4,5],[4,5,6],[0,1,2,3,4,5,6,7],[0,1,2,3,4,5,6,7,8]]
         [[],[],[],[],[],[],[],[],[],[]]
         [[],[],[],[],[],[],[],[],[],[]] (by kernel_rfl) (by kernel_rfl) (B7 (acc:=[]) ?_)
       simp (maxSteps:=2000000)only[go_sem];repeat(with_reducible refine oD ?_)
       refine hK8 _ ?_;refine A2 ?_;simp only[hres,go_sem];first|exact oF|(refine⟨?_,oF⟩;exact(B9I (a:=(kd,a,bb,fr)) (b:=(kd2,a2,bb2,fr2)) (show kd=kd2 by assumption) (show bb=bb2 by assumption) (show ¬kd=13 by assumption)).symm)
def A7y:F8:=fun f=>if f=67 then some (.p A3J) else A47 f
theorem A3M:B8 Tryz.prog A7y:=F9 B7r (B6 Tryz.func67 rfl (by decide)) S6
attribute [go_sem] A7y A3J
def A4g:Con:=⟨[.val (.int .i64)],[⟨.bool,true⟩],fun _=>True,fun _=>false⟩
theorem B9D:D4 Tryz.prog 142 A4g:=by
  refine A7 Tryz.func142 rfl ?_
  have hres:Tryz.f142.results.toList=[.tmp 2]:=rfl
  rintro⟨(x:Int),_⟩ hc hL
  simp only[A4g,go_sem] at hL
  simp only[A4g,St.init,St.initG,Tryz.ntmps142,go_sem] 
  refine oS fun _ hK1=>?_;refine oW A3M ?_;simp only[go_sem];refine hK1 _ ?_;refine oS fun _ hK2=>?_;refine oW A3M ?_;simp only[go_sem];refine hK2 _ ?_;refine A2 ?_;simp only[hres,go_sem];first|exact oF|(refine⟨?_,oF⟩;first|rfl|simp)
def B2X:F8:=fun f=>if f=142 then some (.p A4g) else A7y f
theorem A45:B8 Tryz.prog B2X:=F9 B9D (B6 Tryz.func142 rfl (by decide)) A3M
attribute [go_sem] B2X A4g
def A1c:Con:=⟨[.val (.int .i64),.val (.int .i64)],[⟨.bool,true⟩],fun _=>True,fun x=>decide (x.1 < x.2.1)⟩
theorem B4X:D4 Tryz.prog 132 A1c:=by
  refine A7 Tryz.func132 rfl ?_
  have hres:Tryz.f132.results.toList=[.tmp 4]:=rfl
  rintro⟨(x:Int),(y:Int),_⟩ hc hL
  simp only[A1c,go_sem] at hL
  simp only[A1c,St.init,St.initG,Tryz.ntmps132,go_sem] 
  refine oS fun _ hK1=>?_;refine oW A45 ?_;simp only[go_sem];refine hK1 _ ?_;refine oS fun _ hK2=>?_;refine oW A45 ?_;simp (maxSteps:=2000000)only[go_sem];repeat' (with_reducible first|refine oA ?_|refine oT (fun g1=>?_) (fun g1=>?_)|refine oE (fun g1=>?_) (fun g1=>?_))
  all_goals
   refine hK2 _ ?_;refine A2 ?_;simp only[hres,go_sem];first|exact oF|(refine⟨?_,oF⟩;first|rfl|simp)
def A67:F8:=fun f=>if f=132 then some (.p A1c) else B2X f
theorem Q5:B8 Tryz.prog A67:=F9 B4X (B6 Tryz.func132 rfl (by decide)) A45
attribute [go_sem] A67 A1c
def A01:GCon where
  ps:=[.ow 0,.val (.int .i64),.val (.int .i64)]
  os:=[.row 2 (.int .i64)]
  c:=fun x=>x.1.2.1=0∧x.1.2.2.1=(x.2.1.length:Int)∧x.2.1.length≤12
  r:=fun _=>.tup []
  o:=fun x=>[(30,.row 2 (.int .i64) (A63 x.2.1 (List.length x.2.1 - 1)) [])]
  ok:=by
    rintro⟨⟨_,(aa:Int),(be:Int),_⟩,⟨(xs:List Int),_⟩⟩
    exact⟨rfl,rfl,by decide⟩
theorem B4q:W3 Tryz.prog 126 A01:=by
  refine D8 Tryz.func126 rfl ?_
  have hres:Tryz.f126.results.toList=[]:=rfl
  rintro⟨⟨_,(aa:Int),(be:Int),_⟩,⟨(xs:List Int),_⟩⟩ hc hL hO
  simp only[A01,go_sem] at hL
  simp only[A01,go_sem] at hO
  simp only[A01,St.init,St.initG,Tryz.ntmps126,go_sem] 
  obtain⟨h1,h2,h3⟩:=(show aa=0∧be=(xs.length:Int)∧xs.length≤12 from hc)
  subst h1 h2
  refine oS fun _ hK1=>?_;refine oW Q5 ?_;simp only[go_sem];refine hK1 _ ?_;refine A5 ?_;refine B4 (ι:={ k:Nat // k≤xs.length - 1 }) (fun k=>⟨[.c (.ow 30),.c (.sc (.int .i64 (0))),.c (.sc (.int .i64 (xs.length))),zz,zz,zz,.c (.sc (.int .i64 (((k.1+1:Nat):Int)))),zz,zz,zz,zz,zz,zz,zz,zz,zz,zz,zz,zz,zz,zz,zz,zz,zz,zz,zz,zz,zz,zz,zz,zz,zz,zz,zz,zz,zz,zz,zz,zz,zz,zz,zz,zz,zz,zz,zz,zz,zz,zz],[(30,.row 2 (.int .i64) (A63 xs k.1) [])]⟩) (fun k=>xs.length - k.1) ⟨0,by simp⟩ ?_ ?_
  ·
   refine oK ?_;simp (maxSteps:=2000000)only[go_sem];all_goals((repeat' refine And.intro ?_ ?_)<;>first|rfl|decide|simp)
  rintro⟨k,hk⟩ K2 hL2
  have hil:=B3w xs k
  refine oS fun _ hK3=>?_;refine oS fun _ hK4=>?_;refine oW Q5 ?_;simp only[go_sem];refine hK4 _ ?_;refine oC rfl ?_ ?_
  ·
   intro c0;refine A3 ?_;simp only[go_sem];refine hK3 _ ?_;refine oS fun _ hK5=>?_;refine A5 ?_;refine oS fun _ hK6=>?_;refine oW Q5 ?_;simp only[go_sem];refine hK6 _ ?_;refine A5 ?_;refine B4 (ι:={ s:Nat × List Int // s.1≤k+1∧s.2.length=xs.length∧bub s.2 s.1=bub (A63 xs k) (k+1) }) (fun k'=>⟨[.c (.ow 30),.c (.sc (.int .i64 (0))),.c (.sc (.int .i64 (xs.length))),zz,zz,zz,.c (.sc (.int .i64 (((k+1:Nat):Int)))),.c (.sc (.int .i64 ((k'.1.1:Int)))),zz,zz,zz,zz,zz,zz,zz,zz,zz,zz,zz,zz,zz,zz,zz,zz,zz,zz,zz,zz,zz,zz,zz,zz,zz,zz,zz,zz,zz,zz,zz,zz,zz,zz,zz,zz,zz,zz,zz,zz,zz],[(30,.row 2 (.int .i64) (k'.1.2) [])]⟩) (fun k'=>k'.1.1) ⟨(k+1,A63 xs k),by simp,B3w xs k,rfl⟩ ?_ ?_
   ·
    refine oK ?_;simp (maxSteps:=2000000)only[go_sem];all_goals((repeat' refine And.intro ?_ ?_)<;>first|rfl|simp)
   rintro⟨⟨j,l⟩,hj,hl,hb⟩ K7 hL7
   have hj:j≤k+1:=hj
   have hl:l.length=xs.length:=hl
   have hb:bub l j=bub (A63 xs k) (k+1):=hb
   have hw1:0 < j→IntKind.i64.wrap ((j:Int) - 1)=((j - 1:Nat):Int):=fun h=>by rw[G9 (by omega)];omega
   obtain⟨j1,hj1⟩:∃j1:Nat,j1=j - 1:=⟨_,rfl⟩
   refine oS fun _ hK8=>?_;refine oS fun _ hK9=>?_
   refine oR Q5
     [[],[],[0,1],[0,1,2],[0,1,2,3],[0,1,2,3],[0,1,2,3,4,5],[0,1,2,3,4,5,6],[0,1,2,3],[0,1,2,3],[0,1,2,3,9],[0,1,2,3,8,9,10],[0,1,2,3,8,9,10,11],[0,1,2,3,4,5,6,7,8,9,10,11,12],[0,1,2,3,4,5,6,7,8,9,10,11,12,13]]
     [[],[],[],[],[],[],[],[],[],[],[],[],[],[],[]]
     [[],[],[],[],[],[],[],[],[],[],[],[],[],[],[]] (by kernel_rfl) (by kernel_rfl) (B7 (acc:=[]) ?_)
   simp (maxSteps:=2000000)only[go_sem];repeat' (with_reducible first|refine oD ?_|refine And.intro (by first|exact⟨by omega,by omega⟩|(rw[G9 (by omega)];exact⟨by omega,by omega⟩)|(rw[G9 (by omega)];omega)) ?_|refine oT (fun g4=>?_) (fun g4=>?_)|refine oE (fun g4=>?_) (fun g4=>?_))
   all_goals
    refine hK9 _ ?_;refine D2 rfl ?_ ?_
    ·
     intro c1;try simp only[zA,zB,zC,zD,zE,zF,zG,zH,zI] at c1
     all_goals
      have hjp:0 < j:=by omega
      have hwj0:=hw1 hjp
      have hwj:IntKind.i64.wrap ((j:Int) - 1)=(j1:Int):=by rw[hwj0,hj1]
      have hjj:j=j1+1:=by omega
      have hlt:l.getD (j1+1) 0 < l.getD j1 0:=by
        have hc9:=c1
        rw[hwj] at hc9;simp only[Int.toNat_natCast] at hc9
        rw[←hjj];exact hc9
      have hnb:bub ((l.set j (l.getD j1 0)).set j1 (l.getD j 0)) j1=bub (A63 xs k) (k+1):=by rw[←hb,hjj,C0t hlt]
      refine A3 ?_;simp only[go_sem];refine hK8 _ ?_;refine oS fun _ hK10=>?_;refine A5 ?_
      refine oR Q5
        [[],[],[],[],[3],[],[],[6],[5,6,7],[5,6,7,8],[],[],[10,11],[10,11,12],[0,1,5,6,7,8,9,10,11,12,13],[0,1,5,6,7,8,9,10,11,12,13,14],[0,1,2,3,4,5,6,7,8,9,10,11,12,13,14,15],[0,1,2,3,4,5,6,7,8,9,10,11,12,13,14,15,16]]
        [[],[],[1000030],[1000030],[1000030],[],[],[],[],[],[],[],[],[],[],[],[],[]]
        [[],[],[],[],[],[],[],[],[],[],[],[],[],[],[],[1000030],[],[]] (by kernel_rfl) (by kernel_rfl) (B7 (acc:=[]) ?_)
      simp (maxSteps:=2000000)only[List.nodup_nil,hwj,List.length_set,go_sem];repeat(with_reducible first|refine oD ?_|refine And.intro (by first|exact⟨by omega,by omega⟩|omega) ?_)
      refine hK10 _ ?_;refine oW Q5 ?_;simp only[go_sem];refine hL7 ⟨(j1,(l.set j (l.getD j1 0)).set j1 (l.getD j 0)),by show j1≤_;omega,by simp[hl],hnb⟩ _ (oK ?_) ?_
      ·
       simp (maxSteps:=2000000)only[go_sem];all_goals((repeat' refine And.intro ?_ ?_)<;>first|rfl|(rw[hwj];simp)|(rw[hwj])|exact hwj|(simp;done))
      ·
       first|(simp only[];omega)|omega|(simp;omega)
    ·
     intro c1;try simp only[zA,zB,zC,zD,zE,zF,zG,zH,zI] at c1
     all_goals
      have hfin:l=A63 xs (k+1):=by
        show l=bub (A63 xs k) (k+1)
        rw[←hb];cases j with
        | zero=>rfl
        | succ q =>
          have hwj:=hw1 (by omega)
          rw[B8x];intro hlt;have hwj:IntKind.i64.wrap (((q+1:Nat):Int) - 1)=(q:Int):=hwj
          first|(exfalso;omega)|(have hc9:=c1;rw[hwj] at hc9;simp only[Int.toNat_natCast] at hc9;exact absurd hlt (by omega))
      refine C2 ?_;simp only[go_sem];refine hK5 _ ?_;refine oW Q5 ?_;simp only[go_sem];refine hL2 ⟨k+1,by omega⟩ _ (oK ?_) ?_
      ·
       simp (maxSteps:=2000000)only[go_sem];all_goals((repeat' refine And.intro ?_ ?_)<;>first|rfl|exact wk (by omega)|exact hfin)
      ·
       first|(simp only[];omega)|omega|(simp;omega)
  intro c0;have hkl:k=xs.length - 1:=by omega
  refine C2 ?_;simp only[go_sem];simp (maxSteps:=2000000)only[hres,go_sem]
  first
   | exact oG
   | refine ⟨oG, ?_⟩
     have hk3:k=xs.length - 1:=by omega
     (repeat' refine And.intro ?_ ?_)<;>first|rfl|(rw[hk3];done)|(rw[hk3];rfl)
def A5v:F8:=fun f=>if f=126 then some (.g A01) else A67 f
theorem X2:B8 Tryz.prog A5v:=a8 B4q (B6 Tryz.func126 rfl (by decide)) Q5
attribute [go_sem] A5v A01
def B0G:GCon where
  ps:=[.ow 0,.val (.int .i64),.val (.int .i64),.val (.int .i64)]
  os:=[.row 2 (.int .i64)]
  c:=fun x=>x.1.2.1=0∧x.1.2.2.1=(x.2.1.length:Int)∧x.2.1.length≤12
  r:=fun _=>.tup []
  o:=fun x=>[(30,.row 2 (.int .i64) (A63 x.2.1 (List.length x.2.1 - 1)) [])]
  ok:=by
    rintro⟨⟨_,(aa:Int),(be:Int),(lm:Int),_⟩,⟨(xs:List Int),_⟩⟩
    exact⟨rfl,rfl,by decide⟩
theorem C3X:W3 Tryz.prog 110 B0G:=by
  refine D8 Tryz.func110 rfl ?_
  have hres:Tryz.f110.results.toList=[]:=rfl
  rintro⟨⟨_,(aa:Int),(be:Int),(lm:Int),_⟩,⟨(xs:List Int),_⟩⟩ hc hL hO
  simp only[B0G,go_sem] at hL
  simp only[B0G,go_sem] at hO
  simp only[B0G,St.init,St.initG,Tryz.ntmps110,go_sem] 
  obtain⟨h1,h2,h3⟩:=(show aa=0∧be=(xs.length:Int)∧xs.length≤12 from hc)
  subst h1 h2
  have hw:IntKind.i64.wrap ((xs.length:Int) - 0)=xs.length:=G9 (by omega)
  refine oS fun _ hK1=>?_;refine oW X2 ?_;simp only[go_sem];refine hK1 _ ?_;refine oS fun _ hK2=>?_;refine oW X2 ?_;simp only[go_sem];refine hK2 _ ?_;refine A5 ?_;refine B4 (ι:={ k:Nat // k=0 }) (fun k=>⟨[.c (.ow 30),.c (.sc (.int .i64 (0))),.c (.sc (.int .i64 (xs.length))),.c (.sc (.int .i64 (lm))),zz,zz,zz,zz,.c (.sc (.bool (true))),.c (.sc (.bool (true))),zz,zz,zz,zz,zz,zz,zz,zz,zz,zz,zz,zz,zz,zz,zz,zz,zz,zz,zz,zz,zz,zz,zz,zz,zz,zz,zz,zz,zz,zz,zz,zz,zz,zz,zz,zz,zz,zz,zz,zz,zz,zz,zz,zz,zz,zz,zz,zz,zz,zz,zz,zz,zz,zz,zz,zz,zz,zz,zz,zz,zz,zz,zz,zz,zz,zz,zz,zz,zz,zz,zz,zz,zz,zz,zz,zz,zz,zz,zz,zz,zz,zz,zz,zz,zz,zz,zz,zz,zz,zz,zz,zz,zz,zz,zz,zz,zz,zz,zz,zz,zz,zz,zz,zz,zz,zz,zz,zz,zz,zz,zz,zz,zz,zz,zz,zz,zz,zz,zz,zz,zz,zz,zz,zz],[(30,.row 2 (.int .i64) (xs) [])]⟩) (fun k=>k.1) ⟨0,rfl⟩ ?_ ?_
  ·
   refine oK ?_;simp (maxSteps:=2000000)only[go_sem];all_goals((repeat' refine And.intro ?_ ?_)<;>first|rfl|simp)
  rintro⟨k,hk⟩ K3 hL3
  refine A5 ?_;refine oS fun _ hK4=>?_;refine oW X2 ?_;simp only[hw,go_sem];refine hK4 _ ?_;refine oS fun _ hK5=>?_;refine oS fun _ hK6=>?_;refine oW X2 ?_;simp only[go_sem];refine hK6 _ ?_;refine oC rfl ?_ ?_
  ·
   intro c0;refine oS fun _ hK7=>?_;refine oW X2 ?_;simp only[go_sem];repeat(with_reducible first|refine oA ?_|refine And.intro (by first|exact⟨rfl,rfl,h3⟩) ?_)
   refine hK7 _ ?_;refine A2 ?_;simp only[hres,go_sem];first|exact oG|(refine⟨oG,?_⟩;(repeat' refine And.intro ?_ ?_)<;>first|rfl)
  intro c0;exfalso;omega
def B9J:F8:=fun f=>if f=110 then some (.g B0G) else A5v f
theorem A1e:B8 Tryz.prog B9J:=a8 C3X (B6 Tryz.func110 rfl (by decide)) X2
attribute [go_sem] B9J B0G
def A4s:Con:=⟨[.val (.int .u64)],[⟨.int .i64,true⟩],fun x=>O7 x.1 0 2=true,fun x=>x.1⟩
theorem C07:D4 Tryz.prog 136 A4s:=by
  refine A7 Tryz.func136 rfl ?_
  have hres:Tryz.f136.results.toList=[.tmp 2]:=rfl
  rintro⟨(x:Int),_⟩ hc hL
  simp only[A4s,go_sem] at hL
  simp only[A4s,St.init,St.initG,Tryz.ntmps136,go_sem] 
  obtain⟨h1,h2⟩:=E0.1 (show O7 x 0 2=true from hc)
  have hw8:IntKind.u8.wrap x=x:=by rcases (by omega:x=0∨x=1∨x=2) with rfl|rfl|rfl<;>rfl
  refine oS fun _ hK1=>?_;refine oW A1e ?_;simp only[go_sem];refine hK1 _ ?_;refine oS fun _ hK2=>?_;refine oS fun _ hK3=>?_;refine oW A1e ?_;simp only[go_sem];refine hK3 _ ?_;refine oC rfl ?_ ?_
  ·
   intro c0;exfalso;omega
  intro c0;refine A3 ?_;simp only[go_sem];refine hK2 _ ?_;refine oS fun _ hK4=>?_;refine oS fun _ hK5=>?_;refine oW A1e ?_;simp only[go_sem];refine hK5 _ ?_;refine oC rfl ?_ ?_
  ·
   intro c1;exfalso;omega
  intro c1;refine A3 ?_;simp only[go_sem];refine hK4 _ ?_;refine oS fun _ hK6=>?_;refine oS fun _ hK7=>?_;refine oW A1e ?_;simp only[go_sem];refine hK7 _ ?_;refine oC rfl ?_ ?_
  ·
   intro c2;exfalso;omega
  intro c2;refine A3 ?_;simp only[go_sem];refine hK6 _ ?_;refine oS fun _ hK8=>?_;refine oW A1e ?_;simp (maxSteps:=2000000)only[hw8,go_sem];repeat(with_reducible first|refine oA ?_|refine And.intro (by first|exact⟨h1,Int.lt_of_le_of_lt h2 (by decide)⟩) ?_)
  refine hK8 _ ?_;refine A2 ?_;simp only[hres,go_sem]
  first
   | exact oF
   | refine ⟨?_, oF⟩
     clear hw8;rcases (by omega:x=0∨x=1∨x=2) with rfl|rfl|rfl<;>rfl
def B13:F8:=fun f=>if f=136 then some (.p A4s) else B9J f
theorem A3w:B8 Tryz.prog B13:=F9 C07 (B6 Tryz.func136 rfl (by decide)) A1e
attribute [go_sem] B13 A4s
def A1a:Con:=⟨[.val (.int .u64)],[⟨.int .i64,true⟩],fun x=>O7 x.1 0 2=true,fun x=>x.1⟩
theorem B5W:D4 Tryz.prog 111 A1a:=by
  refine A7 Tryz.func111 rfl ?_
  have hres:Tryz.f111.results.toList=[.tmp 2]:=rfl
  rintro⟨(x:Int),_⟩ hc hL
  simp only[A1a,go_sem] at hL
  simp only[A1a,St.init,St.initG,Tryz.ntmps111,go_sem] 
  have hx2:O7 x 0 2=true:=hc
  refine oS fun _ hK1=>?_;refine oW A3w ?_;simp only[go_sem];repeat(with_reducible first|refine oA ?_|refine And.intro (by first|exact hx2) ?_)
  refine hK1 _ ?_;refine oS fun _ hK2=>?_;refine oC rfl ?_ ?_
  ·
   intro c0;exact absurd c0 (by simp)
  intro c0;refine A3 ?_;simp only[go_sem];refine hK2 _ ?_;refine oS fun _ hK3=>?_;refine oW A3w ?_;simp only[go_sem];repeat(with_reducible first|refine oA ?_|refine And.intro (by first|exact hx2) ?_)
  refine hK3 _ ?_;refine A2 ?_;simp only[hres,go_sem];first|exact oF|exact oFr
def A6U:F8:=fun f=>if f=111 then some (.p A1a) else B13 f
theorem A2D:B8 Tryz.prog A6U:=F9 B5W (B6 Tryz.func111 rfl (by decide)) A3w
attribute [go_sem] A6U A1a
def A3U:GCon where
  ps:=[.ow 0]
  os:=[.row 2 (.int .i64)]
  c:=fun x=>List.length x.2.1=2
  r:=fun _=>.tup []
  o:=fun x=>[(30,.row 2 (.int .i64) (srt x.2.1) [])]
  ok:=by
    rintro⟨_,⟨(xs:List Int),_⟩⟩
    exact⟨rfl,rfl,by decide⟩
theorem B9v:W3 Tryz.prog 89 A3U:=by
  refine D8 Tryz.func89 rfl ?_
  have hres:Tryz.f89.results.toList=[]:=rfl
  rintro⟨_,⟨(xs:List Int),_⟩⟩ hc hL hO
  simp only[A3U,go_sem] at hL
  simp only[A3U,go_sem] at hO
  simp only[A3U,St.init,St.initG,Tryz.ntmps89,go_sem] 
  have h2:xs.length=2:=hc
  have hu:IntKind.u64.wrap (xs.length:Int)=xs.length:=by rw[h2];rfl
  have hr2:O7 (xs.length:Int) 0 2=true:=L2 (by omega) (by omega)
  refine oS fun _ hK1=>?_;refine oW A2D ?_;simp only[go_sem];refine hK1 _ ?_;refine oW A2D ?_;simp (maxSteps:=2000000)only[hu,go_sem];repeat(with_reducible first|refine oA ?_|refine And.intro (by first|exact hr2|exact⟨rfl,rfl,by omega⟩|exact(by omega:xs.length≤12)) ?_)
  simp (maxSteps:=2000000)only[hres,go_sem];first|exact oG|(refine⟨oG,?_⟩;(repeat' refine And.intro ?_ ?_)<;>first|rfl|exact C0T h2)
def B10:F8:=fun f=>if f=89 then some (.g A3U) else A6U f
theorem Z4:B8 Tryz.prog B10:=a8 B9v (B6 Tryz.func89 rfl (by decide)) A2D
attribute [go_sem] B10 A3U
def A0M:Con:=⟨[.val ((.prod (.int .i64) (.prod (.int .i64) (.prod (.int .i64) (.row 2 (.int .i64)))))),.val ((.row 2 (.int .i64)))],[⟨(.row 2 (.int .i64)),true⟩],fun x=>j9 x.2.1.length x.1,fun x=>A0t x.1 x.2.1⟩
theorem B31:D4 Tryz.prog 61 A0M:=by
  refine A7 Tryz.func61 rfl ?_
  have hres:Tryz.f61.results.toList=[.tmp 4]:=rfl
  rintro⟨⟨(kd:Int),(a:Int),(bb:Int),(fr:List Int)⟩,(cl:List Int),_⟩ hc hL
  simp only[A0M,go_sem] at hL
  simp only[A0M,St.init,St.initG,Tryz.ntmps61,go_sem] 
  obtain⟨h1,h2,h3⟩:=(show j9 cl.length (kd,a,bb,fr) from hc)
  have h1:fr.length≤3:=h1
  have h2:J4 cl.length fr=true:=h2
  have hsw1:kd=3→fr.length=2:=fun e=>h3 (by unfold I3;rw[decide_eq_true (show kd=3 from e)];rfl)
  have hsw2:kd=9→fr.length=2:=fun e=>h3 (by unfold I3;rw[decide_eq_true (show kd=9 from e),Bool.or_true])
  have hml:(List.map (fun q=>cl.getD (Int.toNat q) 0) fr).length=fr.length:=List.length_map _
  refine oS fun _ hK1=>?_;refine oW Z4 ?_;simp only[go_sem];refine hK1 _ ?_;refine oS fun _ hK2=>?_;refine oW Z4 ?_;simp (maxSteps:=2000000)only[go_sem];repeat(with_reducible first|refine oA ?_|refine And.intro (by first|exact⟨by omega,h2⟩) ?_)
  refine hK2 _ ?_;refine oS fun _ hK3=>?_;refine oS fun _ hK4=>?_;refine oW Z4 ?_;simp (maxSteps:=2000000)only[go_sem];repeat' (with_reducible first|refine oA ?_|refine oT (fun g2=>?_) (fun g2=>?_)|refine oE (fun g2=>?_) (fun g2=>?_))
  all_goals
   refine hK4 _ ?_;refine D2 rfl ?_ ?_
   ·
    intro c0;try simp only[zA,zB,zC,zD,zE,zF,zG,zH,zI] at c0
    all_goals
     refine oW Z4 ?_;simp only[go_sem];repeat(with_reducible first|refine oA ?_|refine And.intro (by first|(rw[hml];exact hsw1 (by assumption))|(rw[hml];exact hsw2 (by assumption))|(rw[hml];omega)) ?_)
     refine hK3 _ ?_;refine oS fun _ hK5=>?_;refine oW Z4 ?_;simp only[go_sem];refine hK5 _ ?_;refine A2 ?_;simp only[hres,go_sem];first|exact oF|(refine⟨?_,oF⟩;first|(rw[V6 (n:=(kd,a,bb,fr)) (by unfold I3;rw[decide_eq_true (show kd=3 by assumption)];rfl)];rfl)|(rw[V6 (n:=(kd,a,bb,fr)) (by unfold I3;rw[decide_eq_true (show kd=9 by assumption),Bool.or_true])];rfl)|(rw[Z1 (n:=(kd,a,bb,fr)) (by unfold I3;rw[decide_eq_false (show ¬kd=3 by assumption),decide_eq_false (show ¬kd=9 by assumption)];rfl)];rfl))
   ·
    intro c0;try simp only[zA,zB,zC,zD,zE,zF,zG,zH,zI] at c0
    all_goals
     refine A3 ?_;simp only[go_sem];refine hK3 _ ?_;refine oS fun _ hK6=>?_;refine oW Z4 ?_;simp only[go_sem];refine hK6 _ ?_;refine A2 ?_;simp only[hres,go_sem];first|exact oF|(refine⟨?_,oF⟩;first|(rw[V6 (n:=(kd,a,bb,fr)) (by unfold I3;rw[decide_eq_true (show kd=3 by assumption)];rfl)];rfl)|(rw[V6 (n:=(kd,a,bb,fr)) (by unfold I3;rw[decide_eq_true (show kd=9 by assumption),Bool.or_true])];rfl)|(rw[Z1 (n:=(kd,a,bb,fr)) (by unfold I3;rw[decide_eq_false (show ¬kd=3 by assumption),decide_eq_false (show ¬kd=9 by assumption)];rfl)];rfl))
def A43:F8:=fun f=>if f=61 then some (.p A0M) else B10 f
theorem A0y:B8 Tryz.prog A43:=F9 B31 (B6 Tryz.func61 rfl (by decide)) Z4
attribute [go_sem] A43 A0M
def A4j:Con:=⟨[.val ((.prod (.row 26 (.row 2 (.int .i64))) (.prod (.row 56 (.prod (.int .i64) (.prod (.int .i64) (.prod (.int .i64) (.row 2 (.int .i64)))))) (.row 2 (.int .i64))))),.val ((.prod (.int .i64) (.prod (.int .i64) (.prod (.int .i64) (.row 2 (.int .i64)))))),.val ((.prod (.int .i64) (.prod (.int .i64) (.prod (.int .i64) (.row 2 (.int .i64)))))),.val ((.row 2 (.int .i64)))],[⟨.bool,true⟩],fun x=>T5 x.1.1 x.2.1∧T5 x.1.1 x.2.2.1∧j9 x.2.2.2.1.length x.2.1∧j9 x.2.2.2.1.length x.2.2.1,fun x=>A16 x.1.1 x.2.2.2.1 x.2.1 x.2.2.1⟩
theorem B9m:D4 Tryz.prog 40 A4j:=by
  refine A7 Tryz.func40 rfl ?_
  have hres:Tryz.f40.results.toList=[.tmp 8]:=rfl
  rintro⟨⟨(ts:List (List Int)),(ns:List A4),(os:List Int)⟩,⟨(kd:Int),(a:Int),(bb:Int),(fr:List Int)⟩,⟨(kd2:Int),(a2:Int),(bb2:Int),(fr2:List Int)⟩,(cl:List Int),_⟩ hc hL
  simp only[A4j,go_sem] at hL
  simp only[A4j,St.init,St.initG,Tryz.ntmps40,go_sem] 
  obtain⟨h1,h2,h3,h4⟩:=(show T5 ts (kd,a,bb,fr)∧T5 ts (kd2,a2,bb2,fr2)∧j9 cl.length (kd,a,bb,fr)∧j9 cl.length (kd2,a2,bb2,fr2) from hc)
  refine oS fun _ hK1=>?_;refine oW A0y ?_;simp only[go_sem];repeat(with_reducible first|refine oA ?_|refine And.intro (by first|exact⟨h1,h2⟩|exact h3|exact h4) ?_)
  refine hK1 _ ?_;refine oS fun _ hK2=>?_
  refine oR A0y
    [[],[],[],[0,1,2],[0,1,2,3],[0,1,2,3,4],[0,1,2,3,4],[0,1,2,3,4,5,6],[0,1,2,3,4],[0,1,2,3,4],[0,1,2,3,4,5,6,7,8,9],[0,1,2,3,4,5,6,7,8,9,10],[0,1,2,3,4,5,6,7,8,9,10,11],[0,1,2,3,4,5,6,7,8,9,10,11,12]]
    [[],[],[],[],[],[],[],[],[356,357,358,359,360,361,362,363,364,365,366,367,368,369,370,371],[356,357,358,359,360,361,362,363,364,365,366,367,368,369,370,371],[],[],[],[]]
    [[],[],[],[],[],[],[],[356,357,358,359,360,361,362,363,364,365,366,367,368,369,370,371],[],[],[],[],[],[]] (by kernel_rfl) (by kernel_rfl) (B7 (acc:=[]) ?_)
  simp (maxSteps:=2000000)only[go_sem];repeat' (with_reducible first|refine oD ?_|refine And.intro (by first|exact⟨h1,h2⟩|exact h3|exact h4) ?_|refine oT (fun g1=>?_) (fun g1=>?_)|refine oE (fun g1=>?_) (fun g1=>?_))
  all_goals
   refine hK2 _ ?_;refine A2 ?_;simp only[hres,go_sem];first|exact oF|(refine⟨?_,oF⟩;first|(unfold A16;rw[show A2W ts (kd,a,bb,fr) (kd2,a2,bb2,fr2)=true by assumption,Bool.true_and])|(unfold A16;rw[show A2W ts (kd,a,bb,fr) (kd2,a2,bb2,fr2)=false by assumption,Bool.false_and]))
def B0s:F8:=fun f=>if f=40 then some (.p A4j) else A43 f
theorem S5:B8 Tryz.prog B0s:=F9 B9m (B6 Tryz.func40 rfl (by decide)) A0y
attribute [go_sem] B0s A4j
def A0O:Con:=⟨[.ptr (.prod (.int .i64) (.prod (.row 26 (.row 2 (.int .i64))) (.prod (.row 56 (.prod (.int .i64) (.prod (.int .i64) (.prod (.int .i64) (.row 2 (.int .i64)))))) (.row 2 (.int .i64))))),.val ((.row 2 (.int .i64))),.ptr (.prod (.int .i64) (.prod (.int .i64) (.prod (.int .i64) (.row 2 (.int .i64))))),.ptr (.prod (.int .i64) (.prod (.int .i64) (.prod (.int .i64) (.row 2 (.int .i64)))))],[⟨.bool,true⟩],fun x=>T5 x.1.2.1 x.2.2.1∧T5 x.1.2.1 x.2.2.2.1∧j9 x.2.1.length x.2.2.1∧j9 x.2.1.length x.2.2.2.1,fun x=>A16 x.1.2.1 x.2.1 x.2.2.1 x.2.2.2.1⟩
theorem B37:D4 Tryz.prog 68 A0O:=by
  refine A7 Tryz.func68 rfl ?_
  have hres:Tryz.f68.results.toList=[.tmp 8]:=rfl
  rintro⟨⟨(pi:Int),(ts:List (List Int)),(ns:List A4),(os:List Int)⟩,(cl:List Int),⟨(kd:Int),(a:Int),(bb:Int),(fr:List Int)⟩,⟨(kd2:Int),(a2:Int),(bb2:Int),(fr2:List Int)⟩,_⟩ hc hL
  simp only[A0O,go_sem] at hL
  simp only[A0O,St.init,St.initG,Tryz.ntmps68,go_sem] 
  obtain⟨h1,h2,h3,h4⟩:=(show T5 ts (kd,a,bb,fr)∧T5 ts (kd2,a2,bb2,fr2)∧j9 cl.length (kd,a,bb,fr)∧j9 cl.length (kd2,a2,bb2,fr2) from hc)
  obtain⟨h5,h6,h7⟩:=h3;obtain⟨h8,h9,h10⟩:=h4;have h5:fr.length≤3:=h5
  have h6:J4 cl.length fr=true:=h6
  have h8:fr2.length≤3:=h8
  have h9:J4 cl.length fr2=true:=h9
  have hm1:(List.map (fun q=>cl.getD (Int.toNat q) 0) fr).length=fr.length:=List.length_map _
  have hm2:(List.map (fun q=>cl.getD (Int.toNat q) 0) fr2).length=fr2.length:=List.length_map _
  have hs1:kd=3∨kd=9→fr.length=2:=fun e=>h7 (by unfold I3;rcases e with e|e;rw[decide_eq_true (show kd=3 from e)];rfl;rw[decide_eq_true (show kd=9 from e),Bool.or_true])
  have hs2:kd2=3∨kd2=9→fr2.length=2:=fun e=>h10 (by unfold I3;rcases e with e|e;rw[decide_eq_true (show kd2=3 from e)];rfl;rw[decide_eq_true (show kd2=9 from e),Bool.or_true])
  refine oS fun _ hK1=>?_;refine oW S5 ?_;simp only[go_sem];refine hK1 _ ?_;refine oS fun _ hK2=>?_;refine oS fun _ hK3=>?_;refine oW S5 ?_;simp (maxSteps:=2000000)only[go_sem];repeat(with_reducible first|refine oA ?_|refine And.intro (by first|exact⟨h1,h2⟩) ?_)
  refine hK3 _ ?_;refine oC rfl ?_ ?_
  ·
   intro c0;have hal:A16 ts cl (kd,a,bb,fr) (kd2,a2,bb2,fr2)=false:=by unfold A16;rw[show A2W ts (kd,a,bb,fr) (kd2,a2,bb2,fr2)=false by assumption,Bool.false_and]
   refine oS fun _ hK4=>?_;refine oW S5 ?_;simp only[go_sem];refine hK4 _ ?_;refine A2 ?_;simp only[hres,go_sem];first|exact oF|(refine⟨?_,oF⟩;exact hal.symm)
  intro c0;have hky:A2W ts (kd,a,bb,fr) (kd2,a2,bb2,fr2)=true:=by assumption
  have hkk:kd=kd2:=B0T hky
  have hal:=B63 (cl:=cl) hky h7 h10
  have hswE:I3 (kd,a,bb,fr)=(decide (kd=3) || decide (kd=9)):=rfl
  refine A3 ?_;simp only[go_sem];refine hK2 _ ?_;refine oS fun _ hK5=>?_;refine oW S5 ?_;simp (maxSteps:=2000000)only[go_sem];repeat(with_reducible first|refine oA ?_|refine And.intro (by first|exact⟨by omega,h6⟩) ?_)
  refine hK5 _ ?_;refine oS fun _ hK6=>?_;refine oW S5 ?_;simp (maxSteps:=2000000)only[go_sem];repeat(with_reducible first|refine oA ?_|refine And.intro (by first|exact⟨by omega,h9⟩) ?_)
  refine hK6 _ ?_;refine oS fun _ hK7=>?_;refine oS fun _ hK8=>?_;refine oW S5 ?_;simp only[go_sem];repeat(with_reducible refine oA ?_)
  refine hK8 _ ?_;refine oC rfl ?_ ?_
  ·
   intro c1;refine oS fun _ hK9=>?_;refine oW S5 ?_;simp only[go_sem];refine hK9 _ ?_;refine A2 ?_;simp only[hres,go_sem];first|exact oF|(refine⟨?_,oF⟩;rw[hal,show eqD (H2 cl fr) (H2 cl fr2)=true by assumption];rfl)
  intro c1;refine A3 ?_;simp only[go_sem];refine hK7 _ ?_;refine oS fun _ hK10=>?_;refine oW S5 ?_;simp (maxSteps:=2000000)only[go_sem];repeat' (with_reducible first|refine oA ?_|refine oT (fun g7=>?_) (fun g7=>?_)|refine oE (fun g7=>?_) (fun g7=>?_))
  all_goals
   refine hK10 _ ?_;refine oS fun _ hK11=>?_
   refine oR S5
     [[],[0],[0,1],[0,1,2],[0,1,2,3],[0,1],[0,1,5],[0,1,5,6],[0,1,2,3,4,5,6,7],[0,1,2,3,4,5,6,7,8],[0,1,2,3,4,5,6,7,8,9],[0,1,2,3,4,5,6,7,8,9,10],[0,1,2,3,4,5,6,7,8,9,10,11],[0,1,2,3,4,5,6,7,8,9,10,11,12],[0,1,2,3,4,5,6,7,8,9,10],[0,1,2,3,4,5,6,7,8,9,10,14],[0,1,2,3,4,5,6,7,8,9,10,14,15],[0,1,2,3,4,5,6,7,8,9,10,11,12,13,14,15,16],[0,1,2,3,4,5,6,7,8,9,10,11,12,13,14,15,16,17],[0,1,2,3,4,5,6,7,8,9,10,11,12,13,14,15,16,17,18]]
     [[],[],[],[],[],[],[],[],[],[],[],[],[],[],[],[],[],[],[],[]]
     [[],[],[],[],[],[],[],[],[],[],[],[],[],[],[],[],[],[],[],[]] (by kernel_rfl) (by kernel_rfl) (B7 (acc:=[]) ?_)
   simp (maxSteps:=2000000)only[go_sem];repeat' (with_reducible first|refine oD ?_|refine And.intro (by first|exact⟨by omega,by omega⟩) ?_|refine oT (fun g8=>?_) (fun g8=>?_)|refine oE (fun g8=>?_) (fun g8=>?_))
   all_goals
    refine hK11 _ ?_;refine A2 ?_;simp only[hres,go_sem]
    first
     | exact oF
     | refine ⟨?_, oF⟩
       rw[hal,show eqD (H2 cl fr) (H2 cl fr2)=false by assumption,Bool.false_or]
       clear hK1 hK2 hK3 hK5 hK6 hK7 hK8 hK10 hK11;unfold H2 at *
       simp_all
def m5:F8:=fun f=>if f=68 then some (.p A0O) else B0s f
theorem D3:B8 Tryz.prog m5:=F9 B37 (B6 Tryz.func68 rfl (by decide)) S5
attribute [go_sem] m5 A0O
end Go.Proofs.YtflobmmbhaofbaaGreat
