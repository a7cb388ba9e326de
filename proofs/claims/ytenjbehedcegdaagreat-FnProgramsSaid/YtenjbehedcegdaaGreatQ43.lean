/-
  Texts of this claim, joined (part 43). No condition beyond those of the theorems.
-/
import Derived.Test.YtenjbehedcegdaaGreatQ41
import Derived.Test.YtenjbehedcegdaaGreatQ42
import Derived.Test.YtenjbehedcegdaaGreatQ33
import Derived.Test.YtenjbehedcegdaaGreatQ25
import Derived.Test.YtenjbehedcegdaaGreatQ30
namespace Go.Proofs.YtenjbehedcegdaaGreat
open Go.RowKit
set_option linter.unusedSimpArgs false
set_option linter.unusedVariables false
set_option maxRecDepth 100000
set_option maxHeartbeats 8000000
def A7z:G4:=fun f=>match A3v f with
 | some k=>some k
 | none=>A1I f
theorem w7:B5 Tryz.prog A7z:=W6 A8X A6t
attribute [go_sem] A7z T0
def A0Z:GCon where
  ps:=[.po 0]
  os:=[.box [.rd ((.row 5 (.int .u8))),.rd (.int .i64),.rd (.int .u64)]]
  c:=fun x=>srcOk 4 (x.2.1.1,x.2.1.2.1,x.2.1.2.2.1)
  r:=fun x=>.c (.sc (.int .i64 ((A9F (x.2.1.1,x.2.1.2.1,x.2.1.2.2.1)).1)))
  o:=fun x=>[(30,.box [.rd [] 5 (.int .u8) ((A9F (x.2.1.1,x.2.1.2.1,x.2.1.2.2.1)).2.1),.sc (.int .i64 ((A9F (x.2.1.1,x.2.1.2.1,x.2.1.2.2.1)).2.2.1)),.sc (.int .u64 ((A9F (x.2.1.1,x.2.1.2.1,x.2.1.2.2.1)).2.2.2))])]
  ok:=by
    rintro⟨⟨_,_⟩,⟨⟨(cd:List Int),(pt:Int),(sd:Int),_⟩,_⟩⟩
    exact⟨rfl,rfl,by decide⟩
theorem B4E:l6 Tryz.prog 16 A0Z:=by
  refine F1 Tryz.func16 rfl ?_
  have hres:Tryz.f16.results.toList=[.tmp 2]:=rfl
  rintro⟨⟨_,_⟩,⟨⟨(cd:List Int),(pt:Int),(sd:Int),_⟩,_⟩⟩ hc hL hO
  simp only[A0Z,go_sem] at hL
  simp only[A0Z,go_sem] at hO
  simp only[A0Z,St.init,St.initG,Tryz.ntmps16,go_sem] 
  have hs0:srcOk 4 (cd,pt,sd):=hc
  rcases hr1:A0L 20 (cd,pt,sd) with⟨v1,u1,p1,q1⟩
  have hs1:=A3M hs0 (by omega) hr1
  refine oS fun _ hK1=>?_;refine oW w7 ?_;simp only[go_sem];repeat(with_reducible first|refine oA ?_|refine And.intro (by first|exact F5|exact⟨hs1.le (by omega),by simp⟩) ?_)
  refine hK1 _ ?_;refine oS fun _ hK2=>?_;refine oS fun _ hK3=>?_;refine oW w7 ?_;simp only[hr1,go_sem];repeat(with_reducible first|refine oA ?_|refine And.intro (by first|exact F5|exact⟨hs1.le (by omega),by simp⟩) ?_)
  refine hK3 _ ?_;refine oC rfl ?_ ?_
  ·
   intro c0;have hv1:v1=true:=c0
   refine oS fun _ hK4=>?_;rcases hr2:H5 [-1,4001,0] (u1,p1,q1) with⟨v2,u2,p2,q2⟩
   obtain⟨hs2,hm2⟩:=J9 hs1 (by omega) (by simp) hr2
   refine oW w7 ?_;simp only[hr2,go_sem];repeat(with_reducible first|refine oA ?_|refine And.intro (by first|exact F5|exact⟨hs1.le (by omega),by simp⟩) ?_)
   refine hK4 _ ?_;refine A0 ?_;simp only[hres,go_sem]
   first
    | exact oG
    | refine ⟨oG, ?_⟩
      simp only[A9F,bnd,hr1,hv1,hr2];try((repeat' refine And.intro ?_ ?_)<;>first|rfl|trivial|(congr 1;done))
  intro c0;have hv1:v1=false:=c0
  refine A2 ?_;simp only[go_sem];refine hK2 _ ?_;refine oS fun _ hK5=>?_;rcases hr2:D8 20 (u1,p1,q1) with⟨v2,u2,p2,q2⟩
  obtain⟨hs2,hv2,hb2,hz2⟩:=H3 hs1 (by omega) hr2
  have hs2:srcOk _ (u2,p2,q2):=hs2
  refine oW w7 ?_;simp only[hr2,go_sem];repeat(with_reducible first|refine oA ?_|refine And.intro (by first|exact F5|exact⟨hs1.le (by omega),by simp⟩) ?_)
  refine hK5 _ ?_;refine A0 ?_;simp only[hres,go_sem]
  first
   | exact oG
   | refine ⟨oG, ?_⟩
     simp only[A9F,bnd,hr1,hv1,hr2];try((repeat' refine And.intro ?_ ?_)<;>first|rfl|trivial|(congr 1;done))
def A69:G4:=fun f=>if f=16 then some (.g A0Z) else A7z f
theorem W0:B5 Tryz.prog A69:=A0M B4E (B0 Tryz.func16 rfl (by decide)) w7
attribute [go_sem] A69 A0Z
def A0a:Con:=⟨[.val ((.row 5 (.int .u8)))],[⟨(.prod (.int .i64) (.prod (.row 26 (.row 2 (.int .i64))) (.prod (.row 67 (.prod (.int .i64) (.prod (.int .i64) (.prod (.int .i64) (.row 2 (.int .i64)))))) (.row 2 (.int .i64))))),false⟩,⟨(.row 26 (.row 2 (.int .i64))),true⟩,⟨.int .i64,true⟩],fun x=>∀b∈(x.1:List Int),0≤b∧b≤255,fun x=>(B8C x.1).1⟩
theorem B27:C8 Tryz.prog 5 A0a:=by
  refine A4 Tryz.func5 rfl ?_
  have hres:Tryz.f5.results.toList=[.cell 2 28,.tmp 3,.tmp 4]:=rfl
  rintro⟨(cd:List Int),_⟩ hc hL
  simp only[A0a,go_sem] at hL
  simp only[A0a,St.init,St.initG,Tryz.ntmps5,go_sem] 
  have hcd:∀b∈cd,0≤b∧b≤255:=hc
  have hs0:srcOk 3000 (cd,0,0):=⟨hcd,by simp,by simp⟩
  rcases hr1:A1C (cd,0,0) with⟨⟨pi,ts,ns,os⟩,u1,p1,q1⟩
  have hs1:=B3V.at hs0 (by omega) hr1
  rcases hr2:A6b pi (u1,p1,q1) with⟨v2,u2,p2,q2⟩
  have hs2:=(B44 pi).at hs1 (by omega) hr2
  rcases hr3:A9F (u2,p2,q2) with⟨v3,u3,p3,q3⟩
  have hs3:=(B3U).at hs2 (by omega) hr3
  refine oS fun _ hK1=>?_;refine oW W0 ?_;simp only[go_sem];repeat(with_reducible first|refine oA ?_|refine And.intro (by first|exact F5) ?_)
  refine hK1 _ ?_;refine oS fun _ hK2=>?_;refine oW W0 ?_;simp only[go_sem];repeat(with_reducible first|refine oA ?_|refine And.intro (by first|exact F5) ?_)
  refine hK2 _ ?_;refine oS fun _ hK3=>?_;refine oW W0 ?_;simp only[List.nodup_cons,List.nodup_nil,List.not_mem_nil,not_false_eq_true,hr1,go_sem];repeat(with_reducible first|refine oA ?_|refine And.intro (by first|exact F5) ?_)
  refine hK3 _ ?_;refine oS fun _ hK4=>?_;refine A0j (A5z _ 276 (by decide)) ?_;simp (maxSteps:=2000000)only[go_sem];refine A0j (A5z _ 277 (by decide)) ?_;simp (maxSteps:=2000000)only[go_sem];refine A0j (B6Y _ 278 (by decide)) ?_;simp (maxSteps:=2000000)only[go_sem];refine oW W0 ?_;simp only[hr2,go_sem];repeat(with_reducible first|refine oA ?_|refine And.intro (by first|exact F5) ?_)
  refine hK4 _ ?_;refine oS fun _ hK5=>?_
  refine oR W0
    [[],[],[],[2],[0,2,3],[0,1,2,3,4],[0,1,2,3,4,5]]
    [[244,372,373,374,375,376,377,378,379,380,381,382,383,384,385,386,387],[132,244,372,373,374,375,376,377,378,379,380,381,382,383,384,385,386,387],[],[],[],[],[]]
    [[],[],[],[244,372,373,374,375,376,377,378,379,380,381,382,383,384,385,386,387],[132],[],[]] (by kernel_rfl) (by kernel_rfl) (A7 (acc:=[]) ?_)
  simp (maxSteps:=2000000)only[List.nodup_cons,List.nodup_nil,List.not_mem_nil,not_false_eq_true,hr3,go_sem];repeat(with_reducible first|refine oD ?_|refine And.intro (by first|exact F5) ?_)
  refine hK5 _ ?_;refine A0 ?_;simp only[hres,go_sem];first|exact oF|(refine⟨?_,oF⟩;first|(simp only[B8C,bnd,hr1,hr2,hr3];done)|(simp only[B8C,bnd,hr1,hr2,hr3];rfl))
def A4d:G4:=fun f=>if f=5 then some (.p A0a) else A69 f
theorem A8u:B5 Tryz.prog A4d:=F8 B27 (B0 Tryz.func5 rfl (by decide)) W0
attribute [go_sem] A4d A0a
set_option maxRecDepth 100000
set_option maxHeartbeats 8000000
def A3K:Con:=⟨[.ptr (.prod (.int .i64) (.prod (.int .i64) (.prod (.int .i64) (.row 2 (.int .i64))))),.val (.int .i64)],[⟨.bool,true⟩],fun _=>True,fun x=>O7 x.1 x.2.1⟩
theorem B6Z:C8 Tryz.prog 79 A3K:=by
  refine A4 Tryz.func79 rfl ?_
  have hres:Tryz.f79.results.toList=[.tmp 4]:=rfl
  rintro⟨⟨(kd:Int),(a:Int),(bb:Int),(fr:List Int)⟩,(tb:Int),_⟩ hc hL
  simp only[A3K,go_sem] at hL
  simp only[A3K,St.init,St.initG,Tryz.ntmps79,go_sem] 
  rw[←B47];refine oS fun _ hK1=>?_;refine oW G8 ?_;simp only[go_sem];refine hK1 _ ?_;refine W3 (A4E kd a bb fr tb=(fr.all (fun f=>I6 f 0 23) && (match decide (kd=17) with|true=>I6 bb 1 16|false=>decide (bb=0)))) ⟨[.c (.pt [] ((.prod (.int .i64) (.prod (.int .i64) (.prod (.int .i64) (.row 2 (.int .i64)))))) (kd,a,bb,fr) 0),zz,zz,zz,zz,zz,zz,zz,zz,zz,zz,zz,zz,zz,zz,zz,zz,zz,zz,zz,zz,zz,zz,zz,zz,zz,zz,zz,zz,zz,zz,zz,zz,zz,zz,zz,zz,zz,zz,zz,zz,zz,zz,zz,zz,zz,zz,zz,zz,zz,zz,zz,zz,zz,zz,zz,zz,zz,zz,zz,zz,zz,zz,zz],[]⟩ ?_ fun _ hK2=>?_
  ·
   intro hN;refine oS fun _ hK3=>?_;refine oS fun _ hK4=>?_;refine oW G8 ?_;simp only[go_sem];refine hK4 _ ?_;refine A3 ?_;refine A8 (ι:={ k:Nat // k≤fr.length∧(fr.take k).all (fun f=>I6 f 0 23)=true }) (fun k=>⟨[.c (.pt [] ((.prod (.int .i64) (.prod (.int .i64) (.prod (.int .i64) (.row 2 (.int .i64)))))) (kd,a,bb,fr) 0),zz,zz,zz,zz,.c (.sc (.int .i64 (k.1))),zz,zz,zz,zz,zz,zz,zz,zz,zz,zz,zz,zz,zz,zz,zz,zz,zz,zz,zz,zz,zz,zz,zz,zz,zz,zz,zz,zz,zz,zz,zz,zz,zz,zz,zz,zz,zz,zz,zz,zz,zz,zz,zz,zz,zz,zz,zz,zz,zz,zz,zz,zz,zz,zz,zz,zz,zz,zz],[]⟩) (fun k=>fr.length - k.1) ⟨0,by simp⟩ ?_ ?_
   ·
    refine oK ?_;simp (maxSteps:=2000000)only[go_sem];all_goals(first|rfl|((repeat' refine And.intro ?_ ?_)<;>first|rfl|simp))
   rintro⟨k,hk,hp⟩ K5 hL5
   refine oS fun _ hK6=>?_;refine oS fun _ hK7=>?_;refine oW G8 ?_;simp (maxSteps:=2000000)only[go_sem];repeat(with_reducible refine oA ?_)
   refine hK7 _ ?_;refine oC rfl ?_ ?_
   ·
    intro c1;refine A2 ?_;simp only[go_sem];refine hK6 _ ?_;refine oS fun _ hK8=>?_;refine A3 ?_;refine oS fun _ hK9=>?_;refine oW G8 ?_;simp (maxSteps:=2000000)only[go_sem];repeat(with_reducible refine oA ?_)
    refine hK9 _ ?_;refine oC rfl ?_ ?_
    ·
     intro c2;refine oS fun _ hK10=>?_;refine oW G8 ?_;simp only[go_sem];refine hK10 _ ?_;refine A0 ?_;simp only[hres,go_sem];first|exact oF|(refine⟨?_,oF⟩;rw[hN,M2 (k:=k) (d:=0) (by omega) (by assumption)];rfl)
    intro c2;refine A2 ?_;simp only[go_sem];refine hK8 _ ?_;refine oW G8 ?_;simp only[go_sem];refine hL5 ⟨k+1,by omega,J6 (d:=0) (by omega) hp (by first|assumption|(clear hK1 hK3 hK4 hL5 hK6 hK7 hK8 hK9;simp_all))⟩ _ (oK ?_) ?_
    ·
     simp (maxSteps:=2000000)only[go_sem];first|rfl|exact wk (by omega)
    ·
     first|(simp only[];omega)|omega|(simp;omega)
   intro c1;refine B6 ?_;simp only[go_sem];refine hK3 _ ?_;refine oS fun _ hK11=>?_;refine oS fun _ hK12=>?_;refine oW G8 ?_;simp (maxSteps:=2000000)only[go_sem];repeat(with_reducible refine oA ?_)
   refine hK12 _ ?_;refine oC rfl ?_ ?_
   ·
    intro c3;refine oS fun _ hK13=>?_;refine oW G8 ?_;simp (maxSteps:=2000000)only[go_sem];repeat(with_reducible refine oA ?_)
    refine hK13 _ ?_;refine A0 ?_;simp only[hres,go_sem];first|exact oF|(refine⟨?_,oF⟩;rw[hN,I7 hp (by omega),Bool.true_and,decide_eq_true (show kd=17 by assumption)])
   intro c3;refine A2 ?_;simp only[go_sem];refine hK11 _ ?_;refine oS fun _ hK14=>?_;refine oW G8 ?_;simp (maxSteps:=2000000)only[go_sem];repeat(with_reducible refine oA ?_)
   refine hK14 _ ?_;refine A0 ?_;simp only[hres,go_sem];first|exact oF|(refine⟨?_,oF⟩;rw[hN,I7 hp (by omega),Bool.true_and,decide_eq_false (show ¬kd=17 by assumption)])
  refine oS fun _ hK15=>?_
  refine oR G8
    [[],[0],[0,1],[0,1,2],[0,1,2,3],[0,1,2,3,4],[0,1,2,3,4,5],[0,1,2,3,4,5,6],[0,1,2,3,4,5,6],[0,1,2,3,4,5,6,7,8],[0,1,2,3,4,5,6,7,8,9],[0,1,2,3,4,5,6,7,8,9,10],[0,1,2,3,4,5,6,7,8,9,10,11],[0,1,2,3,4,5,6,7,8,9,10,11,12],[0,1,2,3,4,5,6,7,8,9,10,11,12,13],[0,1,2,3,4,5,6,7,8,9,10,11,12,13,14],[0,1,2,3,4,5,6,7,8,9,10,11,12,13,14,15],[0,1,2,3,4,5,6,7,8,9,10,11,12,13,14,15,16],[0,1,2,3,4,5,6,7,8,9,10,11,12],[0,1,2,3,4,5,6,7,8,9,10,11,12,18],[0,1,2,3,4,5,6,7,8,9,10,11,12,18,19],[0,1,2,3,4,5,6,7,8,9,10,11,12,18,19,20],[0,1,2,3,4,5,6,7,8,9,10,11,12,18,19,20,21],[0,1,2,3,4,5,6,7,8,9,10,11,12,13,14,15,16,17,18,19,20,21,22],[0,1,2,3,4,5,6,7,8,9,10,11,12,13,14,15,16,17,18,19,20,21,22,23]]
    [[],[],[],[],[],[],[],[],[],[],[],[],[],[],[],[],[],[],[],[],[],[],[],[],[]]
    [[],[],[],[],[],[],[],[],[],[],[],[],[],[],[],[],[],[],[],[],[],[],[],[],[]] (by kernel_rfl) (by kernel_rfl) (A7 (acc:=[]) ?_)
  simp (maxSteps:=2000000)only[go_sem];repeat' (with_reducible first|refine oD ?_|refine And.intro (by first|exact B4.2 (by have:=B4.1 (show I6 kd 1 17=true by clear hK1 hK2 hK15;simp_all);omega)) ?_|refine oT (fun g1=>?_) (fun g1=>?_)|refine oE (fun g1=>?_) (fun g1=>?_))
  all_goals
   refine hK15 _ ?_;refine D5 rfl ?_ ?_
   ·
    intro c0;try simp only[zA,zB,zC,zD,zE,zF,zG,zH,zI] at c0
    all_goals
     refine oS fun _ hK16=>?_;refine oW G8 ?_;simp only[go_sem];refine hK16 _ ?_;refine A0 ?_;simp only[hres,go_sem];first|exact oF|(refine⟨?_,oF⟩;clear hK1 hK2 hK15 hK16;simp_all [A4E])
   ·
    intro c0;try simp only[zA,zB,zC,zD,zE,zF,zG,zH,zI] at c0
    all_goals
     refine A2 ?_;simp only[go_sem];refine hK2 _ (oK ?_) ?_
     ·
      simp (maxSteps:=2000000)only[go_sem];all_goals(first|rfl|((repeat' refine And.intro ?_ ?_)<;>first|rfl|exact wk (by omega)|simp))
     ·
      clear hK1 hK2 hK15;simp_all [A4E]<;>rfl
def A5H:G4:=fun f=>if f=79 then some (.p A3K) else A2u f
theorem A66:B5 Tryz.prog A5H:=F8 B6Z (B0 Tryz.func79 rfl (by decide)) G8
attribute [go_sem] A5H A3K
end Go.Proofs.YtenjbehedcegdaaGreat
