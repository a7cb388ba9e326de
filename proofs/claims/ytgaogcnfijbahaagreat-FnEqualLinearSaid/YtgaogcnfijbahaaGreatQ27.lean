/-
  Texts of this claim, joined (part 27). No condition beyond those of the theorems.
-/
import Derived.Test.YtgaogcnfijbahaaGreatQ19
import Derived.Test.YtgaogcnfijbahaaGreatQ20
import Derived.Test.YtgaogcnfijbahaaGreatQ22
import Derived.Test.YtgaogcnfijbahaaGreatQ26
import Derived.Test.YtgaogcnfijbahaaGreatQ24
namespace Go.Proofs.YtgaogcnfijbahaaGreat
open Go.RowKit
set_option linter.unusedSimpArgs false
set_option linter.unusedVariables false
set_option maxRecDepth 100000
set_option maxHeartbeats 8000000
def B06:E4:=fun f=>match A4M f with
 | some k=>some k
 | none=>A7C f
theorem B4E:B4 Tryz.prog B06:=N2 P2 B3s
attribute [go_sem] B06 T0
def A8x:E4:=fun f=>match B06 f with
 | some k=>some k
 | none=>A4W f
theorem B5z:B4 Tryz.prog A8x:=N2 B4E A0D
attribute [go_sem] A8x T0
def B0b:E4:=fun f=>match A8x f with
 | some k=>some k
 | none=>A4L f
theorem w3:B4 Tryz.prog B0b:=N2 B5z A2m
attribute [go_sem] B0b T0
def A0O:GCon where
  ps:=[.po 0]
  os:=[.box [.rd ((.row 5 (.int .u8))),.rd (.int .i64),.rd (.int .u64)]]
  c:=fun x=>srcOk 1410 (x.2.1.1,x.2.1.2.1,x.2.1.2.2.1)
  r:=fun x=>.agg [.sc (.int .i64 (A4n (x.2.1.1,x.2.1.2.1,x.2.1.2.2.1)).1.1),.ow 10,.ow 11,.ow 12]
  o:=fun x=>[(30,.box [.rd [] 5 (.int .u8) ((A4n (x.2.1.1,x.2.1.2.1,x.2.1.2.2.1)).2.1),.sc (.int .i64 ((A4n (x.2.1.1,x.2.1.2.1,x.2.1.2.2.1)).2.2.1)),.sc (.int .u64 ((A4n (x.2.1.1,x.2.1.2.1,x.2.1.2.2.1)).2.2.2))]),(10,.tree 26 (.row 2 (.int .i64)) ((A4n (x.2.1.1,x.2.1.2.1,x.2.1.2.2.1)).1.2.1) none),(11,.tree 95 ((.prod (.int .i64) (.prod (.int .i64) (.prod (.int .i64) (.row 2 (.int .i64)))))) ((A4n (x.2.1.1,x.2.1.2.1,x.2.1.2.2.1)).1.2.2.1) none),(12,.row 2 (.int .i64) ((A4n (x.2.1.1,x.2.1.2.1,x.2.1.2.2.1)).1.2.2.2) [])]
  ok:=by
    rintro⟨⟨_,_⟩,⟨⟨(cd:List Int),(pt:Int),(sd:Int),_⟩,_⟩⟩
    exact⟨rfl,rfl,by decide⟩
theorem B7i:Z2 Tryz.prog 13 A0O:=by
  refine E1 Tryz.func13 rfl ?_
  have hres:Tryz.f13.results.toList=[.cell 2 28]:=rfl
  rintro⟨⟨_,_⟩,⟨⟨(cd:List Int),(pt:Int),(sd:Int),_⟩,_⟩⟩ hc hL hO
  simp only[A0O,go_sem] at hL
  simp only[A0O,go_sem] at hO
  simp only[A0O,St.init,St.initG,Tryz.ntmps13,go_sem] 
  have hs0:srcOk 1410 (cd,pt,sd):=hc
  rcases hr1:A1H 5 (cd,pt,sd) with⟨v1,u1,p1,q1⟩
  have hs1:=A4V hs0 (by omega) hr1
  refine oS fun _ hK1=>?_;refine oW w3 ?_;simp only[go_sem];repeat(with_reducible first|refine oA ?_|refine And.intro (by first|exact H2|exact hs1.le (by omega)|with_unfolding_all exact hs1.le (by omega)) ?_)
  refine hK1 _ ?_;refine oS fun _ hK2=>?_;refine oS fun _ hK3=>?_;refine oW w3 ?_;simp only[hr1,go_sem];repeat(with_reducible first|refine oA ?_|refine And.intro (by first|exact H2|exact hs1.le (by omega)|with_unfolding_all exact hs1.le (by omega)) ?_)
  refine hK3 _ ?_;refine oC rfl ?_ ?_
  ·
   intro c0;have hv1:v1=true:=c0
   refine oS fun _ hK4=>?_;rcases hr2:A34 (u1,p1,q1) with⟨⟨pi,ts,ns,os⟩,u2,p2,q2⟩
   refine oW w3 ?_;simp only[List.nodup_cons,List.nodup_nil,List.not_mem_nil,not_false_eq_true,hr2,go_sem];repeat(with_reducible first|refine oA ?_|refine And.intro (by first|exact H2|exact hs1.le (by omega)|with_unfolding_all exact hs1.le (by omega)) ?_)
   refine hK4 _ ?_;refine A0 ?_;simp only[hres,go_sem]
   first
    | exact oG
    | refine ⟨oG, ?_⟩
      have hq:A4n (cd,pt,sd)=((pi,ts,ns,os),u2,p2,q2):=by rw[A4n,L7 hr1,hv1];exact hr2
      simp only[hq];try((repeat' refine And.intro ?_ ?_)<;>first|rfl|trivial|(congr 1;done))
  intro c0;have hv1:v1=false:=c0
  refine A2 ?_;simp only[go_sem];refine hK2 _ ?_;refine oS fun _ hK5=>?_;rcases hr2:A8D (u1,p1,q1) with⟨⟨pi,ts,ns,os⟩,u2,p2,q2⟩
  refine oW w3 ?_;simp only[List.nodup_cons,List.nodup_nil,List.not_mem_nil,not_false_eq_true,hr2,go_sem];repeat(with_reducible first|refine oA ?_|refine And.intro (by first|exact H2|exact hs1.le (by omega)|with_unfolding_all exact hs1.le (by omega)) ?_)
  refine hK5 _ ?_;refine A0 ?_;simp only[hres,go_sem]
  first
   | exact oG
   | refine ⟨oG, ?_⟩
     have hq:A4n (cd,pt,sd)=((pi,ts,ns,os),u2,p2,q2):=by rw[A4n,L7 hr1,hv1];exact hr2
     simp only[hq];try((repeat' refine And.intro ?_ ?_)<;>first|rfl|trivial|(congr 1;done))
def A7e:E4:=fun f=>if f=13 then some (.g A0O) else B0b f
theorem P1:B4 Tryz.prog A7e:=m8 B7i (B0 Tryz.func13 rfl (by decide)) w3
attribute [go_sem] A7e A0O
def A1i:Con:=⟨[.val ((.row 5 (.int .u8)))],[⟨(.prod (.int .i64) (.prod (.row 26 (.row 2 (.int .i64))) (.prod (.row 95 (.prod (.int .i64) (.prod (.int .i64) (.prod (.int .i64) (.row 2 (.int .i64)))))) (.row 2 (.int .i64))))),false⟩,⟨(.prod (.int .i64) (.prod (.row 26 (.row 2 (.int .i64))) (.prod (.row 95 (.prod (.int .i64) (.prod (.int .i64) (.prod (.int .i64) (.row 2 (.int .i64)))))) (.row 2 (.int .i64))))),false⟩],fun x=>∀b∈(x.1:List Int),0≤b∧b≤255,fun x=>B5o x.1⟩
theorem B7X:C9 Tryz.prog 5 A1i:=by
  refine A4 Tryz.func5 rfl ?_
  have hres:Tryz.f5.results.toList=[.cell 2 28,.cell 3 28]:=rfl
  rintro⟨(cd:List Int),_⟩ hc hL
  simp only[A1i,go_sem] at hL
  simp only[A1i,St.init,St.initG,Tryz.ntmps5,go_sem] 
  have hcd:∀b∈cd,0≤b∧b≤255:=hc
  have hs0:srcOk 3000 (cd,0,0):=⟨hcd,by simp,by simp⟩
  rcases hr1:A4n (cd,0,0) with⟨⟨pi,ts,ns,os⟩,u1,p1,q1⟩
  have hs1:=C0t.at hs0 (by omega) hr1
  rcases hr2:A1H 3 (u1,p1,q1) with⟨v2,u2,p2,q2⟩
  have hs2:=A4V hs1 (by omega) hr2
  refine oS fun _ hK1=>?_;refine oW P1 ?_;simp only[go_sem];repeat(with_reducible first|refine oA ?_|refine And.intro (by first|exact H2|exact hs0.le (by omega)|exact hs1.le (by omega)|exact hs2.le (by omega)) ?_)
  refine hK1 _ ?_;refine oS fun _ hK2=>?_;refine oW P1 ?_;simp only[go_sem];repeat(with_reducible first|refine oA ?_|refine And.intro (by first|exact H2|exact hs0.le (by omega)|exact hs1.le (by omega)|exact hs2.le (by omega)) ?_)
  refine hK2 _ ?_;refine oS fun _ hK3=>?_;refine oW P1 ?_;simp only[List.nodup_cons,List.nodup_nil,List.not_mem_nil,not_false_eq_true,hr1,go_sem];repeat(with_reducible first|refine oA ?_|refine And.intro (by first|exact H2|exact hs0.le (by omega)|exact hs1.le (by omega)|exact hs2.le (by omega)) ?_)
  refine hK3 _ ?_;refine oS fun _ hK4=>?_;refine oS fun _ hK5=>?_;refine H8 (f0 _ 244 (by decide)) ?_;simp (maxSteps:=2000000)only[go_sem];refine H8 (f0 _ 245 (by decide)) ?_;simp (maxSteps:=2000000)only[go_sem];refine H8 (t8 _ 246 (by decide)) ?_;simp (maxSteps:=2000000)only[go_sem];refine oW P1 ?_;simp only[hr2,go_sem];repeat(with_reducible first|refine oA ?_|refine And.intro (by first|exact H2|exact hs0.le (by omega)|exact hs1.le (by omega)|exact hs2.le (by omega)) ?_)
  refine hK5 _ ?_;refine oC rfl ?_ ?_
  ·
   intro c0;have hv2:v2=true:=c0
   refine oS fun _ hK6=>?_;rcases hr3:A4n (u2,p2,q2) with⟨⟨pi2,ts2,ns2,os2⟩,u3,p3,q3⟩
   refine oR P1
     [[],[],[1],[0,1,2],[0,1,2,3]]
     [[212,324,325,326,327,328,329,330,331,332,333,334,335,336,337,338,339],[],[],[],[]]
     [[],[],[212,324,325,326,327,328,329,330,331,332,333,334,335,336,337,338,339],[],[]] (by kernel_rfl) (by kernel_rfl) (A9 (acc:=[]) ?_)
   simp (maxSteps:=2000000)only[List.nodup_cons,List.nodup_nil,List.not_mem_nil,not_false_eq_true,hr3,go_sem];repeat(with_reducible first|refine oD ?_|refine And.intro (by first|exact H2|exact hs0.le (by omega)|exact hs1.le (by omega)|exact hs2.le (by omega)) ?_)
   refine hK6 _ ?_;refine H8 (f0 _ 324 (by decide)) ?_;simp (maxSteps:=2000000)only[go_sem];refine H8 (f0 _ 325 (by decide)) ?_;simp (maxSteps:=2000000)only[go_sem];refine H8 (t8 _ 326 (by decide)) ?_;simp (maxSteps:=2000000)only[go_sem];refine A0 ?_;simp only[hres,go_sem]
   first
    | exact oF
    | refine ⟨?_, oF⟩
      have hq:B5o cd=((pi,ts,ns,os),(pi2,ts2,ns2,os2)):=by unfold B5o;rw[L7 hr1,L7 hr2];unfold C5K;rw[hv2,L7 hr3]
      rw[hq];first|done|rfl|exact⟨rfl,rfl⟩
  intro c0;have hv2:v2=false:=c0
  refine A2 ?_;simp only[go_sem];refine hK4 _ ?_;refine oS fun _ hK7=>?_;refine oS fun _ hK8=>?_;refine oW P1 ?_;simp only[List.nodup_cons,List.nodup_nil,List.not_mem_nil,not_false_eq_true,go_sem];repeat(with_reducible first|refine oA ?_|refine And.intro (by first|exact H2|exact hs0.le (by omega)|exact hs1.le (by omega)|exact hs2.le (by omega)) ?_)
  refine hK8 _ ?_;refine oC rfl ?_ ?_
  ·
   intro c1;have hP:B9 (pi,ts,ns,os)=false:=by first|assumption|(clear hK1 hK2 hK3 hK4 hK5 hK7 hK8;simp_all)
   refine oS fun _ hK9=>?_
   refine oR P1
     [[],[],[0],[0,1,2]]
     [[],[132],[],[]]
     [[],[],[132],[]] (by kernel_rfl) (by kernel_rfl) (A9 (acc:=[]) ?_)
   simp (maxSteps:=2000000)only[List.nodup_cons,List.nodup_nil,List.not_mem_nil,not_false_eq_true,go_sem];repeat(with_reducible first|refine oD ?_|refine And.intro (by first|exact H2|exact hs0.le (by omega)|exact hs1.le (by omega)|exact hs2.le (by omega)) ?_)
   refine hK9 _ ?_;refine A0 ?_;simp only[hres,go_sem]
   first
    | exact oF
    | refine ⟨?_, oF⟩
      have hq:B5o cd=((pi,ts,ns,os),(pi,ts,ns,os)):=by unfold B5o;rw[L7 hr1,L7 hr2];unfold C5K;rw[hv2,hP]
      rw[hq];first|done|rfl|exact⟨rfl,rfl⟩
  intro c1;have hP:B9 (pi,ts,ns,os)=true:=by first|assumption|(clear hK1 hK2 hK3 hK4 hK5 hK7 hK8;simp_all)
  refine A2 ?_;simp only[go_sem];refine hK7 _ ?_;refine oS fun _ hK10=>?_
  refine oR P1
    [[],[],[0,1],[0,1,2]]
    [[420,421,422,423,424,425,426,427,428,429,430,431,432,433,434,435],[],[],[]]
    [[],[420,421,422,423,424,425,426,427,428,429,430,431,432,433,434,435],[],[]] (by kernel_rfl) (by kernel_rfl) (A9 (acc:=[]) ?_)
  simp (maxSteps:=2000000)only[List.nodup_cons,List.nodup_nil,List.not_mem_nil,not_false_eq_true,go_sem];repeat(with_reducible first|refine oD ?_|refine And.intro (by first|exact hP) ?_)
  refine hK10 _ ?_;refine H8 (f0 _ 420 (by decide)) ?_;simp (maxSteps:=2000000)only[go_sem];refine H8 (f0 _ 421 (by decide)) ?_;simp (maxSteps:=2000000)only[go_sem];refine H8 (t8 _ 422 (by decide)) ?_;simp (maxSteps:=2000000)only[go_sem];refine A0 ?_;simp only[hres,go_sem]
  first
   | exact oF
   | refine ⟨?_, oF⟩
     have hq:B5o cd=((pi,ts,ns,os),D0 (pi,ts,ns,os)):=by unfold B5o;rw[L7 hr1,L7 hr2];unfold C5K;rw[hv2,hP]
     rw[hq];first|done|rfl|exact⟨rfl,rfl⟩
def A7Y:E4:=fun f=>if f=5 then some (.p A1i) else A7e f
theorem B2R:B4 Tryz.prog A7Y:=E3 B7X (B0 Tryz.func5 rfl (by decide)) P1
attribute [go_sem] A7Y A1i
end Go.Proofs.YtgaogcnfijbahaaGreat
