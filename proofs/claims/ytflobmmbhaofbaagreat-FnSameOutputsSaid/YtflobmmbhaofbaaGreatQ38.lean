/-
  Texts of this claim, joined (part 38). No condition beyond those of the theorems.
-/
import Derived.Test.YtflobmmbhaofbaaGreatQ21
import Derived.Test.YtflobmmbhaofbaaGreatQ35
import Derived.Test.YtflobmmbhaofbaaGreatQ37
namespace Go.Proofs.YtflobmmbhaofbaaGreat
open Go.RowKit
set_option linter.unusedSimpArgs false
set_option linter.unusedVariables false
set_option maxRecDepth 100000
set_option maxHeartbeats 16000000
def B2C:F8:=fun f=>match A6N f with
 | some k=>some k
 | none=>A8G f
theorem V8:B8 Tryz.prog B2C:=T3 B1W B3u
attribute [go_sem] B2C T0
def A1F:GCon where
  ps:=[.po 0]
  os:=[.box [.rd ((.row 5 (.int .u8))),.rd (.int .i64),.rd (.int .u64)]]
  c:=fun x=>srcOk 2900 (x.2.1.1,x.2.1.2.1,x.2.1.2.2.1)
  r:=fun x=>.tup [.agg [.sc (.int .i64 (A1W (x.2.1.1,x.2.1.2.1,x.2.1.2.2.1)).1.1.1),.rd [] 26 ((.row 2 (.int .i64))) ((A1W (x.2.1.1,x.2.1.2.1,x.2.1.2.2.1)).1.1.2.1),.rd [] 56 ((.prod (.int .i64) (.prod (.int .i64) (.prod (.int .i64) (.row 2 (.int .i64)))))) ((A1W (x.2.1.1,x.2.1.2.1,x.2.1.2.2.1)).1.1.2.2.1),.rd [] 2 (.int .i64) ((A1W (x.2.1.1,x.2.1.2.1,x.2.1.2.2.1)).1.1.2.2.2)],.agg [.sc (.int .i64 (A1W (x.2.1.1,x.2.1.2.1,x.2.1.2.2.1)).1.2.1),.rd [] 26 ((.row 2 (.int .i64))) ((A1W (x.2.1.1,x.2.1.2.1,x.2.1.2.2.1)).1.2.2.1),.rd [] 56 ((.prod (.int .i64) (.prod (.int .i64) (.prod (.int .i64) (.row 2 (.int .i64)))))) ((A1W (x.2.1.1,x.2.1.2.1,x.2.1.2.2.1)).1.2.2.2.1),.rd [] 2 (.int .i64) ((A1W (x.2.1.1,x.2.1.2.1,x.2.1.2.2.1)).1.2.2.2.2)]]
  o:=fun x=>[(30,.box [.rd [] 5 (.int .u8) ((A1W (x.2.1.1,x.2.1.2.1,x.2.1.2.2.1)).2.1),.sc (.int .i64 ((A1W (x.2.1.1,x.2.1.2.1,x.2.1.2.2.1)).2.2.1)),.sc (.int .u64 ((A1W (x.2.1.1,x.2.1.2.1,x.2.1.2.2.1)).2.2.2))])]
  ok:=by
    rintro⟨⟨_,_⟩,⟨⟨(cd:List Int),(pt:Int),(sd:Int),_⟩,_⟩⟩
    exact⟨rfl,rfl,by decide⟩
theorem B8D:W3 Tryz.prog 12 A1F:=by
  refine D8 Tryz.func12 rfl ?_
  have hres:Tryz.f12.results.toList=[.cell 2 28,.cell 3 28]:=rfl
  rintro⟨⟨_,_⟩,⟨⟨(cd:List Int),(pt:Int),(sd:Int),_⟩,_⟩⟩ hc hL hO
  simp only[A1F,go_sem] at hL
  simp only[A1F,go_sem] at hO
  simp only[A1F,St.init,St.initG,Tryz.ntmps12,go_sem] 
  have hs0:srcOk 2900 (cd,pt,sd):=hc
  rcases hr1:l9 (cd,pt,sd) with⟨⟨pi,ts,ns,os⟩,u1,p1,q1⟩
  have hs1:=B8C.at hs0 (by omega) hr1
  rcases hr2:U4 5 (u1,p1,q1) with⟨v2,u2,p2,q2⟩
  have hs2:=n8 hs1 (by omega) hr2
  rcases hr3:l9 (u1,p1,q1) with⟨⟨pa,ta,na,oa⟩,u3,p3,q3⟩
  rcases hr4:l9 (u2,p2,q2) with⟨⟨pb,tb,nb,ob⟩,u4,p4,q4⟩
  rcases hr5:U4 3 (u2,p2,q2) with⟨v5,u5,p5,q5⟩
  have hs5:=n8 hs2 (by omega) hr5
  rcases hr6:A3E (pi,ts,ns,os) (u5,p5,q5) with⟨⟨pe,te,ne,oe⟩,u6,p6,q6⟩
  refine oS fun _ hK1=>?_;refine oW V8 ?_;simp only[go_sem];repeat(with_reducible first|refine oA ?_|refine And.intro (by first|exact G4|exact⟨hs5.le (by omega),by assumption⟩|assumption|exact hPt) ?_)
  refine hK1 _ ?_;refine oS fun _ hK2=>?_;refine oW V8 ?_;simp only[List.nodup_cons,List.nodup_nil,List.not_mem_nil,not_false_eq_true,hr1,go_sem];repeat(with_reducible first|refine oA ?_|refine And.intro (by first|exact G4|exact⟨hs5.le (by omega),by assumption⟩|assumption|exact hPt) ?_)
  refine hK2 _ ?_;refine oS fun _ hK3=>?_;refine oS fun _ hK4=>?_;refine Q1 (d7 _ 196 (by decide)) ?_;simp (maxSteps:=2000000)only[go_sem];refine Q1 (d7 _ 197 (by decide)) ?_;simp (maxSteps:=2000000)only[go_sem];refine Q1 (A4u _ 198 (by decide)) ?_;simp (maxSteps:=2000000)only[go_sem];refine oW V8 ?_;simp (maxSteps:=2000000)only[hr2,go_sem];repeat' (with_reducible first|refine oA ?_|refine And.intro (by first|exact G4|exact⟨hs5.le (by omega),by assumption⟩|assumption|exact hPt) ?_|refine oT (fun g2=>?_) (fun g2=>?_)|refine oE (fun g2=>?_) (fun g2=>?_))
  all_goals
   refine hK4 _ ?_;refine D2 rfl ?_ ?_
   ·
    intro c0;try simp only[zA,zB,zC,zD,zE,zF,zG,zH,zI] at c0
    all_goals
     refine oS fun _ hK5=>?_
     refine oR V8
       [[],[],[1],[0,1,2],[0,1,2,3]]
       [[30,340,341,342,343,344,345,346,347,348,349,350,351,352,353,354,355],[],[],[],[]]
       [[],[],[30,340,341,342,343,344,345,346,347,348,349,350,351,352,353,354,355],[],[]] (by kernel_rfl) (by kernel_rfl) (B7 (acc:=[]) ?_)
     simp (maxSteps:=2000000)only[List.nodup_cons,List.nodup_nil,List.not_mem_nil,not_false_eq_true,hr3,hr4,go_sem];repeat(with_reducible first|refine oD ?_|refine And.intro (by first|exact G4|exact⟨hs5.le (by omega),by assumption⟩|assumption|exact hPt) ?_)
     refine hK5 _ ?_;refine Q1 (d7 _ 340 (by decide)) ?_;simp (maxSteps:=2000000)only[go_sem];refine Q1 (d7 _ 341 (by decide)) ?_;simp (maxSteps:=2000000)only[go_sem];refine Q1 (A4u _ 342 (by decide)) ?_;simp (maxSteps:=2000000)only[go_sem];refine A2 ?_;simp only[hres,go_sem];first|exact oG|(refine⟨oG,?_⟩;first|(simp only[C3p hr1 (by assumption) hr3];((repeat' refine And.intro ?_ ?_)<;>first|rfl|trivial|(congr 1;done)))|(simp only[C3z hr1 (by assumption) (show U4 5 _=(true,u2,p2,q2) by rw[hr2,show v2=true by assumption]) hr4];((repeat' refine And.intro ?_ ?_)<;>first|rfl|trivial|(congr 1;done))))
   ·
    intro c0;try simp only[zA,zB,zC,zD,zE,zF,zG,zH,zI] at c0
    all_goals
     have hPt:C7 (pi,ts,ns,os)=true:=by first|assumption|(clear hK1 hK2 hK3 hK4;simp_all;done)
     have hv2:v2=false:=by first|assumption|(clear hK1 hK2 hK3 hK4;simp_all;done)
     refine A3 ?_;simp only[go_sem];refine hK3 _ ?_;refine oS fun _ hK6=>?_;refine oS fun _ hK7=>?_;refine oW V8 ?_;simp only[hr5,go_sem];repeat(with_reducible first|refine oA ?_|refine And.intro (by first|exact G4|exact⟨hs5.le (by omega),by assumption⟩|assumption|exact hPt) ?_)
     refine hK7 _ ?_;refine D2 rfl ?_ ?_
     ·
      intro c1;try simp only[zA,zB,zC,zD,zE,zF,zG,zH,zI] at c1
      all_goals
       have hv5:v5=true:=c1
       refine oS fun _ hK8=>?_
       refine oR V8
         [[],[],[0,1],[0,1,2]]
         [[404,405,406,407,408,409,410,411,412,413,414,415,416,417,418,419],[],[],[]]
         [[],[404,405,406,407,408,409,410,411,412,413,414,415,416,417,418,419],[],[]] (by kernel_rfl) (by kernel_rfl) (B7 (acc:=[]) ?_)
       simp (maxSteps:=2000000)only[List.nodup_cons,List.nodup_nil,List.not_mem_nil,not_false_eq_true,go_sem];repeat(with_reducible first|refine oD ?_|refine And.intro (by first|exact G4|exact⟨hs5.le (by omega),by assumption⟩|assumption|exact hPt) ?_)
       refine hK8 _ ?_;refine Q1 (d7 _ 404 (by decide)) ?_;simp (maxSteps:=2000000)only[go_sem];refine Q1 (d7 _ 405 (by decide)) ?_;simp (maxSteps:=2000000)only[go_sem];refine Q1 (A4u _ 406 (by decide)) ?_;simp (maxSteps:=2000000)only[go_sem];refine A2 ?_;simp only[hres,go_sem]
       first
        | exact oG
        | refine ⟨oG, ?_⟩
          simp only[C3C hr1 hPt (show U4 5 _=(false,u2,p2,q2) by rw[hr2,hv2]) (show U4 3 _=(true,u5,p5,q5) by rw[hr5,hv5])]
          try((repeat' refine And.intro ?_ ?_)<;>first|rfl|trivial|(congr 1;done))
     ·
      intro c1;try simp only[zA,zB,zC,zD,zE,zF,zG,zH,zI] at c1
      all_goals
       have hv5:v5=false:=c1
       refine A3 ?_;simp only[go_sem];refine hK6 _ ?_;refine oS fun _ hK9=>?_
       refine oR V8
         [[],[],[1],[0,1,2],[0,1,2,3]]
         [[30,452,453,454,455,456,457,458,459,460,461,462,463,464,465,466,467],[],[],[],[]]
         [[],[],[30,452,453,454,455,456,457,458,459,460,461,462,463,464,465,466,467],[],[]] (by kernel_rfl) (by kernel_rfl) (B7 (acc:=[]) ?_)
       simp (maxSteps:=2000000)only[List.nodup_cons,List.nodup_nil,List.not_mem_nil,not_false_eq_true,hr6,go_sem];repeat(with_reducible first|refine oD ?_|refine And.intro (by first|exact G4|exact⟨hs5.le (by omega),by assumption⟩|assumption|exact hPt) ?_)
       refine hK9 _ ?_;refine Q1 (d7 _ 452 (by decide)) ?_;simp (maxSteps:=2000000)only[go_sem];refine Q1 (d7 _ 453 (by decide)) ?_;simp (maxSteps:=2000000)only[go_sem];refine Q1 (A4u _ 454 (by decide)) ?_;simp (maxSteps:=2000000)only[go_sem];refine A2 ?_;simp only[hres,go_sem]
       first
        | exact oG
        | refine ⟨oG, ?_⟩
          simp only[C30 hr1 hPt (show U4 5 _=(false,u2,p2,q2) by rw[hr2,hv2]) (show U4 3 _=(false,u5,p5,q5) by rw[hr5,hv5]) hr6]
          try((repeat' refine And.intro ?_ ?_)<;>first|rfl|trivial|(congr 1;done))
def A99:F8:=fun f=>if f=12 then some (.g A1F) else B2C f
theorem A0l:B8 Tryz.prog A99:=a8 B8D (B6 Tryz.func12 rfl (by decide)) V8
attribute [go_sem] A99 A1F
def A0f:Con:=⟨[.val ((.row 5 (.int .u8)))],[⟨(.prod (.int .i64) (.prod (.row 26 (.row 2 (.int .i64))) (.prod (.row 56 (.prod (.int .i64) (.prod (.int .i64) (.prod (.int .i64) (.row 2 (.int .i64)))))) (.row 2 (.int .i64))))),false⟩,⟨(.prod (.int .i64) (.prod (.row 26 (.row 2 (.int .i64))) (.prod (.row 56 (.prod (.int .i64) (.prod (.int .i64) (.prod (.int .i64) (.row 2 (.int .i64)))))) (.row 2 (.int .i64))))),false⟩],fun x=>∀b∈(x.1:List Int),0≤b∧b≤255,fun x=>C2n x.1⟩
theorem B2r:D4 Tryz.prog 5 A0f:=by
  refine A7 Tryz.func5 rfl ?_
  have hres:Tryz.f5.results.toList=[.cell 2 28,.cell 3 28]:=rfl
  rintro⟨(cd:List Int),_⟩ hc hL
  simp only[A0f,go_sem] at hL
  simp only[A0f,St.init,St.initG,Tryz.ntmps5,go_sem] 
  have hcd:∀b∈cd,0≤b∧b≤255:=hc
  have hs0:srcOk 3000 (cd,0,0):=⟨hcd,by simp,by simp⟩
  refine oS fun _ hK1=>?_;refine oW A0l ?_;simp only[go_sem];repeat(with_reducible first|refine oA ?_|refine And.intro (by first|exact G4) ?_)
  refine hK1 _ ?_;refine oS fun _ hK2=>?_;refine oW A0l ?_;simp only[go_sem];repeat(with_reducible first|refine oA ?_|refine And.intro (by first|exact G4) ?_)
  refine hK2 _ ?_;refine oS fun _ hK3=>?_;refine oW A0l ?_;simp (maxSteps:=2000000)only[List.nodup_cons,List.nodup_nil,List.not_mem_nil,not_false_eq_true,go_sem];repeat(with_reducible first|refine oA ?_|refine And.intro (by first|exact G4) ?_)
  refine hK3 _ ?_;refine A2 ?_;simp only[hres,go_sem];first|exact oF|(refine⟨?_,oF⟩;first|rfl|exact⟨rfl,rfl⟩)
def A4N:F8:=fun f=>if f=5 then some (.p A0f) else A99 f
theorem A9X:B8 Tryz.prog A4N:=F9 B2r (B6 Tryz.func5 rfl (by decide)) A0l
attribute [go_sem] A4N A0f
end Go.Proofs.YtflobmmbhaofbaaGreat
