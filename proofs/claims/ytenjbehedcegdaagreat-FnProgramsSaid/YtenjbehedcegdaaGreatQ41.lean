/-
  Texts of this claim, joined (part 41). No condition beyond those of the theorems.
-/
import Derived.Test.YtenjbehedcegdaaGreatQ40
import Derived.Test.YtenjbehedcegdaaGreatQ17
namespace Go.Proofs.YtenjbehedcegdaaGreat
open Go.RowKit
set_option linter.unusedSimpArgs false
set_option linter.unusedVariables false
set_option maxRecDepth 100000
set_option maxHeartbeats 16000000
def m9:GCon where
  ps:=[.po 0]
  os:=[.box [.rd ((.row 5 (.int .u8))),.rd (.int .i64),.rd (.int .u64)]]
  c:=fun x=>srcOk 1400 (x.2.1.1,x.2.1.2.1,x.2.1.2.2.1)
  r:=fun x=>.agg [.sc (.int .i64 (A1C (x.2.1.1,x.2.1.2.1,x.2.1.2.2.1)).1.1),.ow 10,.ow 11,.ow 12]
  o:=fun x=>[(30,.box [.rd [] 5 (.int .u8) ((A1C (x.2.1.1,x.2.1.2.1,x.2.1.2.2.1)).2.1),.sc (.int .i64 ((A1C (x.2.1.1,x.2.1.2.1,x.2.1.2.2.1)).2.2.1)),.sc (.int .u64 ((A1C (x.2.1.1,x.2.1.2.1,x.2.1.2.2.1)).2.2.2))]),(10,.tree 26 (.row 2 (.int .i64)) ((A1C (x.2.1.1,x.2.1.2.1,x.2.1.2.2.1)).1.2.1) none),(11,.tree 67 ((.prod (.int .i64) (.prod (.int .i64) (.prod (.int .i64) (.row 2 (.int .i64)))))) ((A1C (x.2.1.1,x.2.1.2.1,x.2.1.2.2.1)).1.2.2.1) none),(12,.row 2 (.int .i64) ((A1C (x.2.1.1,x.2.1.2.1,x.2.1.2.2.1)).1.2.2.2) [])]
  ok:=by
    rintro⟨⟨_,_⟩,⟨⟨(cd:List Int),(pt:Int),(sd:Int),_⟩,_⟩⟩
    exact⟨rfl,rfl,by decide⟩
theorem B1n:l6 Tryz.prog 14 m9:=by
  refine F1 Tryz.func14 rfl ?_
  have hres:Tryz.f14.results.toList=[.cell 2 28]:=rfl
  rintro⟨⟨_,_⟩,⟨⟨(cd:List Int),(pt:Int),(sd:Int),_⟩,_⟩⟩ hc hL hO
  simp only[m9,go_sem] at hL
  simp only[m9,go_sem] at hO
  simp only[m9,St.init,St.initG,Tryz.ntmps14,go_sem] 
  have hs0:srcOk 1400 (cd,pt,sd):=hc
  rcases hr1:H5 [1,1,2,0] (cd,pt,sd) with⟨v1,u1,p1,q1⟩
  obtain⟨hs1,hm1⟩:=J9 hs0 (by omega) (by simp) hr1
  have hv1:0≤v1∧v1≤2:=by simp at hm1;omega
  obtain⟨hva,hvb⟩:=hv1;rcases hr2:D8 2 (u1,p1,q1) with⟨v2,u2,p2,q2⟩
  obtain⟨hs2,hv2,hb2,hz2⟩:=H3 hs1 (by omega) hr2
  have hs2:srcOk _ (u2,p2,q2):=hs2
  have hb2:=hb2 (by omega)
  have hw:IntKind.i64.wrap (1+v2)=1+v2:=H4 (by omega)
  rcases hr3:A0L 3 (u2,p2,q2) with⟨v3,u3,p3,q3⟩
  have hs3:=A3M hs2 (by omega) hr3
  rcases hr4:A2e v1 (1+v2) 9 (v3 && decide (0 < v1)) (u3,p3,q3) with⟨⟨pi,ts,ns,os⟩,u4,p4,q4⟩
  have hs4:=(A7Z (by omega) (by omega)).at hs3 (by omega) hr4
  obtain⟨hpe,hpt,hpn1,hpn2,hpo,hpa⟩:=B5N hs3 (by omega) (by omega) hr4
  simp only at hpt hpn1 hpn2 hpo
  have h4:v1≤4:=by omega
  have h5:0≤1+v2:=by omega
  have h6:1+v2≤4:=by omega
  have h7:(1:Int)≤9:=by omega
  have h8:(9:Int)≤20:=by omega
  rcases hr5:D8 (ns.length:Int) (u4,p4,q4) with⟨v5,u5,p5,q5⟩
  obtain⟨hs5,hv5,hb5,hz5⟩:=H3 hs4 (by omega) hr5
  have hs5:srcOk _ (u5,p5,q5):=hs5
  have hb5:=hb5 (by omega)
  rcases hr6:D8 24 (u5,p5,q5) with⟨v6,u6,p6,q6⟩
  obtain⟨hs6,hv6,hb6,hz6⟩:=H3 hs5 (by omega) hr6
  have hs6:srcOk _ (u6,p6,q6):=hs6
  refine oS fun _ hK1=>?_;refine oW C5 ?_;simp only[go_sem];repeat(with_reducible first|refine oA ?_|refine And.intro (by first|exact F5|exact⟨hs0.le (by omega),by simp⟩|with_unfolding_all exact⟨hs3.le (by omega),hva,h4,h5,h6,h7,h8⟩|exact⟨hs6.le (by omega),by simp⟩) ?_)
  refine hK1 _ ?_;refine oS fun _ hK2=>?_;refine oW C5 ?_;simp only[hr1,go_sem];repeat(with_reducible first|refine oA ?_|refine And.intro (by first|exact F5|exact⟨hs0.le (by omega),by simp⟩|with_unfolding_all exact⟨hs3.le (by omega),hva,h4,h5,h6,h7,h8⟩|exact⟨hs6.le (by omega),by simp⟩) ?_)
  refine hK2 _ ?_;refine W3 (True) ⟨(.c (.po 30 0)::zz::.c (.po 132 0)::zz::.c (.po 164 0)::zz::zz::zz::zz::zz::zz::zz::zz::zz::zz::zz::zz::zz::zz::zz::zz::zz::zz::zz::zz::zz::zz::zz::zz::zz::zz::zz::zz::zz::zz::zz::zz::zz::zz::zz::zz::zz::zz::zz::zz::zz::zz::zz::zz::zz::zz::zz::zz::zz::zz::zz::zz::zz::zz::zz::zz::zz::zz::zz::zz::zz::zz::zz::zz::zz::zz::zz::zz::zz::zz::zz::zz::zz::zz::zz::zz::zz::zz::zz::zz::zz::zz::zz::zz::zz::zz::zz::zz::zz::zz::zz::zz::zz::[]),[(30,.box [.rd [] 5 (.int .u8) (u4),.sc (.int .i64 (p4)),.sc (.int .u64 (q4))]),(132,.box [.sc (.int .i64 (0)),.sc (.slice none 0 0),.sc (.slice none 0 0),.sc (.slice none 0 0)]),(164,.box [.sc (.int .i64 (pi)),.ow 9001,.ow 9002,.ow 9003]),(9001,.tree 26 (.row 2 (.int .i64)) (ts) none),(9002,.tree 67 (.prod (.int .i64) (.prod (.int .i64) (.prod (.int .i64) (.row 2 (.int .i64))))) (ns) none),(9003,.row 2 (.int .i64) (os) [])]⟩ ?_ fun _ hK3=>?_
  ·
   intro hJ;refine oS fun _ hK4=>?_;refine oW C5 ?_;simp (maxSteps:=2000000)only[hr5,go_sem];repeat(with_reducible first|refine oA ?_|refine And.intro (by first|exact F5|exact⟨hs0.le (by omega),by simp⟩|with_unfolding_all exact⟨hs3.le (by omega),hva,h4,h5,h6,h7,h8⟩|exact⟨hs6.le (by omega),by simp⟩) ?_)
   refine hK4 _ ?_;refine oS fun _ hK5=>?_;refine oS fun _ hK6=>?_;refine oW C5 ?_;simp only[hr6,go_sem];repeat(with_reducible first|refine oA ?_|refine And.intro (by first|exact F5|exact⟨hs0.le (by omega),by simp⟩|with_unfolding_all exact⟨hs3.le (by omega),hva,h4,h5,h6,h7,h8⟩|exact⟨hs6.le (by omega),by simp⟩) ?_)
   refine hK6 _ ?_;refine A3 ?_;refine oS fun _ hK7=>?_;refine oW C5 ?_;simp only[go_sem];repeat(with_reducible first|refine oA ?_|refine And.intro (by first|exact F5|exact⟨hs0.le (by omega),by simp⟩|with_unfolding_all exact⟨hs3.le (by omega),hva,h4,h5,h6,h7,h8⟩|exact⟨hs6.le (by omega),by simp⟩) ?_)
   refine hK7 _ ?_;refine oC rfl ?_ ?_
   ·
    intro c0;have k0:=decide_eq_true c0
    rcases hr7:H5 [-1,0,5,4] (u6,p6,q6) with⟨v7,u7,p7,q7⟩
    obtain⟨hs7,hm7⟩:=J9 hs6 (by omega) (by simp) hr7
    refine oW C5 ?_;simp (maxSteps:=2000000)only[hr7,go_sem];repeat(with_reducible first|refine oA ?_|refine And.intro (by first|exact F5|exact⟨hs0.le (by omega),by simp⟩|with_unfolding_all exact⟨hs3.le (by omega),hva,h4,h5,h6,h7,h8⟩|exact⟨hs6.le (by omega),by simp⟩) ?_)
    refine hK5 _ ?_;refine oS fun _ hK8=>?_;refine oW C5 ?_;simp only[go_sem];repeat(with_reducible first|refine oA ?_|refine And.intro (by first|exact F5|exact⟨hs0.le (by omega),by simp⟩|with_unfolding_all exact⟨hs3.le (by omega),hva,h4,h5,h6,h7,h8⟩|exact⟨hs6.le (by omega),by simp⟩) ?_)
    refine hK8 _ ?_;refine A0 ?_;simp only[hres,go_sem]
    first
     | exact oG
     | refine ⟨oG, ?_⟩
       simp only[A1C,bnd,hr1,hr2,hr3,hr4,hr5,hr6,A2X];first|simp only[k0,k1,k2,k3,k4,k5,hr7,hv7,List.append_nil,List.append_assoc]|simp only[k0,k1,k2,k3,k4,k5]|simp only[k0,k1,k2,k3,k4]|simp only[k0,k1,k2,k3]|simp only[k0,k1,k2,hr7]|simp only[k0,k1,hr7]|simp only[k0,hr7]
       try((repeat' refine And.intro ?_ ?_)<;>first|rfl|trivial|(congr 1;done))
   intro c0;have k0:=decide_eq_false c0
   refine oS fun _ hK9=>?_;refine oW C5 ?_;simp only[go_sem];repeat(with_reducible first|refine oA ?_|refine And.intro (by first|exact F5|exact⟨hs0.le (by omega),by simp⟩|with_unfolding_all exact⟨hs3.le (by omega),hva,h4,h5,h6,h7,h8⟩|exact⟨hs6.le (by omega),by simp⟩) ?_)
   refine hK9 _ ?_;refine oC rfl ?_ ?_
   ·
    intro c1;have k1:=decide_eq_true c1
    rcases hr7:H5 [(ns.length:Int),-1,0] (u6,p6,q6) with⟨v7,u7,p7,q7⟩
    obtain⟨hs7,hm7⟩:=J9 hs6 (by omega) (by simp) hr7
    refine oR C5
      [[],[0],[],[],[3],[3,4],[3,4,5],[2,3,4,5,6],[2,3,4,5,6,7],[0,1,2,3,4,5,6,7,8],[0,1,2,3,4,5,6,7,8,9],[0,1,2,3,4,5,6,7,8,9,10]]
      [[30,772,788,789,790,791,792,793,794,795,796,797,798,799,800,801,802,803,804],[30,772,788,789,790,791,792,793,794,795,796,797,798,799,800,801,802,803,804],[772],[],[],[],[],[],[],[],[],[]]
      [[],[],[],[],[],[],[772],[30,788,789,790,791,792,793,794,795,796,797,798,799,800,801,802,803],[30,772,788,789,790,791,792,793,794,795,796,797,798,799,800,801,802,803,804],[],[],[]] (by kernel_rfl) (by kernel_rfl) (A7 (acc:=[]) ?_)
    simp (maxSteps:=2000000)only[hr7,go_sem];repeat(with_reducible first|refine oD ?_|refine And.intro (by first|exact F5|exact⟨hs0.le (by omega),by simp⟩|with_unfolding_all exact⟨hs3.le (by omega),hva,h4,h5,h6,h7,h8⟩|exact⟨hs6.le (by omega),by simp⟩) ?_)
    refine hK5 _ ?_;refine oS fun _ hK10=>?_;refine oW C5 ?_;simp only[go_sem];repeat(with_reducible first|refine oA ?_|refine And.intro (by first|exact F5|exact⟨hs0.le (by omega),by simp⟩|with_unfolding_all exact⟨hs3.le (by omega),hva,h4,h5,h6,h7,h8⟩|exact⟨hs6.le (by omega),by simp⟩) ?_)
    refine hK10 _ ?_;refine A0 ?_;simp only[hres,go_sem]
    first
     | exact oG
     | refine ⟨oG, ?_⟩
       simp only[A1C,bnd,hr1,hr2,hr3,hr4,hr5,hr6,A2X];first|simp only[k0,k1,k2,k3,k4,k5,hr7,hv7,List.append_nil,List.append_assoc]|simp only[k0,k1,k2,k3,k4,k5]|simp only[k0,k1,k2,k3,k4]|simp only[k0,k1,k2,k3]|simp only[k0,k1,k2,hr7]|simp only[k0,k1,hr7]|simp only[k0,hr7]
       try((repeat' refine And.intro ?_ ?_)<;>first|rfl|trivial|(congr 1;done))
   intro c1;have k1:=decide_eq_false c1
   refine oS fun _ hK11=>?_;refine oW C5 ?_;simp only[go_sem];repeat(with_reducible first|refine oA ?_|refine And.intro (by first|exact F5|exact⟨hs0.le (by omega),by simp⟩|with_unfolding_all exact⟨hs3.le (by omega),hva,h4,h5,h6,h7,h8⟩|exact⟨hs6.le (by omega),by simp⟩) ?_)
   refine hK11 _ ?_;refine oC rfl ?_ ?_
   ·
    intro c2;have k2:=decide_eq_true c2
    rcases hr7:A2g 1 (u6,p6,q6) with⟨⟨nk,na,nb,nf⟩,u7,p7,q7⟩
    have hs7:=(A7j 1).at hs6 (by omega) hr7
    refine oR C5
      [[],[0],[],[],[3],[0,1,2,3,4],[0,1,2,3,4,5]]
      [[30,948,949,950,951,952,953,954,955,956,957,958,959,960,961,962,963],[30,948,949,950,951,952,953,954,955,956,957,958,959,960,961,962,963],[30,948,949,950,951,952,953,954,955,956,957,958,959,960,961,962,963],[],[],[],[]]
      [[],[],[],[],[30,948,949,950,951,952,953,954,955,956,957,958,959,960,961,962,963],[],[]] (by kernel_rfl) (by kernel_rfl) (A7 (acc:=[]) ?_)
    simp (maxSteps:=2000000)only[List.nodup_cons,List.nodup_nil,List.not_mem_nil,not_false_eq_true,hr7,go_sem];repeat(with_reducible first|refine oD ?_|refine And.intro (by first|exact F5|exact⟨hs0.le (by omega),by simp⟩|with_unfolding_all exact⟨hs3.le (by omega),hva,h4,h5,h6,h7,h8⟩|exact⟨hs6.le (by omega),by simp⟩) ?_)
    refine hK5 _ ?_;refine oS fun _ hK12=>?_;refine oW C5 ?_;simp only[go_sem];repeat(with_reducible first|refine oA ?_|refine And.intro (by first|exact F5|exact⟨hs0.le (by omega),by simp⟩|with_unfolding_all exact⟨hs3.le (by omega),hva,h4,h5,h6,h7,h8⟩|exact⟨hs6.le (by omega),by simp⟩) ?_)
    refine hK12 _ ?_;refine A0 ?_;simp only[hres,go_sem]
    first
     | exact oG
     | refine ⟨oG, ?_⟩
       simp only[A1C,bnd,hr1,hr2,hr3,hr4,hr5,hr6,A2X];first|simp only[k0,k1,k2,k3,k4,k5,hr7,hv7,List.append_nil,List.append_assoc]|simp only[k0,k1,k2,k3,k4,k5]|simp only[k0,k1,k2,k3,k4]|simp only[k0,k1,k2,k3]|simp only[k0,k1,k2,hr7]|simp only[k0,k1,hr7]|simp only[k0,hr7]
       try((repeat' refine And.intro ?_ ?_)<;>first|rfl|trivial|(congr 1;done))
   intro c2;have k2:=decide_eq_false c2
   refine oS fun _ hK13=>?_;refine oW C5 ?_;simp only[go_sem];repeat(with_reducible first|refine oA ?_|refine And.intro (by first|exact F5|exact⟨hs0.le (by omega),by simp⟩|with_unfolding_all exact⟨hs3.le (by omega),hva,h4,h5,h6,h7,h8⟩|exact⟨hs6.le (by omega),by simp⟩) ?_)
   refine hK13 _ ?_;refine oC rfl ?_ ?_
   ·
    intro c3;have k3:=decide_eq_true c3
    refine oW C5 ?_;simp (maxSteps:=2000000)only[List.nodup_cons,List.nodup_nil,List.not_mem_nil,not_false_eq_true,go_sem];repeat(with_reducible first|refine oA ?_|refine And.intro (by first|exact F5|exact⟨hs0.le (by omega),by simp⟩|with_unfolding_all exact⟨hs3.le (by omega),hva,h4,h5,h6,h7,h8⟩|exact⟨hs6.le (by omega),by simp⟩) ?_)
    refine hK5 _ ?_;refine oS fun _ hK14=>?_;refine oW C5 ?_;simp only[go_sem];repeat(with_reducible first|refine oA ?_|refine And.intro (by first|exact F5|exact⟨hs0.le (by omega),by simp⟩|with_unfolding_all exact⟨hs3.le (by omega),hva,h4,h5,h6,h7,h8⟩|exact⟨hs6.le (by omega),by simp⟩) ?_)
    refine hK14 _ ?_;refine A0 ?_;simp only[hres,go_sem]
    first
     | exact oG
     | refine ⟨oG, ?_⟩
       simp only[A1C,bnd,hr1,hr2,hr3,hr4,hr5,hr6,A2X];first|simp only[k0,k1,k2,k3,k4,k5,hr7,hv7,List.append_nil,List.append_assoc]|simp only[k0,k1,k2,k3,k4,k5]|simp only[k0,k1,k2,k3,k4]|simp only[k0,k1,k2,k3]|simp only[k0,k1,k2,hr7]|simp only[k0,k1,hr7]|simp only[k0,hr7]
       try((repeat' refine And.intro ?_ ?_)<;>first|rfl|trivial|(congr 1;done))
   intro c3;have k3:=decide_eq_false c3
   refine oS fun _ hK15=>?_;refine oW C5 ?_;simp only[go_sem];repeat(with_reducible first|refine oA ?_|refine And.intro (by first|exact F5|exact⟨hs0.le (by omega),by simp⟩|with_unfolding_all exact⟨hs3.le (by omega),hva,h4,h5,h6,h7,h8⟩|exact⟨hs6.le (by omega),by simp⟩) ?_)
   refine hK15 _ ?_;refine oC rfl ?_ ?_
   ·
    intro c4;have k4:=decide_eq_true c4
    refine oW C5 ?_;simp (maxSteps:=2000000)only[List.nodup_cons,List.nodup_nil,List.not_mem_nil,not_false_eq_true,go_sem];repeat(with_reducible first|refine oA ?_|refine And.intro (by first|exact F5|exact⟨hs0.le (by omega),by simp⟩|with_unfolding_all exact⟨hs3.le (by omega),hva,h4,h5,h6,h7,h8⟩|exact⟨hs6.le (by omega),by simp⟩) ?_)
    refine hK5 _ ?_;refine oS fun _ hK16=>?_;refine oW C5 ?_;simp only[go_sem];repeat(with_reducible first|refine oA ?_|refine And.intro (by first|exact F5|exact⟨hs0.le (by omega),by simp⟩|with_unfolding_all exact⟨hs3.le (by omega),hva,h4,h5,h6,h7,h8⟩|exact⟨hs6.le (by omega),by simp⟩) ?_)
    refine hK16 _ ?_;refine A0 ?_;simp only[hres,go_sem]
    first
     | exact oG
     | refine ⟨oG, ?_⟩
       simp only[A1C,bnd,hr1,hr2,hr3,hr4,hr5,hr6,A2X];first|simp only[k0,k1,k2,k3,k4,k5,hr7,hv7,List.append_nil,List.append_assoc]|simp only[k0,k1,k2,k3,k4,k5]|simp only[k0,k1,k2,k3,k4]|simp only[k0,k1,k2,k3]|simp only[k0,k1,k2,hr7]|simp only[k0,k1,hr7]|simp only[k0,hr7]
       try((repeat' refine And.intro ?_ ?_)<;>first|rfl|trivial|(congr 1;done))
   intro c4;have k4:=decide_eq_false c4
   refine oS fun _ hK17=>?_;refine oW C5 ?_;simp only[go_sem];repeat(with_reducible first|refine oA ?_|refine And.intro (by first|exact F5|exact⟨hs0.le (by omega),by simp⟩|with_unfolding_all exact⟨hs3.le (by omega),hva,h4,h5,h6,h7,h8⟩|exact⟨hs6.le (by omega),by simp⟩) ?_)
   refine hK17 _ ?_;refine oC rfl ?_ ?_
   ·
    intro c5;have k5:=decide_eq_true c5
    refine oS fun _ hK18=>?_;refine A3 ?_;refine A8 (ι:={ j:Nat // j≤24 - ns.length }) (fun k=>⟨(.c (.po 30 0)::zz::.c (.po 132 0)::zz::.c (.po 164 0)::zz::zz::zz::zz::zz::zz::zz::zz::zz::zz::zz::zz::zz::zz::zz::zz::zz::zz::zz::zz::zz::zz::zz::zz::zz::zz::zz::zz::zz::zz::zz::zz::zz::zz::zz::zz::zz::zz::zz::zz::zz::zz::zz::zz::zz::zz::zz::zz::zz::zz::zz::zz::zz::zz::zz::zz::zz::zz::zz::zz::zz::zz::zz::zz::zz::zz::zz::zz::zz::zz::zz::zz::zz::zz::zz::zz::zz::zz::zz::zz::zz::zz::zz::zz::zz::zz::zz::zz::zz::zz::zz::zz::zz::[]),[(30,.box [.rd [] 5 (.int .u8) (u6),.sc (.int .i64 (p6)),.sc (.int .u64 (q6))]),(132,.box [.sc (.int .i64 (0)),.sc (.slice none 0 0),.sc (.slice none 0 0),.sc (.slice none 0 0)]),(164,.box [.sc (.int .i64 (pi)),.ow 9001,.ow 9002,.ow 9003]),(9001,.tree 26 (.row 2 (.int .i64)) (ts) none),(9002,.tree 67 (.prod (.int .i64) (.prod (.int .i64) (.prod (.int .i64) (.row 2 (.int .i64))))) ((ns++List.replicate k.1 ((2,1,0,[]):B1))) none),(9003,.row 2 (.int .i64) (os) [])]⟩) (fun k=>24 - ns.length - k.1) ⟨0,by omega⟩ ?_ ?_
    ·
     refine oK ?_;simp (maxSteps:=2000000)only[go_sem];all_goals((repeat' refine And.intro ?_ ?_)<;>first|rfl|(congr 1;done)|(congr 1;simp;done)|(simp;done))
    rintro⟨j,hj⟩ K19 hL19
    have hll:(ns++List.replicate j ((2,1,0,[]):B1)).length=ns.length+j:=by rw[List.length_append,List.length_replicate]
    have hrs:List.replicate j ((2,1,0,[]):B1)++[(2,1,0,[])]=(2,1,0,[])::List.replicate j (2,1,0,[]):=by rw[←List.replicate_succ',List.replicate_succ]
    have hrf:ns++(List.replicate j ((2,1,0,[]):B1)++[(2,1,0,[])])=ns++(2,1,0,[])::List.replicate j (2,1,0,[]):=by rw[hrs]
    refine oS fun _ hK20=>?_;refine oS fun _ hK21=>?_;refine oW C5 ?_;simp only[hll,go_sem];repeat(with_reducible first|refine oA ?_|refine And.intro (by first|exact F5|exact⟨hs0.le (by omega),by simp⟩|with_unfolding_all exact⟨hs3.le (by omega),hva,h4,h5,h6,h7,h8⟩|exact⟨hs6.le (by omega),by simp⟩) ?_)
    refine hK21 _ ?_;refine oC rfl ?_ ?_
    ·
     intro c6;refine A2 ?_;simp only[go_sem];refine hK20 _ ?_;refine A3 ?_;refine oW C5 ?_;simp (maxSteps:=2000000)only[List.nodup_cons,List.nodup_nil,List.not_mem_nil,not_false_eq_true,hll,go_sem];repeat(with_reducible first|refine oA ?_|refine And.intro (by first|exact F5|exact⟨hs0.le (by omega),by simp⟩|with_unfolding_all exact⟨hs3.le (by omega),hva,h4,h5,h6,h7,h8⟩|exact⟨hs6.le (by omega),by simp⟩) ?_)
     refine hL19 ⟨j+1,by omega⟩ _ (oK ?_) ?_
     ·
      simp (maxSteps:=2000000)only[go_sem];all_goals((repeat' refine And.intro ?_ ?_)<;>first|rfl|exact hrf|(congr 1;exact hrf)|(rw[List.append_assoc,←List.replicate_succ'];done)|(congr 1;rw[List.append_assoc,←List.replicate_succ'];done)|(congr 1;done))
     ·
      first|(simp only[];omega)|omega|(simp;omega)
    intro c6;obtain rfl:j=24 - ns.length:=by omega
    refine B6 ?_;simp only[go_sem];refine hK18 _ ?_;refine oS fun _ hK22=>?_;rcases hr7:A0L 2 (u6,p6,q6) with⟨v7,u7,p7,q7⟩
    have hs7:=A3M hs6 (by omega) hr7
    refine oW C5 ?_;simp only[hr7,go_sem];repeat(with_reducible first|refine oA ?_|refine And.intro (by first|exact F5|exact⟨hs0.le (by omega),by simp⟩|with_unfolding_all exact⟨hs3.le (by omega),hva,h4,h5,h6,h7,h8⟩|exact⟨hs6.le (by omega),by simp⟩) ?_)
    refine hK22 _ ?_;refine oC rfl ?_ ?_
    ·
     intro c7;have hv7:v7=true:=c7
     refine oW C5 ?_;simp (maxSteps:=2000000)only[List.nodup_cons,List.nodup_nil,List.not_mem_nil,not_false_eq_true,hll,go_sem];repeat(with_reducible first|refine oA ?_|refine And.intro (by first|exact F5|exact⟨hs0.le (by omega),by simp⟩|with_unfolding_all exact⟨hs3.le (by omega),hva,h4,h5,h6,h7,h8⟩|exact⟨hs6.le (by omega),by simp⟩) ?_)
     refine hK5 _ ?_;refine oS fun _ hK23=>?_;refine oW C5 ?_;simp only[go_sem];repeat(with_reducible first|refine oA ?_|refine And.intro (by first|exact F5|exact⟨hs0.le (by omega),by simp⟩|with_unfolding_all exact⟨hs3.le (by omega),hva,h4,h5,h6,h7,h8⟩|exact⟨hs6.le (by omega),by simp⟩) ?_)
     refine hK23 _ ?_;refine A0 ?_;simp only[hres,go_sem]
     first
      | exact oG
      | refine ⟨oG, ?_⟩
        simp only[A1C,bnd,hr1,hr2,hr3,hr4,hr5,hr6,A2X];first|simp only[k0,k1,k2,k3,k4,k5,hr7,hv7,List.append_nil,List.append_assoc]|simp only[k0,k1,k2,k3,k4,k5]|simp only[k0,k1,k2,k3,k4]|simp only[k0,k1,k2,k3]|simp only[k0,k1,k2,hr7]|simp only[k0,k1,hr7]|simp only[k0,hr7]
        try((repeat' refine And.intro ?_ ?_)<;>first|rfl|trivial|(congr 1;done))
    intro c7;have hv7:v7=false:=c7
    refine A2 ?_;simp only[go_sem];refine hK5 _ ?_;refine oS fun _ hK24=>?_;refine oW C5 ?_;simp only[go_sem];repeat(with_reducible first|refine oA ?_|refine And.intro (by first|exact F5|exact⟨hs0.le (by omega),by simp⟩|with_unfolding_all exact⟨hs3.le (by omega),hva,h4,h5,h6,h7,h8⟩|exact⟨hs6.le (by omega),by simp⟩) ?_)
    refine hK24 _ ?_;refine A0 ?_;simp only[hres,go_sem]
    first
     | exact oG
     | refine ⟨oG, ?_⟩
       simp only[A1C,bnd,hr1,hr2,hr3,hr4,hr5,hr6,A2X];first|simp only[k0,k1,k2,k3,k4,k5,hr7,hv7,List.append_nil,List.append_assoc]|simp only[k0,k1,k2,k3,k4,k5]|simp only[k0,k1,k2,k3,k4]|simp only[k0,k1,k2,k3]|simp only[k0,k1,k2,hr7]|simp only[k0,k1,hr7]|simp only[k0,hr7]
       try((repeat' refine And.intro ?_ ?_)<;>first|rfl|trivial|(congr 1;done))
   intro c5;have k5:=decide_eq_false c5
   refine A2 ?_;simp only[go_sem];refine hK5 _ ?_;refine oS fun _ hK25=>?_;refine oW C5 ?_;simp only[go_sem];repeat(with_reducible first|refine oA ?_|refine And.intro (by first|exact F5|exact⟨hs0.le (by omega),by simp⟩|with_unfolding_all exact⟨hs3.le (by omega),hva,h4,h5,h6,h7,h8⟩|exact⟨hs6.le (by omega),by simp⟩) ?_)
   refine hK25 _ ?_;refine A0 ?_;simp only[hres,go_sem]
   first
    | exact oG
    | refine ⟨oG, ?_⟩
      simp only[A1C,bnd,hr1,hr2,hr3,hr4,hr5,hr6,A2X];first|simp only[k0,k1,k2,k3,k4,k5,hr7,hv7,List.append_nil,List.append_assoc]|simp only[k0,k1,k2,k3,k4,k5]|simp only[k0,k1,k2,k3,k4]|simp only[k0,k1,k2,k3]|simp only[k0,k1,k2,hr7]|simp only[k0,k1,hr7]|simp only[k0,hr7]
      try((repeat' refine And.intro ?_ ?_)<;>first|rfl|trivial|(congr 1;done))
  refine oW C5 ?_;simp (maxSteps:=2000000)only[List.nodup_cons,List.nodup_nil,List.not_mem_nil,not_false_eq_true,hr2,hr3,hw,go_sem];repeat' (with_reducible first|refine oA ?_|refine And.intro (by first|exact F5|exact⟨hs0.le (by omega),by simp⟩|with_unfolding_all exact⟨hs3.le (by omega),hva,h4,h5,h6,h7,h8⟩|exact⟨hs6.le (by omega),by simp⟩) ?_|refine oT (fun g2=>?_) (fun g2=>?_)|refine oE (fun g2=>?_) (fun g2=>?_))
  all_goals
   first|(have hr4':A2e v1 (1+v2) 9 (decide (0 < v1)) (u3,p3,q3)=((pi,ts,ns,os),u4,p4,q4):=by rw[show v3=true by assumption,Bool.true_and] at hr4;exact hr4)|(have hr4':A2e v1 (1+v2) 9 false (u3,p3,q3)=((pi,ts,ns,os),u4,p4,q4):=by rw[show v3=false by assumption,Bool.false_and] at hr4;exact hr4)
   simp only[hr4'];refine hK3 _ (oK ?_) ?_
   ·
    simp (maxSteps:=2000000)only[go_sem];all_goals(first|rfl|((repeat' refine And.intro ?_ ?_)<;>first|rfl|exact wk (by omega)|simp))
   ·
    trivial
def A3v:G4:=fun f=>if f=14 then some (.g m9) else A3t f
theorem A8X:B5 Tryz.prog A3v:=A0M B1n (B0 Tryz.func14 rfl (by decide)) C5
attribute [go_sem] A3v m9
end Go.Proofs.YtenjbehedcegdaaGreat
