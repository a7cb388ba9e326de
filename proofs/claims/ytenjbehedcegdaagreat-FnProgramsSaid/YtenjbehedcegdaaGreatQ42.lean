/-
  Texts of this claim, joined (part 42). No condition beyond those of the theorems.
-/
import Derived.Test.YtenjbehedcegdaaGreatQ38
import Derived.Test.YtenjbehedcegdaaGreatQ17
import Derived.Test.YtenjbehedcegdaaGreatQ39
namespace Go.Proofs.YtenjbehedcegdaaGreat
open Go.RowKit
set_option linter.unusedSimpArgs false
set_option linter.unusedVariables false
set_option maxRecDepth 100000
set_option maxHeartbeats 8000000
def W1:GCon where
  ps:=[.po 0,.ptr ((.prod (.int .i64) (.prod (.row 26 (.row 2 (.int .i64))) (.prod (.row 67 (.prod (.int .i64) (.prod (.int .i64) (.prod (.int .i64) (.row 2 (.int .i64)))))) (.row 2 (.int .i64))))))]
  os:=[.box [.rd ((.row 5 (.int .u8))),.rd (.int .i64),.rd (.int .u64)]]
  c:=fun x=>srcOk 760 (x.2.1.1,x.2.1.2.1,x.2.1.2.2.1)
  r:=fun _=>.c (.ow 10)
  o:=fun x=>[(30,.box [.rd [] 5 (.int .u8) ((A6b x.1.2.1.1 (x.2.1.1,x.2.1.2.1,x.2.1.2.2.1)).2.1),.sc (.int .i64 ((A6b x.1.2.1.1 (x.2.1.1,x.2.1.2.1,x.2.1.2.2.1)).2.2.1)),.sc (.int .u64 ((A6b x.1.2.1.1 (x.2.1.1,x.2.1.2.1,x.2.1.2.2.1)).2.2.2))]),(10,.tree 26 (.row 2 (.int .i64)) ((A6b x.1.2.1.1 (x.2.1.1,x.2.1.2.1,x.2.1.2.2.1)).1) none)]
  ok:=by
    rintro⟨⟨_,⟨(pi:Int),(ts:List (List Int)),(ns:List B1),(os:List Int)⟩,_⟩,⟨⟨(cd:List Int),(pt:Int),(sd:Int),_⟩,_⟩⟩
    exact⟨rfl,rfl,by decide⟩
theorem A99:l6 Tryz.prog 15 W1:=by
  refine F1 Tryz.func15 rfl ?_
  have hres:Tryz.f15.results.toList=[.tmp 4]:=rfl
  rintro⟨⟨_,⟨(pi:Int),(ts:List (List Int)),(ns:List B1),(os:List Int)⟩,_⟩,⟨⟨(cd:List Int),(pt:Int),(sd:Int),_⟩,_⟩⟩ hc hL hO
  simp only[W1,go_sem] at hL
  simp only[W1,go_sem] at hO
  simp only[W1,St.init,St.initG,Tryz.ntmps15,go_sem] 
  have hs0:srcOk 760 (cd,pt,sd):=hc
  have hmn:Z0 pi 5≤5:=by unfold Z0;omega
  have h14a:(0:Int)≤14:=by omega
  have h14b:(14:Int)≤20:=by omega
  refine oS fun _ hK1=>?_;refine oW A6 ?_;simp only[go_sem];repeat(with_reducible first|refine oA ?_|refine And.intro (by first|exact F5|with_unfolding_all exact⟨hs3.le (by omega),h14a,h14b⟩) ?_)
  refine hK1 _ ?_;refine oS fun _ hK2=>?_;refine oW A6 ?_;simp only[List.nodup_cons,List.nodup_nil,List.not_mem_nil,not_false_eq_true,go_sem];repeat(with_reducible first|refine oA ?_|refine And.intro (by first|exact F5|with_unfolding_all exact⟨hs3.le (by omega),h14a,h14b⟩) ?_)
  refine hK2 _ ?_;refine oS fun _ hK3=>?_;refine oS fun _ hK4=>?_;refine oW A6 ?_;simp (maxSteps:=2000000)only[go_sem];repeat(with_reducible first|refine oA ?_|refine And.intro (by first|exact F5|with_unfolding_all exact⟨hs3.le (by omega),h14a,h14b⟩) ?_)
  refine hK4 _ ?_;refine A3 ?_;refine A8 (ι:={ k:Nat // k≤(Z0 pi 5).toNat }) (fun k=>⟨[.c (.po 30 0),zz,zz,zz,zz,.c (.ow 9001),.c (.sc (.int .i64 (Z0 pi 5 - (k.1:Int)))),zz,zz,zz,zz,zz,zz,zz,zz,zz,zz,zz,zz,zz,zz,zz,zz,zz,zz,zz,zz,zz,zz,zz,zz,zz,zz,zz,zz,zz,zz,zz,zz,zz],[(30,.box [.rd [] 5 (.int .u8) ((P3 A7G k.1 [] (cd,pt,sd)).2.1),.sc (.int .i64 ((P3 A7G k.1 [] (cd,pt,sd)).2.2.1)),.sc (.int .u64 ((P3 A7G k.1 [] (cd,pt,sd)).2.2.2))]),(9001,.tree 26 (.row 2 (.int .i64)) ((P3 A7G k.1 [] (cd,pt,sd)).1) none)]⟩) (fun k=>(Z0 pi 5).toNat - k.1) ⟨0,by omega⟩ ?_ ?_
  ·
   refine oK ?_;simp (maxSteps:=2000000)only[go_sem];all_goals((repeat' refine And.intro ?_ ?_)<;>first|rfl|omega|(simp;done)|(congr 1;done))
  rintro⟨k,hk⟩ K5 hL5
  rcases hit:P3 A7G k [] (cd,pt,sd) with⟨v3,u3,p3,q3⟩
  have hs3:=(Cost.it A7W k []).at hs0 (by omega) hit
  have hlk:v3.length=k:=by have:=B5Y (k:=k) (s:=(cd,pt,sd)) (ts:=[]);rw[hit] at this;simpa using this
  refine oS fun _ hK6=>?_;refine oS fun _ hK7=>?_;refine oW A6 ?_;simp only[hit,go_sem];repeat(with_reducible first|refine oA ?_|refine And.intro (by first|exact F5|with_unfolding_all exact⟨hs3.le (by omega),h14a,h14b⟩) ?_)
  refine hK7 _ ?_;refine oC rfl ?_ ?_
  ·
   intro c0;refine A2 ?_;simp only[go_sem];refine hK6 _ ?_;refine oS fun _ hK8=>?_;refine A3 ?_;rcases hr4:A6l 14 (u3,p3,q3) with⟨v4,u4,p4,q4⟩
   have hs4:=(A26 h14a h14b).at hs3 (by omega) hr4
   have hl4:=A9l hs3 (by omega) h14a h14b hr4
   have hnx:(P3 A7G (k+1) [] (cd,pt,sd))=(v3++[v4],u4,p4,q4):=(X0 hit).trans (S9 hr4)
   refine oW A6 ?_;simp (maxSteps:=2000000)only[List.nodup_cons,List.nodup_nil,List.not_mem_nil,not_false_eq_true,hr4,go_sem];repeat(with_reducible first|refine oA ?_|refine And.intro (by first|exact F5|with_unfolding_all exact⟨hs3.le (by omega),h14a,h14b⟩) ?_)
   refine hK8 _ ?_;refine oW A6 ?_;simp only[go_sem];repeat(with_reducible first|refine oA ?_|refine And.intro (by first|exact F5|with_unfolding_all exact⟨hs3.le (by omega),h14a,h14b⟩) ?_)
   refine hL5 ⟨k+1,by omega⟩ _ (oK ?_) ?_
   ·
    simp (maxSteps:=2000000)only[go_sem];all_goals(try simp only[hnx])
    all_goals((repeat' refine And.intro ?_ ?_)<;>first|rfl|trivial|(rw[H4 (by omega)];omega)|(congr 1;done))
   ·
    first|(simp only[];omega)|omega|(simp;omega)
  intro c0;obtain rfl:k=(Z0 pi 5).toNat:=by omega
  refine B6 ?_;simp only[go_sem];refine hK3 _ ?_;refine oS fun _ hK9=>?_;refine oS fun _ hK10=>?_;rcases hr5:D8 24 (u3,p3,q3) with⟨v5,u5,p5,q5⟩
  obtain⟨hs5,hv5,hb5,hz5⟩:=H3 hs3 (by omega) hr5
  have hs5:srcOk _ (u5,p5,q5):=hs5
  refine oW A6 ?_;simp only[hr5,go_sem];repeat(with_reducible first|refine oA ?_|refine And.intro (by first|exact F5|with_unfolding_all exact⟨hs3.le (by omega),h14a,h14b⟩) ?_)
  refine hK10 _ ?_;refine A3 ?_;refine oS fun _ hK11=>?_;refine oW A6 ?_;simp only[go_sem];repeat(with_reducible first|refine oA ?_|refine And.intro (by first|exact F5|with_unfolding_all exact⟨hs3.le (by omega),h14a,h14b⟩) ?_)
  refine hK11 _ ?_;refine oC rfl ?_ ?_
  ·
   intro c1;have k1:=decide_eq_true c1
   refine oW A6 ?_;simp (maxSteps:=2000000)only[List.nodup_cons,List.nodup_nil,List.not_mem_nil,not_false_eq_true,go_sem];repeat(with_reducible first|refine oA ?_|refine And.intro (by first|exact F5|with_unfolding_all exact⟨hs3.le (by omega),h14a,h14b⟩) ?_)
   refine hK9 _ ?_;refine oS fun _ hK12=>?_;refine oW A6 ?_;simp only[go_sem];repeat(with_reducible first|refine oA ?_|refine And.intro (by first|exact F5|with_unfolding_all exact⟨hs3.le (by omega),h14a,h14b⟩) ?_)
   refine hK12 _ ?_;refine A0 ?_;simp only[hres,go_sem]
   first
    | exact oG
    | refine ⟨oG, ?_⟩
      simp only[A6b,bnd,hit,hr5];first|simp only[k1,k2,k3,Bool.and_self,Bool.and_true,hr6]|simp only[k1,k2,k3,Bool.and_false]|simp only[k1,k2,Bool.false_and]|simp only[k1]
      try((repeat' refine And.intro ?_ ?_)<;>first|rfl|trivial|(congr 1;done))
  intro c1;have k1:=decide_eq_false c1
  refine oS fun _ hK13=>?_;refine oW A6 ?_;simp only[go_sem];repeat(with_reducible first|refine oA ?_|refine And.intro (by first|exact F5|with_unfolding_all exact⟨hs3.le (by omega),h14a,h14b⟩) ?_)
  refine hK13 _ ?_;refine oC rfl ?_ ?_
  ·
   intro c2;have k2:=decide_eq_true c2
   refine oS fun _ hK14=>?_;refine oW A6 ?_;simp only[go_sem];repeat(with_reducible first|refine oA ?_|refine And.intro (by first|exact F5|with_unfolding_all exact⟨hs3.le (by omega),h14a,h14b⟩) ?_)
   refine hK14 _ ?_;refine oC rfl ?_ ?_
   ·
    intro c3;have k3:=decide_eq_true (show 0 < (v3.length:Int) by omega)
    rcases hr6:A76 (u5,p5,q5) with⟨v6,u6,p6,q6⟩
    have hs6:=(A7Q).at hs5 (by omega) hr6
    refine oW A6 ?_;simp (maxSteps:=2000000)only[List.nodup_cons,List.nodup_nil,List.not_mem_nil,not_false_eq_true,hr6,go_sem];repeat(with_reducible first|refine oA ?_|refine And.intro (by first|exact F5|with_unfolding_all exact⟨hs3.le (by omega),h14a,h14b⟩) ?_)
    refine hK9 _ ?_;refine oS fun _ hK15=>?_;refine oW A6 ?_;simp only[go_sem];repeat(with_reducible first|refine oA ?_|refine And.intro (by first|exact F5|with_unfolding_all exact⟨hs3.le (by omega),h14a,h14b⟩) ?_)
    refine hK15 _ ?_;refine A0 ?_;simp only[hres,go_sem]
    first
     | exact oG
     | refine ⟨oG, ?_⟩
       simp only[A6b,bnd,hit,hr5];first|simp only[k1,k2,k3,Bool.and_self,Bool.and_true,hr6]|simp only[k1,k2,k3,Bool.and_false]|simp only[k1,k2,Bool.false_and]|simp only[k1]
       try((repeat' refine And.intro ?_ ?_)<;>first|rfl|trivial|(congr 1;done))
   intro c3;have k3:=decide_eq_false (show ¬0 < (v3.length:Int) by omega)
   refine A2 ?_;simp only[go_sem];refine hK9 _ ?_;refine oS fun _ hK16=>?_;refine oW A6 ?_;simp only[go_sem];repeat(with_reducible first|refine oA ?_|refine And.intro (by first|exact F5|with_unfolding_all exact⟨hs3.le (by omega),h14a,h14b⟩) ?_)
   refine hK16 _ ?_;refine A0 ?_;simp only[hres,go_sem]
   first
    | exact oG
    | refine ⟨oG, ?_⟩
      simp only[A6b,bnd,hit,hr5];first|simp only[k1,k2,k3,Bool.and_self,Bool.and_true,hr6]|simp only[k1,k2,k3,Bool.and_false]|simp only[k1,k2,Bool.false_and]|simp only[k1]
      try((repeat' refine And.intro ?_ ?_)<;>first|rfl|trivial|(congr 1;done))
  intro c2;have k2:=decide_eq_false c2
  refine A2 ?_;simp only[go_sem];refine hK9 _ ?_;refine oS fun _ hK17=>?_;refine oW A6 ?_;simp only[go_sem];repeat(with_reducible first|refine oA ?_|refine And.intro (by first|exact F5|with_unfolding_all exact⟨hs3.le (by omega),h14a,h14b⟩) ?_)
  refine hK17 _ ?_;refine A0 ?_;simp only[hres,go_sem]
  first
   | exact oG
   | refine ⟨oG, ?_⟩
     simp only[A6b,bnd,hit,hr5];first|simp only[k1,k2,k3,Bool.and_self,Bool.and_true,hr6]|simp only[k1,k2,k3,Bool.and_false]|simp only[k1,k2,Bool.false_and]|simp only[k1]
     try((repeat' refine And.intro ?_ ?_)<;>first|rfl|trivial|(congr 1;done))
def A1I:G4:=fun f=>if f=15 then some (.g W1) else A0p f
theorem A6t:B5 Tryz.prog A1I:=A0M A99 (B0 Tryz.func15 rfl (by decide)) A6
attribute [go_sem] A1I W1
end Go.Proofs.YtenjbehedcegdaaGreat
