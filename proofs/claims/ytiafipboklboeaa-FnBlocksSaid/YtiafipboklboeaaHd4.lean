/-
  Contracts of functions: l08DrawIn.
-/
import Derived.Test.YtiafipboklboeaaHd2
import Derived.Test.YtiafipboklboeaaQc
import Derived.Test.YtiafipboklboeaaGx
namespace Go.Proofs.Ytiafipboklboeaa
open Go.RowKit
set_option linter.unusedSimpArgs false
set_option linter.unusedVariables false

set_option maxRecDepth 100000
set_option maxHeartbeats 8000000
def K_l08DrawIn : GCon where
  ps := [.po 0, .ptr ((.prod (.int .i64) (.prod (.row 26 (.row 2 (.int .i64))) (.prod (.row 83 (.prod (.int .i64) (.prod (.int .i64) (.prod (.int .i64) (.row 2 (.int .i64)))))) (.row 2 (.int .i64))))))]
  os := [.box [.rd ((.row 5 (.int .u8))), .rd (.int .i64), .rd (.int .u64)]]
  c := fun x => srcOk 760 (x.2.1.1, x.2.1.2.1, x.2.1.2.2.1)
  r := fun _ => .c (.ow 10)
  o := fun x => [(30, .box [.rd [] 5 (.int .u8) ((l08I x.1.2.1.1 (x.2.1.1, x.2.1.2.1, x.2.1.2.2.1)).2.1), .sc (.int .i64 ((l08I x.1.2.1.1 (x.2.1.1, x.2.1.2.1, x.2.1.2.2.1)).2.2.1)), .sc (.int .u64 ((l08I x.1.2.1.1 (x.2.1.1, x.2.1.2.1, x.2.1.2.2.1)).2.2.2))]), (10, .tree 26 (.row 2 (.int .i64)) ((l08I x.1.2.1.1 (x.2.1.1, x.2.1.2.1, x.2.1.2.2.1)).1) none)]
  ok := by
    rintro ⟨⟨_, ⟨(pi : Int), (ts : List (List Int)), (ns : List NodeD), (os : List Int)⟩, _⟩, ⟨⟨(cd : List Int), (pt : Int), (sd : Int), _⟩, _⟩⟩
    exact ⟨rfl, rfl, by decide⟩
theorem l08DrawIn_ok : GenT Try.prog 22 K_l08DrawIn := by
  refine gen_of_body Try.func22 rfl ?_
  have hres : Try.f22.results.toList = [.tmp 4] := rfl
  rintro ⟨⟨_, ⟨(pi : Int), (ts : List (List Int)), (ns : List NodeD), (os : List Int)⟩, _⟩, ⟨⟨(cd : List Int), (pt : Int), (sd : Int), _⟩, _⟩⟩ hc hL hO
  simp only [K_l08DrawIn, go_sem] at hL
  simp only [K_l08DrawIn, go_sem] at hO
  simp only [K_l08DrawIn, St.init, St.initG, Try.ntmps22, go_sem] 
  have hs0 : srcOk 760 (cd, pt, sd) := hc
  have hmn : iMin pi 5 ≤ 5 := by unfold iMin; omega
  have h14a : (0 : Int) ≤ 14 := by omega
  have h14b : (14 : Int) ≤ 20 := by omega
  refine oS fun K1 hK1 => ?_
  refine oW T_l07Kinds_ok ?_
  simp only [go_sem]
  repeat (with_reducible first | refine oA ?_ | refine And.intro (by first | exact hs0.le (by omega) | exact hs3.le (by omega) | exact hs4.le (by omega) | exact hs5.le (by omega) | exact hs6.le (by omega) | with_unfolding_all exact ⟨hs3.le (by omega), h14a, h14b⟩) ?_)
  refine hK1 _ ?_
  refine oS fun K2 hK2 => ?_
  refine oW T_l07Kinds_ok ?_
  simp only [List.nodup_cons, List.nodup_nil, List.not_mem_nil, not_false_eq_true, go_sem]
  repeat (with_reducible first | refine oA ?_ | refine And.intro (by first | exact hs0.le (by omega) | exact hs3.le (by omega) | exact hs4.le (by omega) | exact hs5.le (by omega) | exact hs6.le (by omega) | with_unfolding_all exact ⟨hs3.le (by omega), h14a, h14b⟩) ?_)
  refine hK2 _ ?_
  refine oS fun K3 hK3 => ?_
  refine oS fun K4 hK4 => ?_
  refine oW T_l07Kinds_ok ?_
  simp (maxSteps := 2000000) only [go_sem]
  repeat (with_reducible first | refine oA ?_ | refine And.intro (by first | exact hs0.le (by omega) | exact hs3.le (by omega) | exact hs4.le (by omega) | exact hs5.le (by omega) | exact hs6.le (by omega) | with_unfolding_all exact ⟨hs3.le (by omega), h14a, h14b⟩) ?_)
  refine hK4 _ ?_
  refine AWP_block ?_
  refine AWP_loop_k (ι := { k : Nat // k ≤ (iMin pi 5).toNat }) (fun k => ⟨[.c (.po 30 0), zz, zz, zz, zz, .c (.ow 9001), .c (.sc (.int .i64 (iMin pi 5 - (k.1 : Int)))), zz, zz, zz, zz, zz, zz, zz, zz, zz, zz, zz, zz, zz, zz, zz, zz, zz, zz, zz, zz, zz, zz, zz, zz, zz, zz, zz, zz, zz, zz, zz, zz, zz], [(30, .box [.rd [] 5 (.int .u8) ((itD sigS k.1 [] (cd, pt, sd)).2.1), .sc (.int .i64 ((itD sigS k.1 [] (cd, pt, sd)).2.2.1)), .sc (.int .u64 ((itD sigS k.1 [] (cd, pt, sd)).2.2.2))]), (9001, .tree 26 (.row 2 (.int .i64)) ((itD sigS k.1 [] (cd, pt, sd)).1) none)]⟩) (fun k => (iMin pi 5).toNat - k.1) ⟨0, by omega⟩ ?_ ?_
  ·
   refine oK ?_
   simp (maxSteps := 2000000) only [go_sem]
   all_goals ((repeat' refine And.intro ?_ ?_) <;> first | rfl | omega | (simp; done) | (congr 1; done))
  rintro ⟨k, hk⟩ K5 hL5
  rcases hit : itD sigS k [] (cd, pt, sd) with ⟨v3, u3, p3, q3⟩
  have hs3 := (Cost.it sigS_cost k []).at hs0 (by omega) hit
  have hlk : v3.length = k := by have := sigS_len (k := k) (s := (cd, pt, sd)) (ts := []); rw [hit] at this; simpa using this
  refine oS fun K6 hK6 => ?_
  refine oS fun K7 hK7 => ?_
  refine oW T_l07Kinds_ok ?_
  simp only [hit, go_sem]
  repeat (with_reducible first | refine oA ?_ | refine And.intro (by first | exact hs0.le (by omega) | exact hs3.le (by omega) | exact hs4.le (by omega) | exact hs5.le (by omega) | exact hs6.le (by omega) | with_unfolding_all exact ⟨hs3.le (by omega), h14a, h14b⟩) ?_)
  refine hK7 _ ?_
  refine oC rfl ?_ ?_
  ·
   intro c0
   refine AWP_skip ?_
   simp only [go_sem]
   refine hK6 _ ?_
   refine oS fun K8 hK8 => ?_
   refine AWP_block ?_
   rcases hr4 : l03D 14 (u3, p3, q3) with ⟨v4, u4, p4, q4⟩
   have hs4 := (l03D_cost h14a h14b).at hs3 (by omega) hr4
   have hl4 := l03D_len hs3 (by omega) h14a h14b hr4
   have hnx : (itD sigS (k + 1) [] (cd, pt, sd)) = (v3 ++ [v4], u4, p4, q4) := (itD_succ hit).trans (bnd_of hr4)
   refine oW T_l07Kinds_ok ?_
   simp (maxSteps := 2000000) only [List.nodup_cons, List.nodup_nil, List.not_mem_nil, not_false_eq_true, hr4, go_sem]
   repeat (with_reducible first | refine oA ?_ | refine And.intro (by first | exact hs0.le (by omega) | exact hs3.le (by omega) | exact hs4.le (by omega) | exact hs5.le (by omega) | exact hs6.le (by omega) | with_unfolding_all exact ⟨hs3.le (by omega), h14a, h14b⟩) ?_)
   refine hK8 _ ?_
   refine oW T_l07Kinds_ok ?_
   simp only [go_sem]
   repeat (with_reducible first | refine oA ?_ | refine And.intro (by first | exact hs0.le (by omega) | exact hs3.le (by omega) | exact hs4.le (by omega) | exact hs5.le (by omega) | exact hs6.le (by omega) | with_unfolding_all exact ⟨hs3.le (by omega), h14a, h14b⟩) ?_)
   refine hL5 ⟨k + 1, by omega⟩ _ (oK ?_) ?_
   ·
    simp (maxSteps := 2000000) only [go_sem]
    all_goals (try simp only [hnx])
    all_goals ((repeat' refine And.intro ?_ ?_) <;> first | rfl | trivial | (rw [wrapI (by omega)]; omega) | (congr 1; done))
   ·
    first | (simp only []; omega) | omega | (simp; omega)
  intro c0
  obtain rfl : k = (iMin pi 5).toNat := by omega
  refine AWP_exit ?_
  simp only [go_sem]
  refine hK3 _ ?_
  refine oS fun K9 hK9 => ?_
  refine oS fun K10 hK10 => ?_
  rcases hr5 : pickD 24 (u3, p3, q3) with ⟨v5, u5, p5, q5⟩
  obtain ⟨hs5, hv5, hb5, hz5⟩ := pickD_at hs3 (by omega) hr5
  have hs5 : srcOk _ (u5, p5, q5) := hs5
  refine oW T_l07Kinds_ok ?_
  simp only [hr5, go_sem]
  repeat (with_reducible first | refine oA ?_ | refine And.intro (by first | exact hs0.le (by omega) | exact hs3.le (by omega) | exact hs4.le (by omega) | exact hs5.le (by omega) | exact hs6.le (by omega) | with_unfolding_all exact ⟨hs3.le (by omega), h14a, h14b⟩) ?_)
  refine hK10 _ ?_
  refine AWP_block ?_
  refine oS fun K11 hK11 => ?_
  refine oW T_l07Kinds_ok ?_
  simp only [go_sem]
  repeat (with_reducible first | refine oA ?_ | refine And.intro (by first | exact hs0.le (by omega) | exact hs3.le (by omega) | exact hs4.le (by omega) | exact hs5.le (by omega) | exact hs6.le (by omega) | with_unfolding_all exact ⟨hs3.le (by omega), h14a, h14b⟩) ?_)
  refine hK11 _ ?_
  refine oC rfl ?_ ?_
  ·
   intro c1
   have k1 := decide_eq_true c1
   refine oW T_l07Kinds_ok ?_
   simp (maxSteps := 2000000) only [List.nodup_cons, List.nodup_nil, List.not_mem_nil, not_false_eq_true, go_sem]
   repeat (with_reducible first | refine oA ?_ | refine And.intro (by first | exact hs0.le (by omega) | exact hs3.le (by omega) | exact hs4.le (by omega) | exact hs5.le (by omega) | exact hs6.le (by omega) | with_unfolding_all exact ⟨hs3.le (by omega), h14a, h14b⟩) ?_)
   refine hK9 _ ?_
   refine oS fun K12 hK12 => ?_
   refine oW T_l07Kinds_ok ?_
   simp only [go_sem]
   repeat (with_reducible first | refine oA ?_ | refine And.intro (by first | exact hs0.le (by omega) | exact hs3.le (by omega) | exact hs4.le (by omega) | exact hs5.le (by omega) | exact hs6.le (by omega) | with_unfolding_all exact ⟨hs3.le (by omega), h14a, h14b⟩) ?_)
   refine hK12 _ ?_
   refine AWP_ret ?_
   simp only [hres, go_sem]
   first
    | exact oG
    | refine ⟨oG, ?_⟩
      simp only [l08I, bnd, hit, hr5]
      first | simp only [k1, k2, k3, Bool.and_self, Bool.and_true, hr6] | simp only [k1, k2, k3, Bool.and_false] | simp only [k1, k2, Bool.false_and] | simp only [k1]
      try ((repeat' refine And.intro ?_ ?_) <;> first | rfl | trivial | (congr 1; done))
  intro c1
  have k1 := decide_eq_false c1
  refine oS fun K13 hK13 => ?_
  refine oW T_l07Kinds_ok ?_
  simp only [go_sem]
  repeat (with_reducible first | refine oA ?_ | refine And.intro (by first | exact hs0.le (by omega) | exact hs3.le (by omega) | exact hs4.le (by omega) | exact hs5.le (by omega) | exact hs6.le (by omega) | with_unfolding_all exact ⟨hs3.le (by omega), h14a, h14b⟩) ?_)
  refine hK13 _ ?_
  refine oC rfl ?_ ?_
  ·
   intro c2
   have k2 := decide_eq_true c2
   refine oS fun K14 hK14 => ?_
   refine oW T_l07Kinds_ok ?_
   simp only [go_sem]
   repeat (with_reducible first | refine oA ?_ | refine And.intro (by first | exact hs0.le (by omega) | exact hs3.le (by omega) | exact hs4.le (by omega) | exact hs5.le (by omega) | exact hs6.le (by omega) | with_unfolding_all exact ⟨hs3.le (by omega), h14a, h14b⟩) ?_)
   refine hK14 _ ?_
   refine oC rfl ?_ ?_
   ·
    intro c3
    have k3 := decide_eq_true (show 0 < (v3.length : Int) by omega)
    rcases hr6 : l03Z (u5, p5, q5) with ⟨v6, u6, p6, q6⟩
    have hs6 := (l03Z_cost).at hs5 (by omega) hr6
    refine oW T_l07Kinds_ok ?_
    simp (maxSteps := 2000000) only [List.nodup_cons, List.nodup_nil, List.not_mem_nil, not_false_eq_true, hr6, go_sem]
    repeat (with_reducible first | refine oA ?_ | refine And.intro (by first | exact hs0.le (by omega) | exact hs3.le (by omega) | exact hs4.le (by omega) | exact hs5.le (by omega) | exact hs6.le (by omega) | with_unfolding_all exact ⟨hs3.le (by omega), h14a, h14b⟩) ?_)
    refine hK9 _ ?_
    refine oS fun K15 hK15 => ?_
    refine oW T_l07Kinds_ok ?_
    simp only [go_sem]
    repeat (with_reducible first | refine oA ?_ | refine And.intro (by first | exact hs0.le (by omega) | exact hs3.le (by omega) | exact hs4.le (by omega) | exact hs5.le (by omega) | exact hs6.le (by omega) | with_unfolding_all exact ⟨hs3.le (by omega), h14a, h14b⟩) ?_)
    refine hK15 _ ?_
    refine AWP_ret ?_
    simp only [hres, go_sem]
    first
     | exact oG
     | refine ⟨oG, ?_⟩
       simp only [l08I, bnd, hit, hr5]
       first | simp only [k1, k2, k3, Bool.and_self, Bool.and_true, hr6] | simp only [k1, k2, k3, Bool.and_false] | simp only [k1, k2, Bool.false_and] | simp only [k1]
       try ((repeat' refine And.intro ?_ ?_) <;> first | rfl | trivial | (congr 1; done))
   intro c3
   have k3 := decide_eq_false (show ¬ 0 < (v3.length : Int) by omega)
   refine AWP_skip ?_
   simp only [go_sem]
   refine hK9 _ ?_
   refine oS fun K16 hK16 => ?_
   refine oW T_l07Kinds_ok ?_
   simp only [go_sem]
   repeat (with_reducible first | refine oA ?_ | refine And.intro (by first | exact hs0.le (by omega) | exact hs3.le (by omega) | exact hs4.le (by omega) | exact hs5.le (by omega) | exact hs6.le (by omega) | with_unfolding_all exact ⟨hs3.le (by omega), h14a, h14b⟩) ?_)
   refine hK16 _ ?_
   refine AWP_ret ?_
   simp only [hres, go_sem]
   first
    | exact oG
    | refine ⟨oG, ?_⟩
      simp only [l08I, bnd, hit, hr5]
      first | simp only [k1, k2, k3, Bool.and_self, Bool.and_true, hr6] | simp only [k1, k2, k3, Bool.and_false] | simp only [k1, k2, Bool.false_and] | simp only [k1]
      try ((repeat' refine And.intro ?_ ?_) <;> first | rfl | trivial | (congr 1; done))
  intro c2
  have k2 := decide_eq_false c2
  refine AWP_skip ?_
  simp only [go_sem]
  refine hK9 _ ?_
  refine oS fun K17 hK17 => ?_
  refine oW T_l07Kinds_ok ?_
  simp only [go_sem]
  repeat (with_reducible first | refine oA ?_ | refine And.intro (by first | exact hs0.le (by omega) | exact hs3.le (by omega) | exact hs4.le (by omega) | exact hs5.le (by omega) | exact hs6.le (by omega) | with_unfolding_all exact ⟨hs3.le (by omega), h14a, h14b⟩) ?_)
  refine hK17 _ ?_
  refine AWP_ret ?_
  simp only [hres, go_sem]
  first
   | exact oG
   | refine ⟨oG, ?_⟩
     simp only [l08I, bnd, hit, hr5]
     first | simp only [k1, k2, k3, Bool.and_self, Bool.and_true, hr6] | simp only [k1, k2, k3, Bool.and_false] | simp only [k1, k2, Bool.false_and] | simp only [k1]
     try ((repeat' refine And.intro ?_ ?_) <;> first | rfl | trivial | (congr 1; done))
def T_l08DrawIn : Tab := fun f => if f = 22 then some (.g K_l08DrawIn) else T_l07Kinds f
theorem T_l08DrawIn_ok : TabOk Try.prog T_l08DrawIn := tabG l08DrawIn_ok (fnOk_of Try.func22 rfl (by decide)) T_l07Kinds_ok
attribute [go_sem] T_l08DrawIn K_l08DrawIn

end Go.Proofs.Ytiafipboklboeaa
