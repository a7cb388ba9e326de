/-
  Contracts of functions: DrawRenderInBlocks.
-/
import Derived.Test.YtiafipboklboeaaHd5
import Derived.Test.YtiafipboklboeaaHd4
import Derived.Test.YtiafipboklboeaaGree
namespace Go.Proofs.Ytiafipboklboeaa
open Go.RowKit
set_option linter.unusedSimpArgs false
set_option linter.unusedVariables false

set_option maxRecDepth 100000
set_option maxHeartbeats 8000000
def T_mHd60 : Tab := fun f => match T_l07Bent f with
 | some k => some k
 | none => T_l08DrawIn f
theorem T_mHd60_ok : TabOk Try.prog T_mHd60 := tabM T_l07Bent_ok T_l08DrawIn_ok
attribute [go_sem] T_mHd60 T0

def K_drawRib : Con := ⟨[.val ((.row 5 (.int .u8)))], [⟨(.prod (.int .i64) (.prod (.row 26 (.row 2 (.int .i64))) (.prod (.row 83 (.prod (.int .i64) (.prod (.int .i64) (.prod (.int .i64) (.row 2 (.int .i64)))))) (.row 2 (.int .i64))))), false⟩, ⟨(.row 26 (.row 2 (.int .i64))), true⟩, ⟨(.row 2 (.int .i64)), true⟩], fun x => ∀ b ∈ (x.1 : List Int), 0 ≤ b ∧ b ≤ 255, fun x => (ribD x.1).1⟩
theorem drawRib_ok : PureT Try.prog 6 K_drawRib := by
  refine pure_of_body Try.func6 rfl ?_
  have hres : Try.f6.results.toList = [.cell 2 28, .tmp 3, .tmp 4] := rfl
  rintro ⟨(cd : List Int), _⟩ hc hL
  simp only [K_drawRib, go_sem] at hL
  simp only [K_drawRib, St.init, St.initG, Try.ntmps6, go_sem] 
  have hcd : ∀ b ∈ cd, 0 ≤ b ∧ b ≤ 255 := hc
  have hs0 : srcOk 3000 (cd, 0, 0) := ⟨hcd, by simp, by simp⟩
  rcases hr1 : l07B (cd, 0, 0) with ⟨⟨pi, ts, ns, os⟩, u1, p1, q1⟩
  have hs1 := l07B_cost.at hs0 (by omega) hr1
  rcases hr2 : l08I pi (u1, p1, q1) with ⟨v2, u2, p2, q2⟩
  have hs2 := (l08I_cost pi).at hs1 (by omega) hr2
  rcases hr3 : pickD 6 (u2, p2, q2) with ⟨v3, u3, p3, q3⟩
  obtain ⟨hs3, hv3, hb3, hz3⟩ := pickD_at hs2 (by omega) hr3
  have hs3 : srcOk _ (u3, p3, q3) := hs3
  have hb3 := hb3 (by omega)
  refine oS fun K1 hK1 => ?_
  refine oW T_mHd60_ok ?_
  simp only [go_sem]
  repeat (with_reducible first | refine oA ?_ | refine And.intro (by first | exact hs0.le (by omega) | exact hs1.le (by omega) | exact hs2.le (by omega) | exact hs3.le (by omega) | exact hs4.le (by omega) | exact hs5.le (by omega) | exact hs6.le (by omega) | exact ⟨hs5.le (by omega), by simp⟩) ?_)
  refine hK1 _ ?_
  refine oS fun K2 hK2 => ?_
  refine oW T_mHd60_ok ?_
  simp only [go_sem]
  repeat (with_reducible first | refine oA ?_ | refine And.intro (by first | exact hs0.le (by omega) | exact hs1.le (by omega) | exact hs2.le (by omega) | exact hs3.le (by omega) | exact hs4.le (by omega) | exact hs5.le (by omega) | exact hs6.le (by omega) | exact ⟨hs5.le (by omega), by simp⟩) ?_)
  refine hK2 _ ?_
  refine oS fun K3 hK3 => ?_
  refine oW T_mHd60_ok ?_
  simp only [List.nodup_cons, List.nodup_nil, List.not_mem_nil, not_false_eq_true, hr1, go_sem]
  repeat (with_reducible first | refine oA ?_ | refine And.intro (by first | exact hs0.le (by omega) | exact hs1.le (by omega) | exact hs2.le (by omega) | exact hs3.le (by omega) | exact hs4.le (by omega) | exact hs5.le (by omega) | exact hs6.le (by omega) | exact ⟨hs5.le (by omega), by simp⟩) ?_)
  refine hK3 _ ?_
  refine oS fun K4 hK4 => ?_
  refine AWP_wk (Wk_freeB _ 308 (by decide)) ?_
  simp (maxSteps := 2000000) only [go_sem]
  refine AWP_wk (Wk_freeB _ 309 (by decide)) ?_
  simp (maxSteps := 2000000) only [go_sem]
  refine AWP_wk (Wk_freeR _ 310 (by decide)) ?_
  simp (maxSteps := 2000000) only [go_sem]
  refine oW T_mHd60_ok ?_
  simp only [hr2, go_sem]
  repeat (with_reducible first | refine oA ?_ | refine And.intro (by first | exact hs0.le (by omega) | exact hs1.le (by omega) | exact hs2.le (by omega) | exact hs3.le (by omega) | exact hs4.le (by omega) | exact hs5.le (by omega) | exact hs6.le (by omega) | exact ⟨hs5.le (by omega), by simp⟩) ?_)
  refine hK4 _ ?_
  refine oS fun K5 hK5 => ?_
  refine oW T_mHd60_ok ?_
  simp only [List.nodup_cons, List.nodup_nil, List.not_mem_nil, not_false_eq_true, go_sem]
  repeat (with_reducible first | refine oA ?_ | refine And.intro (by first | exact hs0.le (by omega) | exact hs1.le (by omega) | exact hs2.le (by omega) | exact hs3.le (by omega) | exact hs4.le (by omega) | exact hs5.le (by omega) | exact hs6.le (by omega) | exact ⟨hs5.le (by omega), by simp⟩) ?_)
  refine hK5 _ ?_
  refine oS fun K6 hK6 => ?_
  refine oS fun K7 hK7 => ?_
  refine oW T_mHd60_ok ?_
  simp only [hr3, go_sem]
  repeat (with_reducible first | refine oA ?_ | refine And.intro (by first | exact hs0.le (by omega) | exact hs1.le (by omega) | exact hs2.le (by omega) | exact hs3.le (by omega) | exact hs4.le (by omega) | exact hs5.le (by omega) | exact hs6.le (by omega) | exact ⟨hs5.le (by omega), by simp⟩) ?_)
  refine hK7 _ ?_
  refine AWP_block ?_
  refine AWP_loop_k (ι := { k : Nat // k ≤ v3.toNat }) (fun k => ⟨[zz, zz, .c (.po 132 0), zz, zz, .c (.po 276 0), .c (.po 196 0), .c (.ow 9004), .c (.ow 9005), .c (.sc (.int .i64 (v3 - (k.1 : Int)))), zz, zz, zz, zz, zz, zz, zz, zz, zz, zz, zz, zz, zz, zz, zz, zz, zz, zz, zz, zz, zz, zz, zz, zz, zz, zz, zz, zz, zz], [(276, .box [.rd [196] 5 (.int .u8) ((itD (snocD (pickD 8)) k.1 [] (u3, p3, q3)).2.1), .sc (.int .i64 ((itD (snocD (pickD 8)) k.1 [] (u3, p3, q3)).2.2.1)), .sc (.int .u64 ((itD (snocD (pickD 8)) k.1 [] (u3, p3, q3)).2.2.2))]), (132, .box [.sc (.int .i64 (0)), .sc (.slice none 0 0), .sc (.slice none 0 0), .sc (.slice none 0 0)]), (196, .box [.sc (.int .i64 (pi)), .rd [] 26 ((.row 2 (.int .i64))) (ts), .rd [] 83 ((.prod (.int .i64) (.prod (.int .i64) (.prod (.int .i64) (.row 2 (.int .i64)))))) (ns), .rd [] 2 (.int .i64) (os)]), (9004, .tree 26 (.row 2 (.int .i64)) (v2) none), (9005, .row 2 (.int .i64) ((itD (snocD (pickD 8)) k.1 [] (u3, p3, q3)).1) [])]⟩) (fun k => v3.toNat - k.1) ⟨0, by omega⟩ ?_ ?_
  ·
   refine oK ?_
   simp (maxSteps := 2000000) only [go_sem]
   all_goals ((repeat' refine And.intro ?_ ?_) <;> first | rfl | omega | (simp; done) | (congr 1; done))
  rintro ⟨k, hk⟩ K8 hL8
  rcases hit : itD (snocD (pickD 8)) k [] (u3, p3, q3) with ⟨v4, u4, p4, q4⟩
  have hs4 := (Cost.it (snocD_cost (pickD_cost 8)) k []).at hs3 (by omega) hit
  have hlk : v4.length = k := by have := itD_len (m := pickD 8) (k := k) (s := (u3, p3, q3)) (xs := []); rw [hit] at this; simpa using this
  refine oS fun K9 hK9 => ?_
  refine oS fun K10 hK10 => ?_
  refine oW T_mHd60_ok ?_
  simp only [hit, go_sem]
  repeat (with_reducible first | refine oA ?_ | refine And.intro (by first | exact hs0.le (by omega) | exact hs1.le (by omega) | exact hs2.le (by omega) | exact hs3.le (by omega) | exact hs4.le (by omega) | exact hs5.le (by omega) | exact hs6.le (by omega) | exact ⟨hs5.le (by omega), by simp⟩) ?_)
  refine hK10 _ ?_
  refine oC rfl ?_ ?_
  ·
   intro c0
   refine AWP_skip ?_
   simp only [go_sem]
   refine hK9 _ ?_
   refine oS fun K11 hK11 => ?_
   refine AWP_block ?_
   rcases hr5 : pickD 8 (u4, p4, q4) with ⟨v5, u5, p5, q5⟩
   obtain ⟨hs5, hv5, hb5, hz5⟩ := pickD_at hs4 (by omega) hr5
   have hs5 : srcOk _ (u5, p5, q5) := hs5
   have hnx : (itD (snocD (pickD 8)) (k + 1) [] (u3, p3, q3)) = (v4 ++ [v5], u5, p5, q5) := (itD_succ hit).trans (bnd_of hr5)
   refine oW T_mHd60_ok ?_
   simp (maxSteps := 2000000) only [hr5, go_sem]
   repeat (with_reducible first | refine oA ?_ | refine And.intro (by first | exact hs0.le (by omega) | exact hs1.le (by omega) | exact hs2.le (by omega) | exact hs3.le (by omega) | exact hs4.le (by omega) | exact hs5.le (by omega) | exact hs6.le (by omega) | exact ⟨hs5.le (by omega), by simp⟩) ?_)
   refine hK11 _ ?_
   refine oW T_mHd60_ok ?_
   simp only [go_sem]
   repeat (with_reducible first | refine oA ?_ | refine And.intro (by first | exact hs0.le (by omega) | exact hs1.le (by omega) | exact hs2.le (by omega) | exact hs3.le (by omega) | exact hs4.le (by omega) | exact hs5.le (by omega) | exact hs6.le (by omega) | exact ⟨hs5.le (by omega), by simp⟩) ?_)
   refine hL8 ⟨k + 1, by omega⟩ _ (oK ?_) ?_
   ·
    simp (maxSteps := 2000000) only [go_sem]
    all_goals (try simp only [hnx])
    all_goals ((repeat' refine And.intro ?_ ?_) <;> first | rfl | trivial | (rw [wrapI (by omega)]; omega) | (congr 1; done))
   ·
    first | (simp only []; omega) | omega | (simp; omega)
  intro c0
  obtain rfl : k = v3.toNat := by omega
  refine AWP_exit ?_
  simp only [go_sem]
  refine hK6 _ ?_
  refine oS fun K12 hK12 => ?_
  refine oS fun K13 hK13 => ?_
  rcases hr5 : oneD 20 (u4, p4, q4) with ⟨v5, u5, p5, q5⟩
  have hs5 := oneD_at hs4 (by omega) hr5
  refine oW T_mHd60_ok ?_
  simp only [hr5, go_sem]
  repeat (with_reducible first | refine oA ?_ | refine And.intro (by first | exact hs0.le (by omega) | exact hs1.le (by omega) | exact hs2.le (by omega) | exact hs3.le (by omega) | exact hs4.le (by omega) | exact hs5.le (by omega) | exact hs6.le (by omega) | exact ⟨hs5.le (by omega), by simp⟩) ?_)
  refine hK13 _ ?_
  refine oC rfl ?_ ?_
  ·
   intro c1
   have hv5 : v5 = true := c1
   rcases hr6 : amongD [-1, 4000, 3999, 9223372036854775807] (u5, p5, q5) with ⟨v6, u6, p6, q6⟩
   obtain ⟨hs6, hm6⟩ := amongD_at hs5 (by omega) (by simp) hr6
   refine oW T_mHd60_ok ?_
   simp (maxSteps := 2000000) only [hr6, go_sem]
   repeat (with_reducible first | refine oA ?_ | refine And.intro (by first | exact hs0.le (by omega) | exact hs1.le (by omega) | exact hs2.le (by omega) | exact hs3.le (by omega) | exact hs4.le (by omega) | exact hs5.le (by omega) | exact hs6.le (by omega) | exact ⟨hs5.le (by omega), by simp⟩) ?_)
   refine hK12 _ ?_
   refine oS fun K14 hK14 => ?_
   refine oW T_mHd60_ok ?_
   simp (maxSteps := 2000000) only [go_sem]
   repeat (with_reducible first | refine oA ?_ | refine And.intro (by first | exact hs0.le (by omega) | exact hs1.le (by omega) | exact hs2.le (by omega) | exact hs3.le (by omega) | exact hs4.le (by omega) | exact hs5.le (by omega) | exact hs6.le (by omega) | exact ⟨hs5.le (by omega), by simp⟩) ?_)
   refine hK14 _ ?_
   refine AWP_ret ?_
   simp only [hres, go_sem]
   first | exact oF | (refine ⟨?_, oF⟩; first | (simp only [ribD, bnd, hr1, hr2, sizeS, hr3, hit, hr5, hv5, hr6]; done) | (simp only [ribD, bnd, hr1, hr2, sizeS, hr3, hit, hr5, hv5]; done) | (simp only [ribD, bnd, hr1, hr2, sizeS, hr3, hit, hr5, hv5]; rfl))
  intro c1
  have hv5 : v5 = false := c1
  refine AWP_skip ?_
  simp only [go_sem]
  refine hK12 _ ?_
  refine oS fun K15 hK15 => ?_
  refine oW T_mHd60_ok ?_
  simp (maxSteps := 2000000) only [go_sem]
  repeat (with_reducible first | refine oA ?_ | refine And.intro (by first | exact hs0.le (by omega) | exact hs1.le (by omega) | exact hs2.le (by omega) | exact hs3.le (by omega) | exact hs4.le (by omega) | exact hs5.le (by omega) | exact hs6.le (by omega) | exact ⟨hs5.le (by omega), by simp⟩) ?_)
  refine hK15 _ ?_
  refine AWP_ret ?_
  simp only [hres, go_sem]
  first | exact oF | (refine ⟨?_, oF⟩; first | (simp only [ribD, bnd, hr1, hr2, sizeS, hr3, hit, hr5, hv5, hr6]; done) | (simp only [ribD, bnd, hr1, hr2, sizeS, hr3, hit, hr5, hv5]; done) | (simp only [ribD, bnd, hr1, hr2, sizeS, hr3, hit, hr5, hv5]; rfl))
def T_drawRib : Tab := fun f => if f = 6 then some (.p K_drawRib) else T_mHd60 f
theorem T_drawRib_ok : TabOk Try.prog T_drawRib := tabP drawRib_ok (fnOk_of Try.func6 rfl (by decide)) T_mHd60_ok
attribute [go_sem] T_drawRib K_drawRib

end Go.Proofs.Ytiafipboklboeaa
