/-
  Contracts of functions: l15Key, FrequencyOfKey.
-/
import Derived.Test.YtpngabaeekjhmaaFk
namespace Go.Proofs.Ytpngabaeekjhmaa
open Go.RowKit
set_option linter.unusedSimpArgs false
set_option linter.unusedVariables false

def K_l15Key : Con := ⟨[.ptr (.prod (.prod (.int .i64) (.int .i64)) (.prod (.prod (.int .i64) (.int .i64)) (.row 29 (.prod (.int .i64) (.int .i64))))), .val (.int .i64)], [⟨.prod (.int .i64) (.int .i64), true⟩, ⟨.int .i64, true⟩], fun x => tunB x.1.1.1 x.1.1.2 x.1.2.1 x.1.2.2 = true ∧ 0 ≤ x.2.1 ∧ x.2.1 ≤ 127, fun x => freqR x.1.1 x.1.2.1 x.1.2.2 x.2.1.toNat⟩
set_option maxRecDepth 100000 in
set_option maxHeartbeats 1000000 in
theorem l15Key_ok : PureT Try.prog 45 K_l15Key := by
  refine pure_of_body Try.func45 rfl ?_
  have hres : Try.f45.results.toList = [.cell 4 29, .tmp 5] := rfl
  rintro ⟨⟨⟨(bn : Int), (bd : Int)⟩, ⟨(on : Int), (od : Int)⟩, (ps : List (Int × Int))⟩, (key : Int), _⟩ ⟨ht, hk0, hk1⟩
  simp only [K_l15Key, St.init, Try.ntmps45, go_sem, Nat.reduceEqDiff, Nat.reduceMul, Nat.reduceAdd, Nat.reduceBEq, Nat.reduceLT, Nat.reduceLeDiff, Nat.reducePow, reduceIte, reduceDIte, Nat.reduceSub, Nat.reduceBNe, Nat.reduceGT, Int.reduceNeg, reduceCtorEq, Int.reduceToNat] at hk0 hk1 ⊢
  obtain ⟨m, rfl⟩ := Int.eq_ofNat_of_zero_le hk0
  obtain ⟨gb, go, hn1, hn2⟩ := tunB_parts ht
  obtain ⟨q, hq⟩ : ∃ q, q = m / ps.length := ⟨_, rfl⟩
  have hq1 : q ≤ m := by rw [hq]; exact Nat.div_le_self _ _
  have hm1 : m ≤ 127 := by have h : (m : Int) ≤ 127 := hk1; omega
  have hn3 : 1 ≤ ps.length := hn1
  have eq1 : IntKind.i64.wrap ((m : Int).tdiv (ps.length : Int)) = (q : Int) := by rw [← Int.ofNat_tdiv, ← hq]; exact wrapI (by omega)
  have eq2 : (m : Int).tmod (ps.length : Int) = ((m % ps.length : Nat) : Int) := (Int.ofNat_tmod m ps.length).symm
  have hml : m % ps.length < ps.length := Nat.mod_lt m hn3
  have hn0 : (ps.length : Int) ≠ 0 := by omega
  refine AWP_seq_k fun K1 hK1 => ?_
  refine AWP_region (G := G) (T := T_specVTun) T_specVTun_ok ?_
  simp (maxSteps := 2000000) only [go_sem, Nat.reduceEqDiff, Nat.reduceMul, Nat.reduceAdd, Nat.reduceBEq, Nat.reduceLT, Nat.reduceLeDiff, Nat.reducePow, reduceIte, reduceDIte, Nat.reduceSub, Nat.reduceBNe, Nat.reduceGT, Int.reduceNeg, reduceCtorEq, Int.reduceToNat]
  repeat (with_reducible refine And.intro (by first | omega) ?_)
  refine hK1 _ ?_
  refine AWP_seq_k fun K2 hK2 => ?_
  refine AWP_region (G := G) (T := T_specVTun) T_specVTun_ok ?_
  simp (maxSteps := 2000000) only [go_sem, Nat.reduceEqDiff, Nat.reduceMul, Nat.reduceAdd, Nat.reduceBEq, Nat.reduceLT, Nat.reduceLeDiff, Nat.reducePow, reduceIte, reduceDIte, Nat.reduceSub, Nat.reduceBNe, Nat.reduceGT, Int.reduceNeg, reduceCtorEq, Int.reduceToNat]
  repeat (with_reducible refine And.intro (by first | omega) ?_)
  refine hK2 _ ?_
  refine AWP_seq_k fun K3 hK3 => ?_
  refine AWP_region (G := G) (T := T_specVTun) T_specVTun_ok ?_
  simp (maxSteps := 2000000) only [go_sem, Nat.reduceEqDiff, Nat.reduceMul, Nat.reduceAdd, Nat.reduceBEq, Nat.reduceLT, Nat.reduceLeDiff, Nat.reducePow, reduceIte, reduceDIte, Nat.reduceSub, Nat.reduceBNe, Nat.reduceGT, Int.reduceNeg, reduceCtorEq, Int.reduceToNat]
  repeat (with_reducible refine And.intro (by first | omega) ?_)
  refine hK3 _ ?_
  refine AWP_seq_k fun K4 hK4 => ?_
  refine AWP_seq_k fun K5 hK5 => ?_
  refine AWP_region (G := G) (T := T_specVTun) T_specVTun_ok ?_
  simp (maxSteps := 2000000) only [eq1, go_sem, Nat.reduceEqDiff, Nat.reduceMul, Nat.reduceAdd, Nat.reduceBEq, Nat.reduceLT, Nat.reduceLeDiff, Nat.reducePow, reduceIte, reduceDIte, Nat.reduceSub, Nat.reduceBNe, Nat.reduceGT, Int.reduceNeg, reduceCtorEq, Int.reduceToNat]
  repeat (with_reducible refine And.intro (by first | omega | exact hn0) ?_)
  refine hK5 _ ?_
  refine AWP_block ?_
  refine AWP_loop_k (ι := { s : Nat × (Int × Int) // s.1 ≤ q ∧ goodF s.2 ∧ powF (on, od) q (bn, bd) = powF (on, od) (q - s.1) s.2 }) (fun k => ⟨[.c (.pt [] ((.prod (.prod (.int .i64) (.int .i64)) (.prod (.prod (.int .i64) (.int .i64)) (.row 29 (.prod (.int .i64) (.int .i64)))))) ((bn, bd), (on, od), ps) 0), .c (.sc (.int .i64 (m))), .c .bot, .c .bot, .c (.po 164 0), .c (.sc (.int .i64 (0))), .c (.sc (.int .i64 (ps.length))), .c (.po 212 0), .c (.sc (.int .i64 ((q : Int) - k.1.1))), .c .bot, .c .bot, .c .bot, .c .bot, .c .bot, .c .bot, .c .bot, .c .bot, .c .bot, .c .bot, .c .bot, .c .bot, .c .bot, .c .bot, .c .bot, .c .bot, .c .bot, .c .bot, .c .bot, .c .bot, .c .bot, .c .bot, .c .bot, .c .bot, .c .bot, .c .bot, .c .bot, .c .bot, .c .bot, .c .bot, .c .bot, .c .bot, .c .bot, .c .bot, .c .bot, .c .bot, .c .bot, .c .bot, .c .bot, .c .bot, .c .bot, .c .bot, .c .bot, .c .bot], [(164, .box [.sc (.int .i64 0), .sc (.int .i64 0)]), (212, .box [.sc (.int .i64 k.1.2.1), .sc (.int .i64 k.1.2.2)])]⟩) (fun k => q - k.1.1) ⟨(0, (bn, bd)), by simp, gb, by simp⟩ ?_ ?_
  · refine Wk_to (by rfl) ?_
    simp (maxSteps := 2000000) only [go_sem, Nat.reduceEqDiff, Nat.reduceMul, Nat.reduceAdd, Nat.reduceBEq, Nat.reduceLT, Nat.reduceLeDiff, Nat.reducePow, reduceIte, reduceDIte, Nat.reduceSub, Nat.reduceBNe, Nat.reduceGT, Int.reduceNeg, reduceCtorEq, Int.reduceToNat]
    all_goals first | rfl | simp
  rintro ⟨⟨k, x1, x2⟩, hk, hg, hp⟩ K6 hL6
  refine AWP_seq_k fun K7 hK7 => ?_
  refine AWP_seq_k fun K8 hK8 => ?_
  refine AWP_region (G := G) (T := T_specVTun) T_specVTun_ok ?_
  simp (maxSteps := 2000000) only [go_sem, Nat.reduceEqDiff, Nat.reduceMul, Nat.reduceAdd, Nat.reduceBEq, Nat.reduceLT, Nat.reduceLeDiff, Nat.reducePow, reduceIte, reduceDIte, Nat.reduceSub, Nat.reduceBNe, Nat.reduceGT, Int.reduceNeg, reduceCtorEq, Int.reduceToNat]
  repeat (with_reducible refine And.intro (by first | omega) ?_)
  refine hK8 _ ?_
  refine AWP_cond rfl ?_ ?_
  · intro c0
    try simp only [decide_eq_true_eq, decide_eq_false_iff_not, Bool.not_eq_true', Bool.not_eq_false', beq_iff_eq, beq_eq_false_iff_ne, bne_eq_false_iff_eq, bne_iff_ne, ne_eq, Int.not_lt, Int.not_le] at c0
    refine AWP_skip ?_
    simp (maxSteps := 2000000) only [go_sem, Nat.reduceEqDiff, Nat.reduceMul, Nat.reduceAdd, Nat.reduceBEq, Nat.reduceLT, Nat.reduceLeDiff, Nat.reducePow, reduceIte, reduceDIte, Nat.reduceSub, Nat.reduceBNe, Nat.reduceGT, Int.reduceNeg, reduceCtorEq, Int.reduceToNat]
    refine hK7 _ ?_
    refine AWP_seq_k fun K9 hK9 => ?_
    refine AWP_block ?_
    refine AWP_seq_k fun K10 hK10 => ?_
    refine AWP_draw (G := G) (T := T_specVTun) T_specVTun_ok mixed
      [[], [], [1], [1, 2], [1, 2, 3], [0, 1, 2, 3, 4], [0, 1, 2, 3, 4, 5], [0, 1, 2, 3, 4, 5, 6], [0, 1, 2, 3, 4, 5, 6], [], [0, 1, 2, 3, 4, 5, 6, 7, 9], [0, 1, 2, 3, 4, 5, 6, 7, 8, 9, 10]]
      [[244], [244], [244], [244], [244], [244], [244], [244], [244], [], [], []]
      [[], [], [], [], [], [], [], [], [], [244], [244], []] (by kernel_rfl) (by kernel_rfl) (adrawR_ok (acc := []) ?_)
    simp (maxSteps := 2000000) only [go_sem, Nat.reduceEqDiff, Nat.reduceMul, Nat.reduceAdd, Nat.reduceBEq, Nat.reduceLT, Nat.reduceLeDiff, Nat.reducePow, reduceIte, reduceDIte, Nat.reduceSub, Nat.reduceBNe, Nat.reduceGT, Int.reduceNeg, reduceCtorEq, Int.reduceToNat]
    repeat (with_reducible refine And.intro (by first | exact chk_leaf (by kernel_rfl) | omega) ?_)
    refine hK10 _ ?_
    refine AWP_seq_k fun K11 hK11 => ?_
    refine AWP_seq_k fun K12 hK12 => ?_
    refine AWP_region (G := G) (T := T_specVTun) T_specVTun_ok ?_
    simp (maxSteps := 2000000) only [go_sem, Nat.reduceEqDiff, Nat.reduceMul, Nat.reduceAdd, Nat.reduceBEq, Nat.reduceLT, Nat.reduceLeDiff, Nat.reducePow, reduceIte, reduceDIte, Nat.reduceSub, Nat.reduceBNe, Nat.reduceGT, Int.reduceNeg, reduceCtorEq, Int.reduceToNat]
    repeat (with_reducible refine And.intro (by first | omega) ?_)
    refine hK12 _ ?_
    refine AWP_cond rfl ?_ ?_
    · intro c1
      try simp only [decide_eq_true_eq, decide_eq_false_iff_not, Bool.not_eq_true', Bool.not_eq_false', beq_iff_eq, beq_eq_false_iff_ne, bne_eq_false_iff_eq, bne_iff_ne, ne_eq, Int.not_lt, Int.not_le] at c1
      refine AWP_seq_k fun K13 hK13 => ?_
      refine AWP_region (G := G) (T := T_specVTun) T_specVTun_ok ?_
      simp (maxSteps := 2000000) only [go_sem, Nat.reduceEqDiff, Nat.reduceMul, Nat.reduceAdd, Nat.reduceBEq, Nat.reduceLT, Nat.reduceLeDiff, Nat.reducePow, reduceIte, reduceDIte, Nat.reduceSub, Nat.reduceBNe, Nat.reduceGT, Int.reduceNeg, reduceCtorEq, Int.reduceToNat]
      repeat (with_reducible refine And.intro (by first | omega) ?_)
      refine hK13 _ ?_
      refine AWP_ret ?_
      simp (maxSteps := 2000000) only [hres, go_sem, Nat.reduceEqDiff, Nat.reduceMul, Nat.reduceAdd, Nat.reduceBEq, Nat.reduceLT, Nat.reduceLeDiff, Nat.reducePow, reduceIte, reduceDIte, Nat.reduceSub, Nat.reduceBNe, Nat.reduceGT, Int.reduceNeg, reduceCtorEq, Int.reduceToNat]
      first
        | exact finOk_mk (by rfl) (by decide)
        | refine ⟨?_, finOk_mk (by rfl) (by decide)⟩
          rw [freqR_none (show powF (on, od) (m / ps.length) (bn, bd) = none by rw [← hq]; exact hp.trans (powF_no (by omega) c1))]
    · intro c1
      try simp only [decide_eq_true_eq, decide_eq_false_iff_not, Bool.not_eq_true', Bool.not_eq_false', beq_iff_eq, beq_eq_false_iff_ne, bne_eq_false_iff_eq, bne_iff_ne, ne_eq, Int.not_lt, Int.not_le] at c1
      refine AWP_skip ?_
      simp (maxSteps := 2000000) only [go_sem, Nat.reduceEqDiff, Nat.reduceMul, Nat.reduceAdd, Nat.reduceBEq, Nat.reduceLT, Nat.reduceLeDiff, Nat.reducePow, reduceIte, reduceDIte, Nat.reduceSub, Nat.reduceBNe, Nat.reduceGT, Int.reduceNeg, reduceCtorEq, Int.reduceToNat]
      refine hK11 _ ?_
      refine AWP_region (G := G) (T := T_specVTun) T_specVTun_ok ?_
      simp (maxSteps := 2000000) only [go_sem, Nat.reduceEqDiff, Nat.reduceMul, Nat.reduceAdd, Nat.reduceBEq, Nat.reduceLT, Nat.reduceLeDiff, Nat.reducePow, reduceIte, reduceDIte, Nat.reduceSub, Nat.reduceBNe, Nat.reduceGT, Int.reduceNeg, reduceCtorEq, Int.reduceToNat]
      repeat (with_reducible refine And.intro (by first | omega) ?_)
      refine hK9 _ ?_
      refine AWP_region (G := G) (T := T_specVTun) T_specVTun_ok ?_
      simp (maxSteps := 2000000) only [go_sem, Nat.reduceEqDiff, Nat.reduceMul, Nat.reduceAdd, Nat.reduceBEq, Nat.reduceLT, Nat.reduceLeDiff, Nat.reducePow, reduceIte, reduceDIte, Nat.reduceSub, Nat.reduceBNe, Nat.reduceGT, Int.reduceNeg, reduceCtorEq, Int.reduceToNat]
      repeat (with_reducible refine And.intro (by first | omega) ?_)
      refine hL6 ⟨(k + 1, (mulF x1 x2 on od).1), by omega, mulP_good hg go c1, hp.trans (powF_yes (by omega) c1)⟩ _ (Wk_to (by rfl) ?_) ?_
      · skip
        simp (maxSteps := 2000000) only [go_sem, Nat.reduceEqDiff, Nat.reduceMul, Nat.reduceAdd, Nat.reduceBEq, Nat.reduceLT, Nat.reduceLeDiff, Nat.reducePow, reduceIte, reduceDIte, Nat.reduceSub, Nat.reduceBNe, Nat.reduceGT, Int.reduceNeg, reduceCtorEq, Int.reduceToNat]
        all_goals first | rfl | (rw [wrapI (by omega)]; show (q : Int) - k - 1 = (q : Int) - ((k + 1 : Nat) : Int); omega)
      · skip
        first | (simp only []; omega) | omega | (simp; omega)
  · intro c0
    try simp only [decide_eq_true_eq, decide_eq_false_iff_not, Bool.not_eq_true', Bool.not_eq_false', beq_iff_eq, beq_eq_false_iff_ne, bne_eq_false_iff_eq, bne_iff_ne, ne_eq, Int.not_lt, Int.not_le] at c0
    refine AWP_exit ?_
    simp (maxSteps := 2000000) only [go_sem, Nat.reduceEqDiff, Nat.reduceMul, Nat.reduceAdd, Nat.reduceBEq, Nat.reduceLT, Nat.reduceLeDiff, Nat.reducePow, reduceIte, reduceDIte, Nat.reduceSub, Nat.reduceBNe, Nat.reduceGT, Int.reduceNeg, reduceCtorEq, Int.reduceToNat]
    refine hK4 _ ?_
    refine AWP_seq_k fun K14 hK14 => ?_
    refine AWP_draw (G := G) (T := T_specVTun) T_specVTun_ok mixed
      [[], [], [1], [1, 2], [1, 2, 3], [], [], [5, 6], [1, 2, 3, 4, 5, 6, 7], [1, 2, 3, 4, 5, 6, 7, 8], [0, 1, 2, 3, 4, 5, 6, 7, 8, 9], [0, 1, 2, 3, 4, 5, 6, 7, 8, 9, 10], [0, 1, 2, 3, 4, 5, 6, 7, 8, 9, 10], [0, 1, 2, 3, 4, 5, 6, 7, 8, 9, 10, 11, 12], [0, 1, 2, 3, 4, 5, 6, 7, 8, 9, 10, 11, 12, 13]]
      [[], [], [], [], [], [], [], [], [], [], [], [], [], [], []]
      [[], [], [], [], [], [], [], [], [], [], [], [], [], [], []] (by kernel_rfl) (by kernel_rfl) (adrawR_ok (acc := []) ?_)
    simp (maxSteps := 2000000) only [eq2, go_sem, Nat.reduceEqDiff, Nat.reduceMul, Nat.reduceAdd, Nat.reduceBEq, Nat.reduceLT, Nat.reduceLeDiff, Nat.reducePow, reduceIte, reduceDIte, Nat.reduceSub, Nat.reduceBNe, Nat.reduceGT, Int.reduceNeg, reduceCtorEq, Int.reduceToNat]
    repeat (with_reducible refine And.intro (by first | exact chk_leaf (by kernel_rfl) | omega | exact hn0 | exact ⟨by omega, by omega⟩) ?_)
    refine hK14 _ ?_
    refine AWP_ret ?_
    simp (maxSteps := 2000000) only [hres, go_sem, Nat.reduceEqDiff, Nat.reduceMul, Nat.reduceAdd, Nat.reduceBEq, Nat.reduceLT, Nat.reduceLeDiff, Nat.reducePow, reduceIte, reduceDIte, Nat.reduceSub, Nat.reduceBNe, Nat.reduceGT, Int.reduceNeg, reduceCtorEq, Int.reduceToNat]
    first
      | exact finOk_mk (by rfl) (by decide)
      | refine ⟨?_, finOk_mk (by rfl) (by decide)⟩
        rw [freqR_some (x := (x1, x2)) (show powF (on, od) (m / ps.length) (bn, bd) = some (x1, x2) by rw [← hq, hp, show q - k = 0 by omega]; rfl)]; rfl

theorem l15Key_fn : FnOk Try.prog 45 := fnOk_of Try.func45 rfl (by decide)

def T_l15Key : Tab := fun f => if f = 45 then some K_l15Key else T_specVTun f
theorem T_l15Key_ok : TabOk Try.prog T_l15Key := fun f k h => by
  unfold T_l15Key at h
  split at h
  · rename_i e; cases h; subst e; exact ⟨l15Key_ok, l15Key_fn⟩
  · exact T_specVTun_ok f k h
attribute [go_sem] T_l15Key K_l15Key


def K_specFok : Con := ⟨[.val (.prod (.prod (.int .i64) (.int .i64)) (.prod (.prod (.int .i64) (.int .i64)) (.row 29 (.prod (.int .i64) (.int .i64))))), .val (.int .i64)], [⟨.prod (.int .i64) (.int .i64), true⟩, ⟨.int .i64, true⟩], fun x => x.1.2.2.length ≤ 9223372036854775807, fun x => fokR x.1.1.1 x.1.1.2 x.1.2.1 x.1.2.2 x.2.1⟩
set_option maxRecDepth 100000 in
set_option maxHeartbeats 1000000 in
theorem specFok_ok : PureT Try.prog 20 K_specFok := by
  refine pure_of_body Try.func20 rfl ?_
  have hres : Try.f20.results.toList = [.cell 4 29, .tmp 5] := rfl
  rintro ⟨⟨⟨(bn : Int), (bd : Int)⟩, ⟨(on : Int), (od : Int)⟩, (ps : List (Int × Int))⟩, (key : Int), _⟩ hl
  simp only [K_specFok, St.init, Try.ntmps20, go_sem, Nat.reduceEqDiff, Nat.reduceMul, Nat.reduceAdd, Nat.reduceBEq, Nat.reduceLT, Nat.reduceLeDiff, Nat.reducePow, reduceIte, reduceDIte, Nat.reduceSub, Nat.reduceBNe, Nat.reduceGT, Int.reduceNeg, reduceCtorEq, Int.reduceToNat] at hl ⊢
  refine AWP_seq_k fun K1 hK1 => ?_
  refine AWP_region (G := G) (T := T_l15Key) T_l15Key_ok ?_
  simp (maxSteps := 2000000) only [go_sem, Nat.reduceEqDiff, Nat.reduceMul, Nat.reduceAdd, Nat.reduceBEq, Nat.reduceLT, Nat.reduceLeDiff, Nat.reducePow, reduceIte, reduceDIte, Nat.reduceSub, Nat.reduceBNe, Nat.reduceGT, Int.reduceNeg, reduceCtorEq, Int.reduceToNat]
  repeat (with_reducible refine And.intro (by first | omega | exact hl | exact ⟨c0, inR_iff.1 c1⟩) ?_)
  refine hK1 _ ?_
  refine AWP_seq_k fun K2 hK2 => ?_
  refine AWP_seq_k fun K3 hK3 => ?_
  refine AWP_region (G := G) (T := T_l15Key) T_l15Key_ok ?_
  simp (maxSteps := 2000000) only [go_sem, Nat.reduceEqDiff, Nat.reduceMul, Nat.reduceAdd, Nat.reduceBEq, Nat.reduceLT, Nat.reduceLeDiff, Nat.reducePow, reduceIte, reduceDIte, Nat.reduceSub, Nat.reduceBNe, Nat.reduceGT, Int.reduceNeg, reduceCtorEq, Int.reduceToNat]
  repeat (with_reducible refine And.intro (by first | omega | exact hl | exact ⟨c0, inR_iff.1 c1⟩) ?_)
  refine hK3 _ ?_
  refine AWP_cond rfl ?_ ?_
  · intro c0
    try simp only [decide_eq_true_eq, decide_eq_false_iff_not, Bool.not_eq_true', Bool.not_eq_false', beq_iff_eq, beq_eq_false_iff_ne, bne_eq_false_iff_eq, bne_iff_ne, ne_eq, Int.not_lt, Int.not_le] at c0
    refine AWP_seq_k fun K4 hK4 => ?_
    refine AWP_region (G := G) (T := T_l15Key) T_l15Key_ok ?_
    simp (maxSteps := 2000000) only [go_sem, Nat.reduceEqDiff, Nat.reduceMul, Nat.reduceAdd, Nat.reduceBEq, Nat.reduceLT, Nat.reduceLeDiff, Nat.reducePow, reduceIte, reduceDIte, Nat.reduceSub, Nat.reduceBNe, Nat.reduceGT, Int.reduceNeg, reduceCtorEq, Int.reduceToNat]
    repeat (with_reducible refine And.intro (by first | omega | exact hl | exact ⟨c0, inR_iff.1 c1⟩) ?_)
    refine hK4 _ ?_
    refine AWP_ret ?_
    simp (maxSteps := 2000000) only [hres, go_sem, Nat.reduceEqDiff, Nat.reduceMul, Nat.reduceAdd, Nat.reduceBEq, Nat.reduceLT, Nat.reduceLeDiff, Nat.reducePow, reduceIte, reduceDIte, Nat.reduceSub, Nat.reduceBNe, Nat.reduceGT, Int.reduceNeg, reduceCtorEq, Int.reduceToNat]
    first
      | exact finOk_mk (by rfl) (by decide)
      | refine ⟨?_, finOk_mk (by rfl) (by decide)⟩
        unfold fokR; rw [if_neg (by rw [c0]; decide)]; try rfl
  · intro c0
    try simp only [decide_eq_true_eq, decide_eq_false_iff_not, Bool.not_eq_true', Bool.not_eq_false', beq_iff_eq, beq_eq_false_iff_ne, bne_eq_false_iff_eq, bne_iff_ne, ne_eq, Int.not_lt, Int.not_le] at c0
    refine AWP_skip ?_
    simp (maxSteps := 2000000) only [go_sem, Nat.reduceEqDiff, Nat.reduceMul, Nat.reduceAdd, Nat.reduceBEq, Nat.reduceLT, Nat.reduceLeDiff, Nat.reducePow, reduceIte, reduceDIte, Nat.reduceSub, Nat.reduceBNe, Nat.reduceGT, Int.reduceNeg, reduceCtorEq, Int.reduceToNat]
    refine hK2 _ ?_
    refine AWP_seq_k fun K5 hK5 => ?_
    refine AWP_seq_k fun K6 hK6 => ?_
    refine AWP_region (G := G) (T := T_l15Key) T_l15Key_ok ?_
    simp (maxSteps := 2000000) only [go_sem, Nat.reduceEqDiff, Nat.reduceMul, Nat.reduceAdd, Nat.reduceBEq, Nat.reduceLT, Nat.reduceLeDiff, Nat.reducePow, reduceIte, reduceDIte, Nat.reduceSub, Nat.reduceBNe, Nat.reduceGT, Int.reduceNeg, reduceCtorEq, Int.reduceToNat]
    repeat (with_reducible refine And.intro (by first | omega | exact hl | exact ⟨c0, inR_iff.1 c1⟩) ?_)
    refine hK6 _ ?_
    refine AWP_cond rfl ?_ ?_
    · intro c1
      try simp only [decide_eq_true_eq, decide_eq_false_iff_not, Bool.not_eq_true', Bool.not_eq_false', beq_iff_eq, beq_eq_false_iff_ne, bne_eq_false_iff_eq, bne_iff_ne, ne_eq, Int.not_lt, Int.not_le] at c1
      refine AWP_seq_k fun K7 hK7 => ?_
      refine AWP_region (G := G) (T := T_l15Key) T_l15Key_ok ?_
      simp (maxSteps := 2000000) only [go_sem, Nat.reduceEqDiff, Nat.reduceMul, Nat.reduceAdd, Nat.reduceBEq, Nat.reduceLT, Nat.reduceLeDiff, Nat.reducePow, reduceIte, reduceDIte, Nat.reduceSub, Nat.reduceBNe, Nat.reduceGT, Int.reduceNeg, reduceCtorEq, Int.reduceToNat]
      repeat (with_reducible refine And.intro (by first | omega | exact hl | exact ⟨c0, inR_iff.1 c1⟩) ?_)
      refine hK7 _ ?_
      refine AWP_ret ?_
      simp (maxSteps := 2000000) only [hres, go_sem, Nat.reduceEqDiff, Nat.reduceMul, Nat.reduceAdd, Nat.reduceBEq, Nat.reduceLT, Nat.reduceLeDiff, Nat.reducePow, reduceIte, reduceDIte, Nat.reduceSub, Nat.reduceBNe, Nat.reduceGT, Int.reduceNeg, reduceCtorEq, Int.reduceToNat]
      first
        | exact finOk_mk (by rfl) (by decide)
        | refine ⟨?_, finOk_mk (by rfl) (by decide)⟩
          unfold fokR; rw [if_pos c0, if_neg (by rw [c1]; decide)]; try rfl
    · intro c1
      try simp only [decide_eq_true_eq, decide_eq_false_iff_not, Bool.not_eq_true', Bool.not_eq_false', beq_iff_eq, beq_eq_false_iff_ne, bne_eq_false_iff_eq, bne_iff_ne, ne_eq, Int.not_lt, Int.not_le] at c1
      refine AWP_skip ?_
      simp (maxSteps := 2000000) only [go_sem, Nat.reduceEqDiff, Nat.reduceMul, Nat.reduceAdd, Nat.reduceBEq, Nat.reduceLT, Nat.reduceLeDiff, Nat.reducePow, reduceIte, reduceDIte, Nat.reduceSub, Nat.reduceBNe, Nat.reduceGT, Int.reduceNeg, reduceCtorEq, Int.reduceToNat]
      refine hK5 _ ?_
      refine AWP_seq_k fun K8 hK8 => ?_
      refine AWP_region (G := G) (T := T_l15Key) T_l15Key_ok ?_
      simp (maxSteps := 2000000) only [go_sem, Nat.reduceEqDiff, Nat.reduceMul, Nat.reduceAdd, Nat.reduceBEq, Nat.reduceLT, Nat.reduceLeDiff, Nat.reducePow, reduceIte, reduceDIte, Nat.reduceSub, Nat.reduceBNe, Nat.reduceGT, Int.reduceNeg, reduceCtorEq, Int.reduceToNat]
      repeat (with_reducible refine And.intro (by first | omega | exact hl | exact ⟨c0, inR_iff.1 c1⟩) ?_)
      refine hK8 _ ?_
      refine AWP_ret ?_
      simp (maxSteps := 2000000) only [hres, go_sem, Nat.reduceEqDiff, Nat.reduceMul, Nat.reduceAdd, Nat.reduceBEq, Nat.reduceLT, Nat.reduceLeDiff, Nat.reducePow, reduceIte, reduceDIte, Nat.reduceSub, Nat.reduceBNe, Nat.reduceGT, Int.reduceNeg, reduceCtorEq, Int.reduceToNat]
      first
        | exact finOk_mk (by rfl) (by decide)
        | refine ⟨?_, finOk_mk (by rfl) (by decide)⟩
          unfold fokR; rw [if_pos c0, if_pos c1]; try rfl

theorem specFok_fn : FnOk Try.prog 20 := fnOk_of Try.func20 rfl (by decide)

def T_specFok : Tab := fun f => if f = 20 then some K_specFok else T_l15Key f
theorem T_specFok_ok : TabOk Try.prog T_specFok := fun f k h => by
  unfold T_specFok at h
  split at h
  · rename_i e; cases h; subst e; exact ⟨specFok_ok, specFok_fn⟩
  · exact T_l15Key_ok f k h
attribute [go_sem] T_specFok K_specFok

end Go.Proofs.Ytpngabaeekjhmaa
