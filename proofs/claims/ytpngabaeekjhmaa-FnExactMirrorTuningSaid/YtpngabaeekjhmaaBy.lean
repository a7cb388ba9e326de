/-
  Contracts of functions: isKey, frequencyOf, FrequencyOfKey.
-/
import Derived.Test.YtpngabaeekjhmaaFk
namespace Go.Proofs.Ytpngabaeekjhmaa
open Go.RowKit
set_option linter.unusedSimpArgs false
set_option linter.unusedVariables false

def K_isKey : Con := ⟨[.val (.int .i64)], [⟨.bool, true⟩], fun _ => True, fun x => inR x.1 0 127⟩
set_option maxRecDepth 100000 in
set_option maxHeartbeats 1000000 in
theorem isKey_ok : PureT Try.prog 46 K_isKey := by
  refine pure_of_body Try.func46 rfl ?_
  have hres : Try.f46.results.toList = [.tmp 2] := rfl
  rintro ⟨(x : Int), _⟩ _
  simp only [K_isKey, St.init, Try.ntmps46, go_sem, Nat.reduceEqDiff, Nat.reduceMul, Nat.reduceAdd, Nat.reduceBEq, Nat.reduceLT, Nat.reduceLeDiff, Nat.reducePow, reduceIte, reduceDIte, Nat.reduceSub, Nat.reduceBNe, Nat.reduceGT, Int.reduceNeg, reduceCtorEq, Int.reduceToNat] 
  refine AWP_seq_k fun K1 hK1 => ?_
  refine AWP_region (G := G) (T := T_implVTun) T_implVTun_ok ?_
  simp (maxSteps := 2000000) only [go_sem, Nat.reduceEqDiff, Nat.reduceMul, Nat.reduceAdd, Nat.reduceBEq, Nat.reduceLT, Nat.reduceLeDiff, Nat.reducePow, reduceIte, reduceDIte, Nat.reduceSub, Nat.reduceBNe, Nat.reduceGT, Int.reduceNeg, reduceCtorEq, Int.reduceToNat]
  repeat (with_reducible refine And.intro (by first | omega) ?_)
  refine hK1 _ ?_
  refine AWP_seq_k fun K2 hK2 => ?_
  refine AWP_region (G := G) (T := T_implVTun) T_implVTun_ok ?_
  simp (maxSteps := 2000000) only [go_sem, Nat.reduceEqDiff, Nat.reduceMul, Nat.reduceAdd, Nat.reduceBEq, Nat.reduceLT, Nat.reduceLeDiff, Nat.reducePow, reduceIte, reduceDIte, Nat.reduceSub, Nat.reduceBNe, Nat.reduceGT, Int.reduceNeg, reduceCtorEq, Int.reduceToNat]
  repeat (with_reducible refine And.intro (by first | omega) ?_)
  refine hK2 _ ?_
  refine AWP_ret ?_
  simp (maxSteps := 2000000) only [hres, go_sem, Nat.reduceEqDiff, Nat.reduceMul, Nat.reduceAdd, Nat.reduceBEq, Nat.reduceLT, Nat.reduceLeDiff, Nat.reducePow, reduceIte, reduceDIte, Nat.reduceSub, Nat.reduceBNe, Nat.reduceGT, Int.reduceNeg, reduceCtorEq, Int.reduceToNat]
  first
    | exact finOk_mk (by rfl) (by decide)
    | refine ⟨?_, finOk_mk (by rfl) (by decide)⟩
      rfl

theorem isKey_fn : FnOk Try.prog 46 := fnOk_of Try.func46 rfl (by decide)

def T_isKey : Tab := fun f => if f = 46 then some K_isKey else T_implVTun f
theorem T_isKey_ok : TabOk Try.prog T_isKey := fun f k h => by
  unfold T_isKey at h
  split at h
  · rename_i e; cases h; subst e; exact ⟨isKey_ok, isKey_fn⟩
  · exact T_implVTun_ok f k h
attribute [go_sem] T_isKey K_isKey


def K_frequencyOf : Con := ⟨[.val (.prod (.prod (.int .i64) (.int .i64)) (.prod (.prod (.int .i64) (.int .i64)) (.row 29 (.prod (.int .i64) (.int .i64))))), .val (.int .i64)], [⟨.prod (.int .i64) (.int .i64), true⟩, ⟨.int .i64, true⟩], fun x => tunB x.1.1.1 x.1.1.2 x.1.2.1 x.1.2.2 = true ∧ 0 ≤ x.2.1 ∧ x.2.1 ≤ 127, fun x => freqR x.1.1 x.1.2.1 x.1.2.2 x.2.1.toNat⟩
set_option maxRecDepth 100000 in
set_option maxHeartbeats 1000000 in
theorem frequencyOf_ok : PureT Try.prog 47 K_frequencyOf := by
  refine pure_of_body Try.func47 rfl ?_
  have hres : Try.f47.results.toList = [.cell 4 29, .tmp 5] := rfl
  rintro ⟨⟨⟨(bn : Int), (bd : Int)⟩, ⟨(on : Int), (od : Int)⟩, (ps : List (Int × Int))⟩, (key : Int), _⟩ ⟨ht, hk0, hk1⟩
  simp only [K_frequencyOf, St.init, Try.ntmps47, go_sem, Nat.reduceEqDiff, Nat.reduceMul, Nat.reduceAdd, Nat.reduceBEq, Nat.reduceLT, Nat.reduceLeDiff, Nat.reducePow, reduceIte, reduceDIte, Nat.reduceSub, Nat.reduceBNe, Nat.reduceGT, Int.reduceNeg, reduceCtorEq, Int.reduceToNat] at hk0 hk1 ⊢
  obtain ⟨m, rfl⟩ := Int.eq_ofNat_of_zero_le hk0
  obtain ⟨gb, go, hn1, hn2⟩ := tunB_parts ht
  obtain ⟨q, hq⟩ : ∃ q, q = m / ps.length := ⟨_, rfl⟩
  have hq1 : q ≤ m := by rw [hq]; exact Nat.div_le_self _ _
  have hm1 : m ≤ 127 := by have h : (m : Int) ≤ 127 := hk1; omega
  have hn3 : 1 ≤ ps.length := hn1
  have eq1 : IntKind.i64.wrap ((m : Int).tdiv (ps.length : Int)) = (q : Int) := by rw [← Int.ofNat_tdiv, ← hq]; exact wrapI (by omega)
  have eq2 : (m : Int).tmod (ps.length : Int) = ((m % ps.length : Nat) : Int) := (Int.ofNat_tmod m ps.length).symm
  have hml : m % ps.length < ps.length := Nat.mod_lt m hn3
  have hn0 : (ps.length : Int) ≠ 0 := by omega
  refine AWP_seq_k fun K1 hK1 => ?_
  refine AWP_region (G := G) (T := T_isKey) T_isKey_ok ?_
  simp (maxSteps := 2000000) only [go_sem, Nat.reduceEqDiff, Nat.reduceMul, Nat.reduceAdd, Nat.reduceBEq, Nat.reduceLT, Nat.reduceLeDiff, Nat.reducePow, reduceIte, reduceDIte, Nat.reduceSub, Nat.reduceBNe, Nat.reduceGT, Int.reduceNeg, reduceCtorEq, Int.reduceToNat]
  repeat (with_reducible refine And.intro (by first | omega) ?_)
  refine hK1 _ ?_
  refine AWP_seq_k fun K2 hK2 => ?_
  refine AWP_region (G := G) (T := T_isKey) T_isKey_ok ?_
  simp (maxSteps := 2000000) only [go_sem, Nat.reduceEqDiff, Nat.reduceMul, Nat.reduceAdd, Nat.reduceBEq, Nat.reduceLT, Nat.reduceLeDiff, Nat.reducePow, reduceIte, reduceDIte, Nat.reduceSub, Nat.reduceBNe, Nat.reduceGT, Int.reduceNeg, reduceCtorEq, Int.reduceToNat]
  repeat (with_reducible refine And.intro (by first | omega) ?_)
  refine hK2 _ ?_
  refine AWP_seq_k fun K3 hK3 => ?_
  refine AWP_region (G := G) (T := T_isKey) T_isKey_ok ?_
  simp (maxSteps := 2000000) only [go_sem, Nat.reduceEqDiff, Nat.reduceMul, Nat.reduceAdd, Nat.reduceBEq, Nat.reduceLT, Nat.reduceLeDiff, Nat.reducePow, reduceIte, reduceDIte, Nat.reduceSub, Nat.reduceBNe, Nat.reduceGT, Int.reduceNeg, reduceCtorEq, Int.reduceToNat]
  repeat (with_reducible refine And.intro (by first | omega) ?_)
  refine hK3 _ ?_
  refine AWP_seq_k fun K4 hK4 => ?_
  refine AWP_seq_k fun K5 hK5 => ?_
  refine AWP_region (G := G) (T := T_isKey) T_isKey_ok ?_
  simp (maxSteps := 2000000) only [eq1, go_sem, Nat.reduceEqDiff, Nat.reduceMul, Nat.reduceAdd, Nat.reduceBEq, Nat.reduceLT, Nat.reduceLeDiff, Nat.reducePow, reduceIte, reduceDIte, Nat.reduceSub, Nat.reduceBNe, Nat.reduceGT, Int.reduceNeg, reduceCtorEq, Int.reduceToNat]
  repeat (with_reducible refine And.intro (by first | omega | exact hn0) ?_)
  refine hK5 _ ?_
  refine AWP_block ?_
  refine AWP_loop_k (ι := { s : Nat × (Int × Int) // s.1 ≤ q ∧ goodF s.2 ∧ powF (on, od) q (bn, bd) = powF (on, od) (q - s.1) s.2 }) (fun k => ⟨[.c .bot, .c (.sc (.int .i64 (m))), .c (.po 132 0), .c .bot, .c (.po 164 0), .c (.sc (.int .i64 (0))), .c (.sc (.int .i64 (ps.length))), .c (.po 212 0), .c (.sc (.int .i64 (0))), .c .bot, .c .bot, .c .bot, .c .bot, .c .bot, .c .bot, .c .bot, .c (.sc (.int .i64 (q))), .c (.sc (.int .i64 (k.1.1))), .c .bot, .c .bot, .c .bot, .c .bot, .c .bot, .c .bot, .c .bot, .c .bot, .c .bot, .c .bot, .c .bot, .c .bot, .c .bot, .c .bot, .c .bot, .c .bot, .c .bot, .c .bot, .c .bot, .c .bot, .c .bot, .c .bot, .c .bot, .c .bot], [(132, .box [.sc (.int .i64 bn), .sc (.int .i64 bd), .sc (.int .i64 on), .sc (.int .i64 od), .rd [] 29 (.prod (.int .i64) (.int .i64)) ps]), (164, .box [.sc (.int .i64 0), .sc (.int .i64 0)]), (212, .box [.sc (.int .i64 k.1.2.1), .sc (.int .i64 k.1.2.2)])]⟩) (fun k => q - k.1.1) ⟨(0, (bn, bd)), by simp, gb, by simp⟩ ?_ ?_
  · refine Wk_to (by rfl) ?_
    simp (maxSteps := 2000000) only [go_sem, Nat.reduceEqDiff, Nat.reduceMul, Nat.reduceAdd, Nat.reduceBEq, Nat.reduceLT, Nat.reduceLeDiff, Nat.reducePow, reduceIte, reduceDIte, Nat.reduceSub, Nat.reduceBNe, Nat.reduceGT, Int.reduceNeg, reduceCtorEq, Int.reduceToNat]
    all_goals first | rfl | simp
  rintro ⟨⟨k, x1, x2⟩, hk, hg, hp⟩ K6 hL6
  refine AWP_seq_k fun K7 hK7 => ?_
  refine AWP_region (G := G) (T := T_isKey) T_isKey_ok ?_
  simp (maxSteps := 2000000) only [go_sem, Nat.reduceEqDiff, Nat.reduceMul, Nat.reduceAdd, Nat.reduceBEq, Nat.reduceLT, Nat.reduceLeDiff, Nat.reducePow, reduceIte, reduceDIte, Nat.reduceSub, Nat.reduceBNe, Nat.reduceGT, Int.reduceNeg, reduceCtorEq, Int.reduceToNat]
  repeat (with_reducible refine And.intro (by first | omega) ?_)
  refine hK7 _ ?_
  refine AWP_seq_k fun K8 hK8 => ?_
  refine AWP_cond rfl ?_ ?_
  · intro c0
    try simp only [decide_eq_true_eq, decide_eq_false_iff_not, Bool.not_eq_true', Bool.not_eq_false', beq_iff_eq, beq_eq_false_iff_ne, bne_eq_false_iff_eq, bne_iff_ne, ne_eq, Int.not_lt, Int.not_le] at c0
    refine AWP_skip ?_
    simp (maxSteps := 2000000) only [go_sem, Nat.reduceEqDiff, Nat.reduceMul, Nat.reduceAdd, Nat.reduceBEq, Nat.reduceLT, Nat.reduceLeDiff, Nat.reducePow, reduceIte, reduceDIte, Nat.reduceSub, Nat.reduceBNe, Nat.reduceGT, Int.reduceNeg, reduceCtorEq, Int.reduceToNat]
    refine hK8 _ ?_
    refine AWP_seq_k fun K9 hK9 => ?_
    refine AWP_block ?_
    refine AWP_seq_k fun K10 hK10 => ?_
    refine AWP_region (G := G) (T := T_isKey) T_isKey_ok ?_
    simp (maxSteps := 2000000) only [go_sem, Nat.reduceEqDiff, Nat.reduceMul, Nat.reduceAdd, Nat.reduceBEq, Nat.reduceLT, Nat.reduceLeDiff, Nat.reducePow, reduceIte, reduceDIte, Nat.reduceSub, Nat.reduceBNe, Nat.reduceGT, Int.reduceNeg, reduceCtorEq, Int.reduceToNat]
    repeat (with_reducible refine And.intro (by first | omega) ?_)
    refine hK10 _ ?_
    refine AWP_seq_k fun K11 hK11 => ?_
    refine AWP_region (G := G) (T := T_isKey) T_isKey_ok ?_
    simp (maxSteps := 2000000) only [go_sem, Nat.reduceEqDiff, Nat.reduceMul, Nat.reduceAdd, Nat.reduceBEq, Nat.reduceLT, Nat.reduceLeDiff, Nat.reducePow, reduceIte, reduceDIte, Nat.reduceSub, Nat.reduceBNe, Nat.reduceGT, Int.reduceNeg, reduceCtorEq, Int.reduceToNat]
    repeat (with_reducible refine And.intro (by first | omega) ?_)
    refine hK11 _ ?_
    refine AWP_cond rfl ?_ ?_
    · intro c1
      try simp only [decide_eq_true_eq, decide_eq_false_iff_not, Bool.not_eq_true', Bool.not_eq_false', beq_iff_eq, beq_eq_false_iff_ne, bne_eq_false_iff_eq, bne_iff_ne, ne_eq, Int.not_lt, Int.not_le] at c1
      refine AWP_seq_k fun K12 hK12 => ?_
      refine AWP_region (G := G) (T := T_isKey) T_isKey_ok ?_
      simp (maxSteps := 2000000) only [go_sem, Nat.reduceEqDiff, Nat.reduceMul, Nat.reduceAdd, Nat.reduceBEq, Nat.reduceLT, Nat.reduceLeDiff, Nat.reducePow, reduceIte, reduceDIte, Nat.reduceSub, Nat.reduceBNe, Nat.reduceGT, Int.reduceNeg, reduceCtorEq, Int.reduceToNat]
      repeat (with_reducible refine And.intro (by first | omega) ?_)
      refine hK12 _ ?_
      refine AWP_ret ?_
      simp (maxSteps := 2000000) only [hres, go_sem, Nat.reduceEqDiff, Nat.reduceMul, Nat.reduceAdd, Nat.reduceBEq, Nat.reduceLT, Nat.reduceLeDiff, Nat.reducePow, reduceIte, reduceDIte, Nat.reduceSub, Nat.reduceBNe, Nat.reduceGT, Int.reduceNeg, reduceCtorEq, Int.reduceToNat]
      first
        | exact finOk_mk (by rfl) (by decide)
        | refine ⟨?_, finOk_mk (by rfl) (by decide)⟩
          rw [freqR_none (show powF (on, od) (m / ps.length) (bn, bd) = none by rw [← hq]; exact hp.trans (powF_no (by omega) c1))]; rw [show (mulF x1 x2 on od).2 = 2 from mulP_code hg go c1]
    · intro c1
      try simp only [decide_eq_true_eq, decide_eq_false_iff_not, Bool.not_eq_true', Bool.not_eq_false', beq_iff_eq, beq_eq_false_iff_ne, bne_eq_false_iff_eq, bne_iff_ne, ne_eq, Int.not_lt, Int.not_le] at c1
      refine AWP_skip ?_
      simp (maxSteps := 2000000) only [go_sem, Nat.reduceEqDiff, Nat.reduceMul, Nat.reduceAdd, Nat.reduceBEq, Nat.reduceLT, Nat.reduceLeDiff, Nat.reducePow, reduceIte, reduceDIte, Nat.reduceSub, Nat.reduceBNe, Nat.reduceGT, Int.reduceNeg, reduceCtorEq, Int.reduceToNat]
      refine hK9 _ ?_
      refine AWP_region (G := G) (T := T_isKey) T_isKey_ok ?_
      simp (maxSteps := 2000000) only [go_sem, Nat.reduceEqDiff, Nat.reduceMul, Nat.reduceAdd, Nat.reduceBEq, Nat.reduceLT, Nat.reduceLeDiff, Nat.reducePow, reduceIte, reduceDIte, Nat.reduceSub, Nat.reduceBNe, Nat.reduceGT, Int.reduceNeg, reduceCtorEq, Int.reduceToNat]
      repeat (with_reducible refine And.intro (by first | omega) ?_)
      refine hL6 ⟨(k + 1, (mulF x1 x2 on od).1), by omega, mulP_good hg go c1, hp.trans (powF_yes (by omega) c1)⟩ _ (Wk_to (by rfl) ?_) ?_
      · skip
        simp (maxSteps := 2000000) only [go_sem, Nat.reduceEqDiff, Nat.reduceMul, Nat.reduceAdd, Nat.reduceBEq, Nat.reduceLT, Nat.reduceLeDiff, Nat.reducePow, reduceIte, reduceDIte, Nat.reduceSub, Nat.reduceBNe, Nat.reduceGT, Int.reduceNeg, reduceCtorEq, Int.reduceToNat]
        all_goals first | rfl | exact ⟨c1, by rw [wrapI (by omega)]; show (k : Int) + 1 = ((k + 1 : Nat) : Int); omega⟩ | (rw [wrapI (by omega)]; show (k : Int) + 1 = ((k + 1 : Nat) : Int); omega)
      · skip
        first | (simp only []; omega) | omega | (simp; omega)
  · intro c0
    try simp only [decide_eq_true_eq, decide_eq_false_iff_not, Bool.not_eq_true', Bool.not_eq_false', beq_iff_eq, beq_eq_false_iff_ne, bne_eq_false_iff_eq, bne_iff_ne, ne_eq, Int.not_lt, Int.not_le] at c0
    refine AWP_exit ?_
    simp (maxSteps := 2000000) only [go_sem, Nat.reduceEqDiff, Nat.reduceMul, Nat.reduceAdd, Nat.reduceBEq, Nat.reduceLT, Nat.reduceLeDiff, Nat.reducePow, reduceIte, reduceDIte, Nat.reduceSub, Nat.reduceBNe, Nat.reduceGT, Int.reduceNeg, reduceCtorEq, Int.reduceToNat]
    refine hK4 _ ?_
    refine AWP_seq_k fun K13 hK13 => ?_
    refine AWP_draw (G := G) (T := T_isKey) T_isKey_ok mixed
      [[], [], [1], [], [], [3, 4], [1, 2, 3, 4, 5], [1, 2, 3, 4, 5, 6], [0, 1, 2, 3, 4, 5, 6, 7], [0, 1, 2, 3, 4, 5, 6, 7, 8], [0, 1, 2, 3, 4, 5, 6, 7, 8], [0, 1, 2, 3, 4, 5, 6, 7, 8, 9, 10], [0, 1, 2, 3, 4, 5, 6, 7, 8, 9, 10, 11]]
      [[], [], [], [], [], [], [], [], [], [], [], [], []]
      [[], [], [], [], [], [], [], [], [], [], [], [], []] (by kernel_rfl) (by kernel_rfl) (adrawR_ok (acc := []) ?_)
    simp (maxSteps := 2000000) only [eq2, go_sem, Nat.reduceEqDiff, Nat.reduceMul, Nat.reduceAdd, Nat.reduceBEq, Nat.reduceLT, Nat.reduceLeDiff, Nat.reducePow, reduceIte, reduceDIte, Nat.reduceSub, Nat.reduceBNe, Nat.reduceGT, Int.reduceNeg, reduceCtorEq, Int.reduceToNat]
    repeat (with_reducible refine And.intro (by first | exact chk_leaf (by kernel_rfl) | omega | exact hn0 | exact ⟨by omega, by omega⟩) ?_)
    refine hK13 _ ?_
    refine AWP_ret ?_
    simp (maxSteps := 2000000) only [hres, go_sem, Nat.reduceEqDiff, Nat.reduceMul, Nat.reduceAdd, Nat.reduceBEq, Nat.reduceLT, Nat.reduceLeDiff, Nat.reducePow, reduceIte, reduceDIte, Nat.reduceSub, Nat.reduceBNe, Nat.reduceGT, Int.reduceNeg, reduceCtorEq, Int.reduceToNat]
    first
      | exact finOk_mk (by rfl) (by decide)
      | refine ⟨?_, finOk_mk (by rfl) (by decide)⟩
        rw [freqR_some (x := (x1, x2)) (show powF (on, od) (m / ps.length) (bn, bd) = some (x1, x2) by rw [← hq, hp, show q - k = 0 by omega]; rfl)]; rfl

theorem frequencyOf_fn : FnOk Try.prog 47 := fnOk_of Try.func47 rfl (by decide)

def T_frequencyOf : Tab := fun f => if f = 47 then some K_frequencyOf else T_isKey f
theorem T_frequencyOf_ok : TabOk Try.prog T_frequencyOf := fun f k h => by
  unfold T_frequencyOf at h
  split at h
  · rename_i e; cases h; subst e; exact ⟨frequencyOf_ok, frequencyOf_fn⟩
  · exact T_isKey_ok f k h
attribute [go_sem] T_frequencyOf K_frequencyOf


def K_implFok : Con := ⟨[.val (.prod (.prod (.int .i64) (.int .i64)) (.prod (.prod (.int .i64) (.int .i64)) (.row 29 (.prod (.int .i64) (.int .i64))))), .val (.int .i64)], [⟨.prod (.int .i64) (.int .i64), true⟩, ⟨.int .i64, true⟩], fun x => x.1.2.2.length ≤ 9223372036854775807, fun x => fokR x.1.1.1 x.1.1.2 x.1.2.1 x.1.2.2 x.2.1⟩
set_option maxRecDepth 100000 in
set_option maxHeartbeats 1000000 in
theorem implFok_ok : PureT Try.prog 21 K_implFok := by
  refine pure_of_body Try.func21 rfl ?_
  have hres : Try.f21.results.toList = [.cell 4 29, .tmp 5] := rfl
  rintro ⟨⟨⟨(bn : Int), (bd : Int)⟩, ⟨(on : Int), (od : Int)⟩, (ps : List (Int × Int))⟩, (key : Int), _⟩ hl
  simp only [K_implFok, St.init, Try.ntmps21, go_sem, Nat.reduceEqDiff, Nat.reduceMul, Nat.reduceAdd, Nat.reduceBEq, Nat.reduceLT, Nat.reduceLeDiff, Nat.reducePow, reduceIte, reduceDIte, Nat.reduceSub, Nat.reduceBNe, Nat.reduceGT, Int.reduceNeg, reduceCtorEq, Int.reduceToNat] at hl ⊢
  refine AWP_seq_k fun K1 hK1 => ?_
  refine AWP_region (G := G) (T := T_frequencyOf) T_frequencyOf_ok ?_
  simp (maxSteps := 2000000) only [go_sem, Nat.reduceEqDiff, Nat.reduceMul, Nat.reduceAdd, Nat.reduceBEq, Nat.reduceLT, Nat.reduceLeDiff, Nat.reducePow, reduceIte, reduceDIte, Nat.reduceSub, Nat.reduceBNe, Nat.reduceGT, Int.reduceNeg, reduceCtorEq, Int.reduceToNat]
  repeat (with_reducible refine And.intro (by first | omega | exact hl | exact ⟨c0, inR_iff.1 c1⟩) ?_)
  refine hK1 _ ?_
  refine AWP_seq_k fun K2 hK2 => ?_
  refine AWP_seq_k fun K3 hK3 => ?_
  refine AWP_region (G := G) (T := T_frequencyOf) T_frequencyOf_ok ?_
  simp (maxSteps := 2000000) only [go_sem, Nat.reduceEqDiff, Nat.reduceMul, Nat.reduceAdd, Nat.reduceBEq, Nat.reduceLT, Nat.reduceLeDiff, Nat.reducePow, reduceIte, reduceDIte, Nat.reduceSub, Nat.reduceBNe, Nat.reduceGT, Int.reduceNeg, reduceCtorEq, Int.reduceToNat]
  repeat (with_reducible refine And.intro (by first | omega | exact hl | exact ⟨c0, inR_iff.1 c1⟩) ?_)
  refine hK3 _ ?_
  refine AWP_cond rfl ?_ ?_
  · intro c0
    try simp only [decide_eq_true_eq, decide_eq_false_iff_not, Bool.not_eq_true', Bool.not_eq_false', beq_iff_eq, beq_eq_false_iff_ne, bne_eq_false_iff_eq, bne_iff_ne, ne_eq, Int.not_lt, Int.not_le] at c0
    refine AWP_seq_k fun K4 hK4 => ?_
    refine AWP_region (G := G) (T := T_frequencyOf) T_frequencyOf_ok ?_
    simp (maxSteps := 2000000) only [go_sem, Nat.reduceEqDiff, Nat.reduceMul, Nat.reduceAdd, Nat.reduceBEq, Nat.reduceLT, Nat.reduceLeDiff, Nat.reducePow, reduceIte, reduceDIte, Nat.reduceSub, Nat.reduceBNe, Nat.reduceGT, Int.reduceNeg, reduceCtorEq, Int.reduceToNat]
    repeat (with_reducible refine And.intro (by first | omega | exact hl | exact ⟨c0, inR_iff.1 c1⟩) ?_)
    refine hK4 _ ?_
    refine AWP_ret ?_
    simp (maxSteps := 2000000) only [hres, go_sem, Nat.reduceEqDiff, Nat.reduceMul, Nat.reduceAdd, Nat.reduceBEq, Nat.reduceLT, Nat.reduceLeDiff, Nat.reducePow, reduceIte, reduceDIte, Nat.reduceSub, Nat.reduceBNe, Nat.reduceGT, Int.reduceNeg, reduceCtorEq, Int.reduceToNat]
    first
      | exact finOk_mk (by rfl) (by decide)
      | refine ⟨?_, finOk_mk (by rfl) (by decide)⟩
        unfold fokR; rw [if_neg (by rw [c0]; decide)]; try rfl
  · intro c0
    try simp only [decide_eq_true_eq, decide_eq_false_iff_not, Bool.not_eq_true', Bool.not_eq_false', beq_iff_eq, beq_eq_false_iff_ne, bne_eq_false_iff_eq, bne_iff_ne, ne_eq, Int.not_lt, Int.not_le] at c0
    refine AWP_skip ?_
    simp (maxSteps := 2000000) only [go_sem, Nat.reduceEqDiff, Nat.reduceMul, Nat.reduceAdd, Nat.reduceBEq, Nat.reduceLT, Nat.reduceLeDiff, Nat.reducePow, reduceIte, reduceDIte, Nat.reduceSub, Nat.reduceBNe, Nat.reduceGT, Int.reduceNeg, reduceCtorEq, Int.reduceToNat]
    refine hK2 _ ?_
    refine AWP_seq_k fun K5 hK5 => ?_
    refine AWP_seq_k fun K6 hK6 => ?_
    refine AWP_region (G := G) (T := T_frequencyOf) T_frequencyOf_ok ?_
    simp (maxSteps := 2000000) only [go_sem, Nat.reduceEqDiff, Nat.reduceMul, Nat.reduceAdd, Nat.reduceBEq, Nat.reduceLT, Nat.reduceLeDiff, Nat.reducePow, reduceIte, reduceDIte, Nat.reduceSub, Nat.reduceBNe, Nat.reduceGT, Int.reduceNeg, reduceCtorEq, Int.reduceToNat]
    repeat (with_reducible refine And.intro (by first | omega | exact hl | exact ⟨c0, inR_iff.1 c1⟩) ?_)
    refine hK6 _ ?_
    refine AWP_cond rfl ?_ ?_
    · intro c1
      try simp only [decide_eq_true_eq, decide_eq_false_iff_not, Bool.not_eq_true', Bool.not_eq_false', beq_iff_eq, beq_eq_false_iff_ne, bne_eq_false_iff_eq, bne_iff_ne, ne_eq, Int.not_lt, Int.not_le] at c1
      refine AWP_seq_k fun K7 hK7 => ?_
      refine AWP_region (G := G) (T := T_frequencyOf) T_frequencyOf_ok ?_
      simp (maxSteps := 2000000) only [go_sem, Nat.reduceEqDiff, Nat.reduceMul, Nat.reduceAdd, Nat.reduceBEq, Nat.reduceLT, Nat.reduceLeDiff, Nat.reducePow, reduceIte, reduceDIte, Nat.reduceSub, Nat.reduceBNe, Nat.reduceGT, Int.reduceNeg, reduceCtorEq, Int.reduceToNat]
      repeat (with_reducible refine And.intro (by first | omega | exact hl | exact ⟨c0, inR_iff.1 c1⟩) ?_)
      refine hK7 _ ?_
      refine AWP_ret ?_
      simp (maxSteps := 2000000) only [hres, go_sem, Nat.reduceEqDiff, Nat.reduceMul, Nat.reduceAdd, Nat.reduceBEq, Nat.reduceLT, Nat.reduceLeDiff, Nat.reducePow, reduceIte, reduceDIte, Nat.reduceSub, Nat.reduceBNe, Nat.reduceGT, Int.reduceNeg, reduceCtorEq, Int.reduceToNat]
      first
        | exact finOk_mk (by rfl) (by decide)
        | refine ⟨?_, finOk_mk (by rfl) (by decide)⟩
          unfold fokR; rw [if_pos c0, if_neg (by rw [c1]; decide)]; try rfl
    · intro c1
      try simp only [decide_eq_true_eq, decide_eq_false_iff_not, Bool.not_eq_true', Bool.not_eq_false', beq_iff_eq, beq_eq_false_iff_ne, bne_eq_false_iff_eq, bne_iff_ne, ne_eq, Int.not_lt, Int.not_le] at c1
      refine AWP_skip ?_
      simp (maxSteps := 2000000) only [go_sem, Nat.reduceEqDiff, Nat.reduceMul, Nat.reduceAdd, Nat.reduceBEq, Nat.reduceLT, Nat.reduceLeDiff, Nat.reducePow, reduceIte, reduceDIte, Nat.reduceSub, Nat.reduceBNe, Nat.reduceGT, Int.reduceNeg, reduceCtorEq, Int.reduceToNat]
      refine hK5 _ ?_
      refine AWP_seq_k fun K8 hK8 => ?_
      refine AWP_region (G := G) (T := T_frequencyOf) T_frequencyOf_ok ?_
      simp (maxSteps := 2000000) only [go_sem, Nat.reduceEqDiff, Nat.reduceMul, Nat.reduceAdd, Nat.reduceBEq, Nat.reduceLT, Nat.reduceLeDiff, Nat.reducePow, reduceIte, reduceDIte, Nat.reduceSub, Nat.reduceBNe, Nat.reduceGT, Int.reduceNeg, reduceCtorEq, Int.reduceToNat]
      repeat (with_reducible refine And.intro (by first | omega | exact hl | exact ⟨c0, inR_iff.1 c1⟩) ?_)
      refine hK8 _ ?_
      refine AWP_ret ?_
      simp (maxSteps := 2000000) only [hres, go_sem, Nat.reduceEqDiff, Nat.reduceMul, Nat.reduceAdd, Nat.reduceBEq, Nat.reduceLT, Nat.reduceLeDiff, Nat.reducePow, reduceIte, reduceDIte, Nat.reduceSub, Nat.reduceBNe, Nat.reduceGT, Int.reduceNeg, reduceCtorEq, Int.reduceToNat]
      first
        | exact finOk_mk (by rfl) (by decide)
        | refine ⟨?_, finOk_mk (by rfl) (by decide)⟩
          unfold fokR; rw [if_pos c0, if_pos c1]; try rfl

theorem implFok_fn : FnOk Try.prog 21 := fnOk_of Try.func21 rfl (by decide)

def T_implFok : Tab := fun f => if f = 21 then some K_implFok else T_frequencyOf f
theorem T_implFok_ok : TabOk Try.prog T_implFok := fun f k h => by
  unfold T_implFok at h
  split at h
  · rename_i e; cases h; subst e; exact ⟨implFok_ok, implFok_fn⟩
  · exact T_frequencyOf_ok f k h
attribute [go_sem] T_implFok K_implFok

end Go.Proofs.Ytpngabaeekjhmaa
