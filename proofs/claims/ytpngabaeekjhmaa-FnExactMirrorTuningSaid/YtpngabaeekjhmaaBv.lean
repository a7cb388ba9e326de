/-
  Contracts of functions: l15Ok.
-/
import Derived.Test.YtpngabaeekjhmaaBt
namespace Go.Proofs.Ytpngabaeekjhmaa
open Go.RowKit
set_option linter.unusedSimpArgs false
set_option linter.unusedVariables false

def K_l15Ok : Con := ⟨[.ptr (.prod (.prod (.int .i64) (.int .i64)) (.prod (.prod (.int .i64) (.int .i64)) (.row 29 (.prod (.int .i64) (.int .i64)))))], [⟨.bool, true⟩], fun x => x.1.2.2.length ≤ 9223372036854775807, fun x => tunB x.1.1.1 x.1.1.2 x.1.2.1 x.1.2.2⟩
set_option maxRecDepth 100000 in
set_option maxHeartbeats 1000000 in
theorem l15Ok_ok : PureT Try.prog 28 K_l15Ok := by
  refine pure_of_body Try.func28 rfl ?_
  have hres : Try.f28.results.toList = [.tmp 2] := rfl
  rintro ⟨⟨⟨(bn : Int), (bd : Int)⟩, ⟨(on : Int), (od : Int)⟩, (ps : List (Int × Int))⟩, _⟩ hl
  simp only [K_l15Ok, St.init, Try.ntmps28, go_sem, Nat.reduceEqDiff, Nat.reduceMul, Nat.reduceAdd, Nat.reduceBEq, Nat.reduceLT, Nat.reduceLeDiff, Nat.reducePow, reduceIte, reduceDIte, Nat.reduceSub, Nat.reduceBNe, Nat.reduceGT, Int.reduceNeg, reduceCtorEq, Int.reduceToNat] at hl ⊢
  refine AWP_seq_k fun K1 hK1 => ?_
  refine AWP_region (G := G) (T := T_specDiv) T_specDiv_ok ?_
  simp (maxSteps := 2000000) only [go_sem, Nat.reduceEqDiff, Nat.reduceMul, Nat.reduceAdd, Nat.reduceBEq, Nat.reduceLT, Nat.reduceLeDiff, Nat.reducePow, reduceIte, reduceDIte, Nat.reduceSub, Nat.reduceBNe, Nat.reduceGT, Int.reduceNeg, reduceCtorEq, Int.reduceToNat]
  repeat (with_reducible refine And.intro (by first | omega) ?_)
  refine hK1 _ ?_
  refine AWP_seq_k fun K2 hK2 => ?_
  refine AWP_seq_k fun K3 hK3 => ?_
  refine AWP_draw (G := G) (T := T_specDiv) T_specDiv_ok mixed
    [[], [0], [0, 1], [0, 1, 2], [0, 1, 2, 3], [0, 1, 2, 3, 4], [0, 1, 2, 3, 4, 5], [0, 1, 2, 3, 4, 5, 6], [0, 1, 2, 3, 4, 5, 6, 7], [0, 1, 2, 3, 4, 5, 6, 7, 8], [0, 1, 2, 3, 4, 5, 6, 7, 8, 9], [0, 1, 2, 3, 4, 5, 6, 7, 8, 9, 10], [0, 1, 2, 3, 4, 5, 6, 7, 8, 9, 10, 11], [0, 1, 2, 3, 4, 5, 6, 7, 8, 9, 10, 11, 12], [0, 1, 2, 3, 4, 5, 6, 7, 8, 9, 10, 11, 12, 13], [0, 1, 2, 3, 4, 5, 6, 7, 8, 9, 10, 11, 12, 13, 14], [0, 1, 2, 3, 4, 5, 6, 7, 8, 9, 10, 11, 12, 13, 14, 15], [0, 1, 2, 3, 4, 5, 6, 7, 8, 9, 10, 11, 12, 13, 14, 15, 16], [0, 1, 2, 3, 4, 5, 6, 7, 8, 9, 10, 11, 12, 13, 14, 15, 16, 17], [0, 1, 2, 3, 4, 5, 6, 7, 8, 9, 10, 11, 12, 13, 14, 15, 16, 17, 18], [0, 1, 2, 3, 4, 5, 6, 7, 8, 9, 10, 11, 12, 13, 14, 15, 16, 17, 18, 19], [0, 1, 2, 3, 4, 5, 6, 7, 8, 9, 10, 11, 12, 13, 14, 15, 16, 17, 18, 19, 20], [0, 1, 2, 3, 4, 5, 6, 7, 8, 9, 10, 11, 12, 13, 14, 15, 16, 17, 18, 19, 20, 21], [0, 1, 2, 3, 4, 5, 6, 7, 8, 9, 10, 11, 12, 13, 14, 15, 16, 17, 18, 19, 20, 21, 22], [0, 1, 2, 3, 4, 5, 6, 7, 8, 9, 10, 11, 12, 13, 14, 15, 16, 17, 18, 19, 20, 21, 22, 23], [0, 1, 2, 3, 4, 5, 6, 7, 8, 9, 10, 11, 12, 13, 14, 15, 16, 17, 18, 19, 20, 21, 22, 23, 24], [0, 1, 2, 3, 4, 5, 6, 7, 8, 9, 10, 11, 12, 13, 14, 15, 16, 17, 18, 19, 20, 21, 22, 23, 24, 25], [0, 1, 2, 3, 4, 5, 6, 7, 8, 9, 10, 11, 12, 13, 14, 15, 16, 17, 18, 19, 20, 21, 22], [0, 1, 2, 3, 4, 5, 6, 7, 8, 9, 10, 11, 12, 13, 14, 15, 16, 17, 18, 19, 20, 21, 22, 23, 24, 25, 26, 27], [0, 1, 2, 3, 4, 5, 6, 7, 8, 9, 10, 11, 12, 13, 14, 15, 16, 17, 18, 19, 20, 21, 22, 23, 24, 25, 26, 27, 28], [0, 1, 2, 3, 4, 5, 6, 7, 8, 9, 10, 11, 12, 13, 14, 15, 16, 17, 18, 19, 20, 21, 22, 23, 24, 25, 26, 27, 28, 29], [0, 1, 2, 3, 4, 5, 6, 7, 8, 9, 10, 11, 12, 13, 14, 15, 16, 17, 18, 19, 20, 21, 22, 23, 24, 25, 26, 27, 28, 29, 30], [0, 1, 2, 3, 4, 5, 6, 7, 8, 9, 10, 11, 12, 13, 14, 15, 16, 17, 18, 19, 20, 21, 22, 23, 24, 25, 26, 27, 28, 29, 30, 31], [0, 1, 2, 3, 4, 5, 6, 7, 8, 9, 10, 11, 12, 13, 14, 15, 16, 17, 18, 19, 20, 21, 22, 23, 24, 25, 26, 27, 28, 29, 30, 31, 32], [0, 1, 2, 3, 4, 5, 6, 7, 8, 9, 10, 11, 12, 13, 14, 15, 16, 17, 18, 19, 20, 21, 22, 23, 24, 25, 26, 27, 28, 29, 30, 31, 32, 33], [0, 1, 2, 3, 4, 5, 6, 7, 8, 9, 10, 11, 12, 13, 14, 15, 16, 17, 18, 19, 20, 21, 22, 23, 24, 25, 26, 27, 28, 29, 30, 31, 32, 33, 34], [0, 1, 2, 3, 4, 5, 6, 7, 8, 9, 10, 11, 12, 13, 14, 15, 16, 17, 18, 19, 20, 21, 22, 23, 24, 25, 26, 27, 28, 29, 30, 31, 32, 33, 34, 35], [0, 1, 2, 3, 4, 5, 6, 7, 8, 9, 10, 11, 12, 13, 14, 15, 16, 17, 18, 19, 20, 21, 22, 23, 24, 25, 26, 27, 28, 29, 30, 31, 32, 33, 34, 35, 36], [0, 1, 2, 3, 4, 5, 6, 7, 8, 9, 10, 11, 12, 13, 14, 15, 16, 17, 18, 19, 20, 21, 22, 23, 24, 25, 26, 27, 28, 29, 30, 31, 32, 33, 34, 35, 36, 37], [0, 1, 2, 3, 4, 5, 6, 7, 8, 9, 10, 11, 12, 13, 14, 15, 16, 17, 18, 19, 20, 21, 22, 23, 24, 25, 26, 27, 28, 29, 30, 31, 32, 33, 34, 35, 36, 37, 38], [0, 1, 2, 3, 4, 5, 6, 7, 8, 9, 10, 11, 12, 13, 14, 15, 16, 17, 18, 19, 20, 21, 22, 23, 24, 25, 26, 27, 28, 29, 30, 31, 32, 33, 34, 35, 36, 37, 38, 39], [0, 1, 2, 3, 4, 5, 6, 7, 8, 9, 10, 11, 12, 13, 14, 15, 16, 17, 18, 19, 20, 21, 22, 23, 24, 25, 26, 27, 28, 29, 30, 31, 32, 33, 34, 35, 36, 37, 38, 39, 40], [0, 1, 2, 3, 4, 5, 6, 7, 8, 9, 10, 11, 12, 13, 14, 15, 16, 17, 18, 19, 20, 21, 22, 23, 24, 25, 26, 27, 28, 29, 30, 31, 32, 33, 34, 35, 36, 37, 38, 39, 40, 41], [0, 1, 2, 3, 4, 5, 6, 7, 8, 9, 10, 11, 12, 13, 14, 15, 16, 17, 18, 19, 20, 21, 22, 23, 24, 25, 26, 27, 28, 29, 30, 31, 32, 33, 34, 35, 36, 37, 38, 39, 40, 41, 42], [0, 1, 2, 3, 4, 5, 6, 7, 8, 9, 10, 11, 12, 13, 14, 15, 16, 17, 18, 19, 20, 21, 22, 23, 24, 25, 26, 27, 28, 29, 30, 31, 32, 33, 34, 35, 36, 37, 38, 39, 40, 41, 42, 43], [0, 1, 2, 3, 4, 5, 6, 7, 8, 9, 10, 11, 12, 13, 14, 15, 16, 17, 18, 19, 20, 21, 22, 23, 24, 25, 26, 27, 28, 29, 30, 31, 32, 33, 34, 35, 36, 37, 38, 39, 40, 41, 42, 43, 44], [0, 1, 2, 3, 4, 5, 6, 7, 8, 9, 10, 11, 12, 13, 14, 15, 16, 17, 18, 19, 20, 21, 22, 23, 24, 25, 26, 27, 28, 29, 30, 31, 32, 33, 34, 35, 36, 37, 38, 39, 40, 41, 42, 43, 44, 45], [0, 1, 2, 3, 4, 5, 6, 7, 8, 9, 10, 11, 12, 13, 14, 15, 16, 17, 18, 19, 20, 21, 22, 23, 24, 25, 26, 27, 28, 29, 30, 31, 32, 33, 34, 35, 36, 37, 38, 39, 40], [0, 1, 2, 3, 4, 5, 6, 7, 8, 9, 10, 11, 12, 13, 14, 15, 16, 17, 18, 19, 20, 21, 22, 23, 24, 25, 26, 27, 28, 29, 30, 31, 32, 33, 34, 35, 36, 37, 38, 39, 40, 41, 42, 43, 44, 45, 46, 47], [0, 1, 2, 3, 4, 5, 6, 7, 8, 9, 10, 11, 12, 13, 14, 15, 16, 17, 18, 19, 20, 21, 22, 23, 24, 25, 26, 27, 28, 29, 30, 31, 32, 33, 34, 35, 36, 37, 38, 39, 40, 41, 42, 43, 44, 45, 46, 47, 48]]
    [[], [], [], [], [], [], [], [], [], [], [], [], [], [], [], [], [], [], [], [], [], [], [], [], [], [], [], [], [], [], [], [], [], [], [], [], [], [], [], [], [], [], [], [], [], [], [], [], [], []]
    [[], [], [], [], [], [], [], [], [], [], [], [], [], [], [], [], [], [], [], [], [], [], [], [], [], [], [], [], [], [], [], [], [], [], [], [], [], [], [], [], [], [], [], [], [], [], [], [], [], []] (by kernel_rfl) (by kernel_rfl) (adrawR_ok (acc := []) ?_)
  simp (maxSteps := 2000000) only [go_sem, Nat.reduceEqDiff, Nat.reduceMul, Nat.reduceAdd, Nat.reduceBEq, Nat.reduceLT, Nat.reduceLeDiff, Nat.reducePow, reduceIte, reduceDIte, Nat.reduceSub, Nat.reduceBNe, Nat.reduceGT, Int.reduceNeg, reduceCtorEq, Int.reduceToNat]
  repeat' (first | (with_reducible refine And.intro (by first | exact chk_leaf (by kernel_rfl) | omega | exact ⟨by clear hK1 hK2 hK3; simp_all [frAll], rfl⟩ | exact ⟨by omega, by clear hK1 hK2 hK3; have h := ‹inR (↑(List.length ps)) 1 24 = true›; simp [inR] at h; omega⟩) ?_) | (with_reducible refine gcase_dt (fun g1 => ?_) (fun g1 => ?_)) | (with_reducible refine gcase_df (fun g1 => ?_) (fun g1 => ?_)) | (with_reducible refine gcase_nt (fun g1 => ?_) (fun g1 => ?_)) | (with_reducible refine gcase_nf (fun g1 => ?_) (fun g1 => ?_)) | (with_reducible refine gcase_mk (fun g1 => ?_) (fun g1 => ?_)))
  all_goals
    refine hK3 _ ?_
    refine AWP_cond rfl ?_ ?_
    · intro c0
      try simp only [decide_eq_true_eq, decide_eq_false_iff_not, Bool.not_eq_true', Bool.not_eq_false', beq_iff_eq, beq_eq_false_iff_ne, bne_eq_false_iff_eq, bne_iff_ne, ne_eq, Int.not_lt, Int.not_le, Bool.true_eq_false, Bool.false_eq_true] at c0
      all_goals
        refine AWP_seq_k fun K4 hK4 => ?_
        refine AWP_region (G := G) (T := T_specDiv) T_specDiv_ok ?_
        simp (maxSteps := 2000000) only [go_sem, Nat.reduceEqDiff, Nat.reduceMul, Nat.reduceAdd, Nat.reduceBEq, Nat.reduceLT, Nat.reduceLeDiff, Nat.reducePow, reduceIte, reduceDIte, Nat.reduceSub, Nat.reduceBNe, Nat.reduceGT, Int.reduceNeg, reduceCtorEq, Int.reduceToNat]
        repeat (with_reducible refine And.intro (by first | omega) ?_)
        refine hK4 _ ?_
        refine AWP_ret ?_
        simp (maxSteps := 2000000) only [hres, go_sem, Nat.reduceEqDiff, Nat.reduceMul, Nat.reduceAdd, Nat.reduceBEq, Nat.reduceLT, Nat.reduceLeDiff, Nat.reducePow, reduceIte, reduceDIte, Nat.reduceSub, Nat.reduceBNe, Nat.reduceGT, Int.reduceNeg, reduceCtorEq, Int.reduceToNat]
        first
          | exact finOk_mk (by rfl) (by decide)
          | refine ⟨?_, finOk_mk (by rfl) (by decide)⟩
            cases h : tunB bn bd (on, od) ps
            · rfl
            · exfalso
              clear hK1 hK2 hK3 hK4
              simp only [tunB, Bool.and_eq_true, decide_eq_true_eq] at h
              obtain ⟨⟨⟨⟨⟨⟨⟨h1, h2⟩, h3⟩, h4⟩, h5⟩, h6⟩, h7⟩, h8⟩ := h
              first | omega | (simp_all; done) | (simp_all [frAll]; done) | (simp_all [frAll]; omega) | (trace_state; fail)
    · intro c0
      try simp only [decide_eq_true_eq, decide_eq_false_iff_not, Bool.not_eq_true', Bool.not_eq_false', beq_iff_eq, beq_eq_false_iff_ne, bne_eq_false_iff_eq, bne_iff_ne, ne_eq, Int.not_lt, Int.not_le, Bool.true_eq_false, Bool.false_eq_true] at c0
      all_goals
        have hfo : frB on od = true := by clear hK1 hK2 hK3; simp_all
        have hA : tunB bn bd (on, od) ps = (List.range ps.length).all (tunQ (on, od) ps) := by clear hK1 hK2 hK3; rw [tunQ_all]; simp_all [tunB, Int.not_le]
        refine AWP_skip ?_
        simp (maxSteps := 2000000) only [go_sem, Nat.reduceEqDiff, Nat.reduceMul, Nat.reduceAdd, Nat.reduceBEq, Nat.reduceLT, Nat.reduceLeDiff, Nat.reducePow, reduceIte, reduceDIte, Nat.reduceSub, Nat.reduceBNe, Nat.reduceGT, Int.reduceNeg, reduceCtorEq, Int.reduceToNat]
        refine hK2 _ ?_
        refine AWP_seq_k fun K5 hK5 => ?_
        refine AWP_seq_k fun K6 hK6 => ?_
        refine AWP_region (G := G) (T := T_specDiv) T_specDiv_ok ?_
        simp (maxSteps := 2000000) only [go_sem, Nat.reduceEqDiff, Nat.reduceMul, Nat.reduceAdd, Nat.reduceBEq, Nat.reduceLT, Nat.reduceLeDiff, Nat.reducePow, reduceIte, reduceDIte, Nat.reduceSub, Nat.reduceBNe, Nat.reduceGT, Int.reduceNeg, reduceCtorEq, Int.reduceToNat]
        repeat (with_reducible refine And.intro (by first | omega) ?_)
        refine hK6 _ ?_
        refine AWP_block ?_
        refine AWP_loop_k (ι := { k : Nat // k ≤ ps.length ∧ (List.range k).all (tunQ (on, od) ps) = true }) (fun k => ⟨[.c (.pt [] ((.prod (.prod (.int .i64) (.int .i64)) (.prod (.prod (.int .i64) (.int .i64)) (.row 29 (.prod (.int .i64) (.int .i64)))))) ((bn, bd), (on, od), ps) 0), .c .bot, .c .bot, .c (.sc (.int .i64 (k.1))), .c .bot, .c .bot, .c .bot, .c .bot, .c .bot, .c .bot, .c .bot, .c .bot, .c .bot, .c .bot, .c .bot, .c .bot, .c .bot, .c .bot, .c .bot, .c .bot, .c .bot, .c .bot, .c .bot, .c .bot, .c .bot, .c .bot, .c .bot, .c .bot, .c .bot, .c .bot, .c .bot, .c .bot, .c .bot, .c .bot, .c .bot, .c .bot, .c .bot, .c .bot, .c .bot, .c .bot, .c .bot, .c .bot, .c .bot, .c .bot, .c .bot, .c .bot, .c .bot, .c .bot, .c .bot, .c .bot, .c .bot, .c .bot, .c .bot, .c .bot, .c .bot, .c .bot, .c .bot, .c .bot, .c .bot, .c .bot, .c .bot, .c .bot, .c .bot, .c .bot, .c .bot, .c .bot, .c .bot, .c .bot, .c .bot, .c .bot, .c .bot, .c .bot, .c .bot, .c .bot, .c .bot, .c .bot, .c .bot, .c .bot, .c .bot, .c .bot, .c .bot, .c .bot, .c .bot, .c .bot, .c .bot, .c .bot, .c .bot, .c .bot, .c .bot, .c .bot, .c .bot, .c .bot, .c .bot, .c .bot, .c .bot, .c .bot, .c .bot, .c .bot, .c .bot, .c .bot, .c .bot, .c .bot, .c .bot, .c .bot, .c .bot, .c .bot, .c .bot, .c .bot, .c .bot, .c .bot], []⟩) (fun k => ps.length - k.1) ⟨0, by simp⟩ ?_ ?_
        · refine Wk_to (by rfl) ?_
          simp (maxSteps := 2000000) only [go_sem, Nat.reduceEqDiff, Nat.reduceMul, Nat.reduceAdd, Nat.reduceBEq, Nat.reduceLT, Nat.reduceLeDiff, Nat.reducePow, reduceIte, reduceDIte, Nat.reduceSub, Nat.reduceBNe, Nat.reduceGT, Int.reduceNeg, reduceCtorEq, Int.reduceToNat]
          all_goals first | rfl | simp
        rintro ⟨k, hk, hp⟩ K7 hL7
        refine AWP_seq_k fun K8 hK8 => ?_
        refine AWP_seq_k fun K9 hK9 => ?_
        refine AWP_region (G := G) (T := T_specDiv) T_specDiv_ok ?_
        simp (maxSteps := 2000000) only [go_sem, Nat.reduceEqDiff, Nat.reduceMul, Nat.reduceAdd, Nat.reduceBEq, Nat.reduceLT, Nat.reduceLeDiff, Nat.reducePow, reduceIte, reduceDIte, Nat.reduceSub, Nat.reduceBNe, Nat.reduceGT, Int.reduceNeg, reduceCtorEq, Int.reduceToNat]
        repeat (with_reducible refine And.intro (by first | omega) ?_)
        refine hK9 _ ?_
        refine AWP_cond rfl ?_ ?_
        · intro c1
          try simp only [decide_eq_true_eq, decide_eq_false_iff_not, Bool.not_eq_true', Bool.not_eq_false', beq_iff_eq, beq_eq_false_iff_ne, bne_eq_false_iff_eq, bne_iff_ne, ne_eq, Int.not_lt, Int.not_le, Bool.true_eq_false, Bool.false_eq_true] at c1
          all_goals
            refine AWP_skip ?_
            simp (maxSteps := 2000000) only [go_sem, Nat.reduceEqDiff, Nat.reduceMul, Nat.reduceAdd, Nat.reduceBEq, Nat.reduceLT, Nat.reduceLeDiff, Nat.reducePow, reduceIte, reduceDIte, Nat.reduceSub, Nat.reduceBNe, Nat.reduceGT, Int.reduceNeg, reduceCtorEq, Int.reduceToNat]
            refine hK8 _ ?_
            refine AWP_seq_k fun K10 hK10 => ?_
            refine AWP_block ?_
            refine AWP_seq_k fun K11 hK11 => ?_
            have hw : (IntKind.i64.wrap ((k : Int) - 1)).toNat = k - 1 := by rw [wrapI (by omega)]; omega
            have hw1 : 0 < k → 0 ≤ IntKind.i64.wrap ((k : Int) - 1) ∧ IntKind.i64.wrap ((k : Int) - 1) < ps.length := fun h => by rw [wrapI (by omega)]; omega
            have hprev : 0 < k → frB (ps.getD (k - 1) (0, 0)).1 (ps.getD (k - 1) (0, 0)).2 = true := fun h => by have := List.all_eq_true.1 hp (k - 1) (List.mem_range.2 (by omega)); simp only [tunQ, Bool.and_eq_true] at this; exact this.1
            refine AWP_draw (G := G) (T := T_specDiv) T_specDiv_ok mixed
              [[], [0], [0, 1], [0, 1, 2], [], [0, 1, 2, 3, 4], [0, 1, 2, 3, 4, 5], [0, 1, 2, 3, 4, 5, 6], [0, 1, 2, 3, 4, 5, 6, 7], [0, 1, 2, 3, 4, 5, 6, 7, 8], [0, 1, 2, 3, 4, 5, 6, 7, 8, 9], [0, 1, 2, 3, 4, 5, 6, 7, 8, 9, 10], [0, 1, 2, 3, 4, 5, 6, 7, 8, 9, 10, 11], [0, 1, 2, 3, 4, 5, 6, 7, 8, 9, 10, 11, 12], [0, 1, 2, 3, 4, 5, 6, 7, 8, 9], [0, 1, 2, 3, 4, 5, 6, 7, 8, 9, 10, 11, 12, 13, 14], [0, 1, 2, 3, 4, 5, 6, 7, 8, 9, 10, 11, 12, 13, 14, 15], [0, 1, 2, 3, 4, 5, 6, 7, 8, 9], [0, 1, 2, 3, 4, 5, 6, 7, 8, 9, 17], [0, 1, 2, 3, 4, 5, 6, 7, 8, 9, 17, 18], [0, 1, 2, 3, 4, 5, 6, 7, 8, 9, 17, 18, 19], [0, 1, 2, 3, 4, 5, 6, 7, 8, 9, 10, 11, 12, 13, 14, 15, 16, 17, 18, 19, 20], [0, 1, 2, 3, 4, 5, 6, 7, 8, 9, 10, 11, 12, 13, 14, 15, 16, 17, 18, 19, 20, 21], [0, 1, 2, 3, 4, 5, 6, 7, 8, 9, 10, 11, 12, 13, 14, 15, 16, 17, 18, 19, 20, 21, 22], [0, 1, 2, 3, 4, 5, 6, 7, 8, 9, 10, 11, 12, 13, 14, 15, 16, 17, 18, 19, 20, 21, 22, 23], [0, 1, 2, 3, 4, 5, 6, 7, 8, 9, 10, 11, 12, 13, 14, 15, 16, 17, 18, 19, 20, 21, 22, 23, 24], [0, 1, 2, 3, 4, 5, 6, 7, 8, 9, 10, 11, 12, 13, 14, 15, 16, 17, 18, 19, 20, 21, 22, 23, 24, 25], [0, 1, 2, 3, 4, 5, 6, 7, 8, 9, 10, 11, 12, 13, 14, 15, 16, 17, 18, 19, 20, 21, 22, 23, 24, 25, 26], [0, 1, 2, 3, 4, 5, 6, 7, 8, 9, 10, 11, 12, 13, 14, 15, 16, 17, 18, 19, 20, 21, 22, 23, 24, 25, 26, 27], [0, 1, 2, 3, 4, 5, 6, 7, 8, 9, 10, 11, 12, 13, 14, 15, 16, 17, 18, 19, 20, 21, 22, 23, 24, 25, 26, 27, 28], [0, 1, 2, 3, 4, 5, 6, 7, 8, 9, 10, 11, 12, 13, 14, 15, 16, 17, 18, 19, 20, 21, 22, 23, 24, 25, 26, 27, 28, 29], [0, 1, 2, 3, 4, 5, 6, 7, 8, 9, 10, 11, 12, 13, 14, 15, 16, 17, 18, 19, 20, 21, 22, 23, 24, 25, 26, 27, 28, 29, 30], [0, 1, 2, 3, 4, 5, 6, 7, 8, 9, 10, 11, 12, 13, 14, 15, 16, 17, 18, 19, 20, 21, 22, 23, 24, 25, 26, 27], [0, 1, 2, 3, 4, 5, 6, 7, 8, 9, 10, 11, 12, 13, 14, 15, 16, 17, 18, 19, 20, 21, 22, 23, 24, 25, 26, 27, 32], [0, 1, 2, 3, 4, 5, 6, 7, 8, 9, 10, 11, 12, 13, 14, 15, 16, 17, 18, 19, 20, 21, 22, 23, 24, 25, 26, 27, 28, 29, 30, 31, 32, 33], [0, 1, 2, 3, 4, 5, 6, 7, 8, 9, 10, 11, 12, 13, 14, 15, 16, 17, 18, 19, 20, 21, 22, 23, 24, 25, 26, 27, 28, 29, 30, 31, 32, 33, 34], [0, 1, 2, 3, 4, 5, 6, 7, 8, 9, 10, 11, 12, 13, 14, 15, 16, 17, 18, 19, 20, 21, 22, 23, 24, 25, 26, 27], [0, 1, 2, 3, 4, 5, 6, 7, 8, 9, 10, 11, 12, 13, 14, 15, 16, 17, 18, 19, 20, 21, 22, 23, 24, 25, 26, 27, 36], [0, 1, 2, 3, 4, 5, 6, 7, 8, 9, 10, 11, 12, 13, 14, 15, 16, 17, 18, 19, 20, 21, 22, 23, 24, 25, 26, 27, 36, 37], [0, 1, 2, 3, 4, 5, 6, 7, 8, 9, 10, 11, 12, 13, 14, 15, 16, 17, 18, 19, 20, 21, 22, 23, 24, 25, 26, 27, 36, 37, 38], [0, 1, 2, 3, 4, 5, 6, 7, 8, 9, 10, 11, 12, 13, 14, 15, 16, 17, 18, 19, 20, 21, 22, 23, 24, 25, 26, 27], [0, 1, 2, 3, 4, 5, 6, 7, 8, 9, 10, 11, 12, 13, 14, 15, 16, 17, 18, 19, 20, 21, 22, 23, 24, 25, 26, 27, 36, 37, 38, 39, 40], [0, 1, 2, 3, 4, 5, 6, 7, 8, 9, 10, 11, 12, 13, 14, 15, 16, 17, 18, 19, 20, 21, 22, 23, 24, 25, 26, 27, 36, 37, 38, 39, 40, 41], [0, 1, 2, 3, 4, 5, 6, 7, 8, 9, 10, 11, 12, 13, 14, 15, 16, 17, 18, 19, 20, 21, 22, 23, 24, 25, 26, 27, 28, 29, 30, 31, 32, 33, 34, 35, 36, 37, 38, 39, 40, 41, 42], [0, 1, 2, 3, 4, 5, 6, 7, 8, 9, 10, 11, 12, 13, 14, 15, 16, 17, 18, 19, 20, 21, 22, 23, 24, 25, 26, 27, 28, 29, 30, 31, 32, 33, 34, 35, 36, 37, 38, 39, 40, 41, 42, 43], [0, 1, 2, 3, 4, 5, 6, 7, 8, 9, 10, 11, 12, 13, 14, 15, 16, 17, 18, 19, 20, 21, 22, 23, 24, 25, 26, 27, 28, 29, 30, 31, 32, 33, 34, 35, 36, 37, 38, 39, 40, 41, 42, 43, 44], [0, 1, 2, 3, 4, 5, 6, 7, 8, 9, 10, 11, 12, 13, 14, 15, 16, 17, 18, 19, 20, 21, 22, 23, 24, 25, 26, 27, 28, 29, 30, 31, 32, 33, 34, 35, 36, 37, 38, 39, 40, 41, 42, 43, 44, 45]]
              [[], [], [], [], [], [], [], [], [], [], [], [], [], [], [], [], [], [], [], [], [], [], [], [], [], [], [], [], [], [], [], [], [], [], [], [], [], [], [], [], [], [], [], [], [], [], []]
              [[], [], [], [], [], [], [], [], [], [], [], [], [], [], [], [], [], [], [], [], [], [], [], [], [], [], [], [], [], [], [], [], [], [], [], [], [], [], [], [], [], [], [], [], [], [], []] (by kernel_rfl) (by kernel_rfl) (adrawR_ok (acc := []) ?_)
            simp (maxSteps := 2000000) only [hw, go_sem, Nat.reduceEqDiff, Nat.reduceMul, Nat.reduceAdd, Nat.reduceBEq, Nat.reduceLT, Nat.reduceLeDiff, Nat.reducePow, reduceIte, reduceDIte, Nat.reduceSub, Nat.reduceBNe, Nat.reduceGT, Int.reduceNeg, reduceCtorEq, Int.reduceToNat]
            repeat' (first | (with_reducible refine And.intro (by first | exact chk_leaf (by kernel_rfl) | omega | exact hw1 (by omega) | exact ⟨by assumption, hfo⟩ | exact ⟨hprev (by omega), by assumption⟩) ?_) | (with_reducible refine gcase_dt (fun g6 => ?_) (fun g6 => ?_)) | (with_reducible refine gcase_df (fun g6 => ?_) (fun g6 => ?_)) | (with_reducible refine gcase_nt (fun g6 => ?_) (fun g6 => ?_)) | (with_reducible refine gcase_nf (fun g6 => ?_) (fun g6 => ?_)) | (with_reducible refine gcase_mk (fun g6 => ?_) (fun g6 => ?_)))
            all_goals
              refine hK11 _ ?_
              refine AWP_cond rfl ?_ ?_
              · intro c2
                try simp only [decide_eq_true_eq, decide_eq_false_iff_not, Bool.not_eq_true', Bool.not_eq_false', beq_iff_eq, beq_eq_false_iff_ne, bne_eq_false_iff_eq, bne_iff_ne, ne_eq, Int.not_lt, Int.not_le, Bool.true_eq_false, Bool.false_eq_true] at c2
                all_goals
                  refine AWP_seq_k fun K12 hK12 => ?_
                  refine AWP_region (G := G) (T := T_specDiv) T_specDiv_ok ?_
                  simp (maxSteps := 2000000) only [go_sem, Nat.reduceEqDiff, Nat.reduceMul, Nat.reduceAdd, Nat.reduceBEq, Nat.reduceLT, Nat.reduceLeDiff, Nat.reducePow, reduceIte, reduceDIte, Nat.reduceSub, Nat.reduceBNe, Nat.reduceGT, Int.reduceNeg, reduceCtorEq, Int.reduceToNat]
                  repeat (with_reducible refine And.intro (by first | omega) ?_)
                  refine hK12 _ ?_
                  refine AWP_ret ?_
                  simp (maxSteps := 2000000) only [hres, go_sem, Nat.reduceEqDiff, Nat.reduceMul, Nat.reduceAdd, Nat.reduceBEq, Nat.reduceLT, Nat.reduceLeDiff, Nat.reducePow, reduceIte, reduceDIte, Nat.reduceSub, Nat.reduceBNe, Nat.reduceGT, Int.reduceNeg, reduceCtorEq, Int.reduceToNat]
                  first
                    | exact finOk_mk (by rfl) (by decide)
                    | refine ⟨?_, finOk_mk (by rfl) (by decide)⟩
                      rw [hA]; exact (rng_stop (k := k) (by omega) (by clear hK1 hK2 hK3 hK5 hK6 hL7 hK8 hK9 hK10 hK11 hK12; simp only [tunQ, tunP, Bool.and_eq_false_iff, Bool.or_eq_false_iff, decide_eq_false_iff_not]; simp only [cmpP]; first | (left; assumption) | (right; omega))).symm
              · intro c2
                try simp only [decide_eq_true_eq, decide_eq_false_iff_not, Bool.not_eq_true', Bool.not_eq_false', beq_iff_eq, beq_eq_false_iff_ne, bne_eq_false_iff_eq, bne_iff_ne, ne_eq, Int.not_lt, Int.not_le, Bool.true_eq_false, Bool.false_eq_true] at c2
                all_goals
                  refine AWP_skip ?_
                  simp (maxSteps := 2000000) only [go_sem, Nat.reduceEqDiff, Nat.reduceMul, Nat.reduceAdd, Nat.reduceBEq, Nat.reduceLT, Nat.reduceLeDiff, Nat.reducePow, reduceIte, reduceDIte, Nat.reduceSub, Nat.reduceBNe, Nat.reduceGT, Int.reduceNeg, reduceCtorEq, Int.reduceToNat]
                  refine hK10 _ ?_
                  refine AWP_region (G := G) (T := T_specDiv) T_specDiv_ok ?_
                  simp (maxSteps := 2000000) only [go_sem, Nat.reduceEqDiff, Nat.reduceMul, Nat.reduceAdd, Nat.reduceBEq, Nat.reduceLT, Nat.reduceLeDiff, Nat.reducePow, reduceIte, reduceDIte, Nat.reduceSub, Nat.reduceBNe, Nat.reduceGT, Int.reduceNeg, reduceCtorEq, Int.reduceToNat]
                  repeat (with_reducible refine And.intro (by first | omega) ?_)
                  have hq : tunQ (on, od) ps k = true := by clear hK1 hK2 hK3 hK5 hK6 hL7 hK8 hK9 hK10 hK11; simp only [tunQ, tunP, Bool.and_eq_true, Bool.or_eq_true, decide_eq_true_eq]; simp only [cmpP]; exact ⟨by assumption, by omega⟩
                  refine hL7 ⟨k + 1, by omega, rng_next hp hq⟩ _ (Wk_to (by rfl) ?_) ?_
                  · skip
                    simp (maxSteps := 2000000) only [go_sem, Nat.reduceEqDiff, Nat.reduceMul, Nat.reduceAdd, Nat.reduceBEq, Nat.reduceLT, Nat.reduceLeDiff, Nat.reducePow, reduceIte, reduceDIte, Nat.reduceSub, Nat.reduceBNe, Nat.reduceGT, Int.reduceNeg, reduceCtorEq, Int.reduceToNat]
                    exact wk (by omega)
                  · skip
                    first | (simp only []; omega) | omega | (simp; omega)
        · intro c1
          try simp only [decide_eq_true_eq, decide_eq_false_iff_not, Bool.not_eq_true', Bool.not_eq_false', beq_iff_eq, beq_eq_false_iff_ne, bne_eq_false_iff_eq, bne_iff_ne, ne_eq, Int.not_lt, Int.not_le, Bool.true_eq_false, Bool.false_eq_true] at c1
          all_goals
            refine AWP_exit ?_
            simp (maxSteps := 2000000) only [go_sem, Nat.reduceEqDiff, Nat.reduceMul, Nat.reduceAdd, Nat.reduceBEq, Nat.reduceLT, Nat.reduceLeDiff, Nat.reducePow, reduceIte, reduceDIte, Nat.reduceSub, Nat.reduceBNe, Nat.reduceGT, Int.reduceNeg, reduceCtorEq, Int.reduceToNat]
            refine hK5 _ ?_
            refine AWP_seq_k fun K13 hK13 => ?_
            refine AWP_region (G := G) (T := T_specDiv) T_specDiv_ok ?_
            simp (maxSteps := 2000000) only [go_sem, Nat.reduceEqDiff, Nat.reduceMul, Nat.reduceAdd, Nat.reduceBEq, Nat.reduceLT, Nat.reduceLeDiff, Nat.reducePow, reduceIte, reduceDIte, Nat.reduceSub, Nat.reduceBNe, Nat.reduceGT, Int.reduceNeg, reduceCtorEq, Int.reduceToNat]
            repeat (with_reducible refine And.intro (by first | omega) ?_)
            refine hK13 _ ?_
            refine AWP_ret ?_
            simp (maxSteps := 2000000) only [hres, go_sem, Nat.reduceEqDiff, Nat.reduceMul, Nat.reduceAdd, Nat.reduceBEq, Nat.reduceLT, Nat.reduceLeDiff, Nat.reducePow, reduceIte, reduceDIte, Nat.reduceSub, Nat.reduceBNe, Nat.reduceGT, Int.reduceNeg, reduceCtorEq, Int.reduceToNat]
            first
              | exact finOk_mk (by rfl) (by decide)
              | refine ⟨?_, finOk_mk (by rfl) (by decide)⟩
                rw [hA]; exact (rng_done hp (by omega) hk).symm

theorem l15Ok_fn : FnOk Try.prog 28 := fnOk_of Try.func28 rfl (by decide)

def T_l15Ok : Tab := fun f => if f = 28 then some K_l15Ok else T_specDiv f
theorem T_l15Ok_ok : TabOk Try.prog T_l15Ok := fun f k h => by
  unfold T_l15Ok at h
  split at h
  · rename_i e; cases h; subst e; exact ⟨l15Ok_ok, l15Ok_fn⟩
  · exact T_specDiv_ok f k h
attribute [go_sem] T_l15Ok K_l15Ok

end Go.Proofs.Ytpngabaeekjhmaa
