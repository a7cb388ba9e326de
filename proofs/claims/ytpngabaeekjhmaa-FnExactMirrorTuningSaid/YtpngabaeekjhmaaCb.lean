/-
  Contracts of functions: MirrorTuning.
-/
import Derived.Test.YtpngabaeekjhmaaMir
namespace Go.Proofs.Ytpngabaeekjhmaa
open Go.RowKit
set_option linter.unusedSimpArgs false
set_option linter.unusedVariables false

def K_specMir : Con := ⟨[.val (.prod (.prod (.int .i64) (.int .i64)) (.prod (.prod (.int .i64) (.int .i64)) (.row 29 (.prod (.int .i64) (.int .i64)))))], [⟨(.prod (.prod (.int .i64) (.int .i64)) (.prod (.prod (.int .i64) (.int .i64)) (.row 29 (.prod (.int .i64) (.int .i64))))), true⟩, ⟨.int .i64, true⟩], fun x => x.1.2.2.length ≤ 9223372036854775807, fun x => mirR x.1.1 x.1.2.1 x.1.2.2⟩
set_option maxRecDepth 100000 in
set_option maxHeartbeats 1000000 in
theorem specMir_ok : PureT Try.prog 23 K_specMir := by
  refine pure_of_body Try.func23 rfl ?_
  have hres : Try.f23.results.toList = [.cell 2 32, .tmp 3] := rfl
  rintro ⟨⟨⟨(bn : Int), (bd : Int)⟩, ⟨(on : Int), (od : Int)⟩, (ps : List (Int × Int))⟩, _⟩ hl
  simp only [K_specMir, St.init, Try.ntmps23, go_sem, Nat.reduceEqDiff, Nat.reduceMul, Nat.reduceAdd, Nat.reduceBEq, Nat.reduceLT, Nat.reduceLeDiff, Nat.reducePow, reduceIte, reduceDIte, Nat.reduceSub, Nat.reduceBNe, Nat.reduceGT, Int.reduceNeg, reduceCtorEq, Int.reduceToNat] at hl ⊢
  refine AWP_seq_k fun K1 hK1 => ?_
  refine AWP_region (G := G) (T := T_specFok) T_specFok_ok ?_
  simp (maxSteps := 2000000) only [go_sem, Nat.reduceEqDiff, Nat.reduceMul, Nat.reduceAdd, Nat.reduceBEq, Nat.reduceLT, Nat.reduceLeDiff, Nat.reducePow, reduceIte, reduceDIte, Nat.reduceSub, Nat.reduceBNe, Nat.reduceGT, Int.reduceNeg, reduceCtorEq, Int.reduceToNat]
  repeat (with_reducible refine And.intro (by first | omega | exact hl) ?_)
  refine hK1 _ ?_
  refine AWP_seq_k fun K2 hK2 => ?_
  refine AWP_seq_k fun K3 hK3 => ?_
  refine AWP_region (G := G) (T := T_specFok) T_specFok_ok ?_
  simp (maxSteps := 2000000) only [go_sem, Nat.reduceEqDiff, Nat.reduceMul, Nat.reduceAdd, Nat.reduceBEq, Nat.reduceLT, Nat.reduceLeDiff, Nat.reducePow, reduceIte, reduceDIte, Nat.reduceSub, Nat.reduceBNe, Nat.reduceGT, Int.reduceNeg, reduceCtorEq, Int.reduceToNat]
  repeat (with_reducible refine And.intro (by first | omega | exact hl) ?_)
  refine hK3 _ ?_
  refine AWP_cond rfl ?_ ?_
  · intro c0
    try simp only [decide_eq_true_eq, decide_eq_false_iff_not, Bool.not_eq_true', Bool.not_eq_false', beq_iff_eq, beq_eq_false_iff_ne, bne_eq_false_iff_eq, bne_iff_ne, ne_eq, Int.not_lt, Int.not_le] at c0
    refine AWP_seq_k fun K4 hK4 => ?_
    refine AWP_region (G := G) (T := T_specFok) T_specFok_ok ?_
    simp (maxSteps := 2000000) only [go_sem, Nat.reduceEqDiff, Nat.reduceMul, Nat.reduceAdd, Nat.reduceBEq, Nat.reduceLT, Nat.reduceLeDiff, Nat.reducePow, reduceIte, reduceDIte, Nat.reduceSub, Nat.reduceBNe, Nat.reduceGT, Int.reduceNeg, reduceCtorEq, Int.reduceToNat]
    repeat (with_reducible refine And.intro (by first | omega | exact hl) ?_)
    refine hK4 _ ?_
    refine AWP_ret ?_
    simp (maxSteps := 2000000) only [hres, go_sem, Nat.reduceEqDiff, Nat.reduceMul, Nat.reduceAdd, Nat.reduceBEq, Nat.reduceLT, Nat.reduceLeDiff, Nat.reducePow, reduceIte, reduceDIte, Nat.reduceSub, Nat.reduceBNe, Nat.reduceGT, Int.reduceNeg, reduceCtorEq, Int.reduceToNat]
    first
      | exact finOk_mk (by rfl) (by decide)
      | refine ⟨?_, finOk_mk (by rfl) (by decide)⟩
        exact (mirR_bad (bs := (bn, bd)) (oc := (on, od)) c0).symm
  · intro c0
    try simp only [decide_eq_true_eq, decide_eq_false_iff_not, Bool.not_eq_true', Bool.not_eq_false', beq_iff_eq, beq_eq_false_iff_ne, bne_eq_false_iff_eq, bne_iff_ne, ne_eq, Int.not_lt, Int.not_le] at c0
    obtain ⟨gb, go, hn1, hn2⟩ := tunB_parts c0
    have hn3 : 1 ≤ ps.length := hn1
    have hn4 : ps.length ≤ 24 := hn2
    have hfa := tunB_frAll c0
    have e1 : IntKind.i64.wrap ((ps.length : Int) - 1) = ((ps.length - 1 : Nat) : Int) := by rw [wrapI (by omega)]; omega
    refine AWP_skip ?_
    simp (maxSteps := 2000000) only [go_sem, Nat.reduceEqDiff, Nat.reduceMul, Nat.reduceAdd, Nat.reduceBEq, Nat.reduceLT, Nat.reduceLeDiff, Nat.reducePow, reduceIte, reduceDIte, Nat.reduceSub, Nat.reduceBNe, Nat.reduceGT, Int.reduceNeg, reduceCtorEq, Int.reduceToNat]
    refine hK2 _ ?_
    refine AWP_seq_k fun K5 hK5 => ?_
    refine AWP_draw (G := G) (T := T_specFok) T_specFok_ok mixed
      [[], [0], [], [2], [], [4], [0, 1, 2, 3, 4, 5], [], [0, 1, 2, 3, 4, 5, 6, 7]]
      [[164, 356], [164, 356], [164, 356], [164, 356], [164], [164], [164], [356], []]
      [[], [], [], [], [], [356], [], [164], []] (by kernel_rfl) (by kernel_rfl) (adrawR_ok (acc := []) ?_)
    simp (maxSteps := 2000000) only [go_sem, Nat.reduceEqDiff, Nat.reduceMul, Nat.reduceAdd, Nat.reduceBEq, Nat.reduceLT, Nat.reduceLeDiff, Nat.reducePow, reduceIte, reduceDIte, Nat.reduceSub, Nat.reduceBNe, Nat.reduceGT, Int.reduceNeg, reduceCtorEq, Int.reduceToNat]
    repeat (with_reducible refine And.intro (by first | exact chk_leaf (by kernel_rfl) | omega | exact hl) ?_)
    refine hK5 _ ?_
    refine AWP_seq_k fun K6 hK6 => ?_
    refine AWP_seq_k fun K7 hK7 => ?_
    refine AWP_region (G := G) (T := T_specFok) T_specFok_ok ?_
    simp (maxSteps := 2000000) only [e1, go_sem, Nat.reduceEqDiff, Nat.reduceMul, Nat.reduceAdd, Nat.reduceBEq, Nat.reduceLT, Nat.reduceLeDiff, Nat.reducePow, reduceIte, reduceDIte, Nat.reduceSub, Nat.reduceBNe, Nat.reduceGT, Int.reduceNeg, reduceCtorEq, Int.reduceToNat]
    repeat (with_reducible refine And.intro (by first | omega | exact hl) ?_)
    refine hK7 _ ?_
    refine AWP_block ?_
    refine AWP_loop_k (ι := { s : Nat × List (Int × Int) // s.1 < ps.length ∧ s.2.length + s.1 = ps.length ∧ mirL (on, od) ps (ps.length - 1) [(1, 1)] = mirL (on, od) ps s.1 s.2 }) (fun k => ⟨[.c .bot, .c (.po 116 0), .c (.po 132 0), .c (.sc (.int .i64 (0))), .c (.po 164 0), .c (.sc (.int .i64 (k.1.1))), .c .bot, .c .bot, .c .bot, .c .bot, .c .bot, .c .bot, .c .bot, .c .bot, .c .bot, .c .bot, .c .bot, .c .bot, .c .bot, .c .bot, .c .bot, .c .bot, .c .bot, .c .bot, .c .bot, .c .bot, .c .bot, .c .bot, .c .bot, .c .bot, .c .bot, .c .bot, .c .bot, .c .bot, .c .bot, .c .bot, .c .bot, .c .bot, .c .bot, .c .bot, .c .bot, .c .bot, .c .bot, .c .bot, .c .bot, .c .bot, .c .bot], [(116, .box [.sc (.int .i64 bn), .sc (.int .i64 bd), .sc (.int .i64 on), .sc (.int .i64 od), .rd [] 29 (.prod (.int .i64) (.int .i64)) ps]), (132, .box [.sc (.int .i64 0), .sc (.int .i64 0), .sc (.int .i64 0), .sc (.int .i64 0), .sc (.slice none 0 0)]), (164, .box [.sc (.int .i64 bn), .sc (.int .i64 bd), .sc (.int .i64 on), .sc (.int .i64 od), .ow 356]), (356, .row 29 (.prod (.int .i64) (.int .i64)) k.1.2 [])]⟩) (fun k => k.1.1) ⟨(ps.length - 1, [(1, 1)]), by simp only; omega, by simp only [List.length_cons, List.length_nil]; omega, rfl⟩ ?_ ?_
    · refine Wk_to (by rfl) ?_
      simp (maxSteps := 2000000) only [go_sem, Nat.reduceEqDiff, Nat.reduceMul, Nat.reduceAdd, Nat.reduceBEq, Nat.reduceLT, Nat.reduceLeDiff, Nat.reducePow, reduceIte, reduceDIte, Nat.reduceSub, Nat.reduceBNe, Nat.reduceGT, Int.reduceNeg, reduceCtorEq, Int.reduceToNat]
      all_goals first | rfl | simp
    rintro ⟨⟨j, acc⟩, hj, hla, hp⟩ K8 hL8
    simp only at hj hla hp
    refine AWP_seq_k fun K9 hK9 => ?_
    refine AWP_seq_k fun K10 hK10 => ?_
    refine AWP_region (G := G) (T := T_specFok) T_specFok_ok ?_
    simp (maxSteps := 2000000) only [go_sem, Nat.reduceEqDiff, Nat.reduceMul, Nat.reduceAdd, Nat.reduceBEq, Nat.reduceLT, Nat.reduceLeDiff, Nat.reducePow, reduceIte, reduceDIte, Nat.reduceSub, Nat.reduceBNe, Nat.reduceGT, Int.reduceNeg, reduceCtorEq, Int.reduceToNat]
    repeat (with_reducible refine And.intro (by first | omega | exact hl) ?_)
    refine hK10 _ ?_
    refine AWP_cond rfl ?_ ?_
    · intro c1
      try simp only [decide_eq_true_eq, decide_eq_false_iff_not, Bool.not_eq_true', Bool.not_eq_false', beq_iff_eq, beq_eq_false_iff_ne, bne_eq_false_iff_eq, bne_iff_ne, ne_eq, Int.not_lt, Int.not_le] at c1
      refine AWP_skip ?_
      simp (maxSteps := 2000000) only [go_sem, Nat.reduceEqDiff, Nat.reduceMul, Nat.reduceAdd, Nat.reduceBEq, Nat.reduceLT, Nat.reduceLeDiff, Nat.reducePow, reduceIte, reduceDIte, Nat.reduceSub, Nat.reduceBNe, Nat.reduceGT, Int.reduceNeg, reduceCtorEq, Int.reduceToNat]
      refine hK9 _ ?_
      refine AWP_seq_k fun K11 hK11 => ?_
      refine AWP_block ?_
      refine AWP_seq_k fun K12 hK12 => ?_
      refine AWP_draw (G := G) (T := T_specFok) T_specFok_ok mixed
        [[], [0], [], [2], [], [2, 3, 4], [2, 3, 4, 5], [0, 1, 2, 3, 4, 5, 6], [0, 1, 2, 3, 4, 5, 6, 7], [0, 1, 2, 3, 4, 5, 6, 7, 8], [0, 1, 2, 3, 4, 5, 6, 7, 8], [], [0, 1, 2, 3, 4, 5, 6, 7, 8, 9, 11], [0, 1, 2, 3, 4, 5, 6, 7, 8, 9, 10, 11, 12]]
        [[196], [196], [196], [196], [196], [196], [196], [196], [196], [196], [196], [], [], []]
        [[], [], [], [], [], [], [], [], [], [], [], [196], [196], []] (by kernel_rfl) (by kernel_rfl) (adrawR_ok (acc := []) ?_)
      simp (maxSteps := 2000000) only [go_sem, Nat.reduceEqDiff, Nat.reduceMul, Nat.reduceAdd, Nat.reduceBEq, Nat.reduceLT, Nat.reduceLeDiff, Nat.reducePow, reduceIte, reduceDIte, Nat.reduceSub, Nat.reduceBNe, Nat.reduceGT, Int.reduceNeg, reduceCtorEq, Int.reduceToNat]
      repeat (with_reducible refine And.intro (by first | exact chk_leaf (by kernel_rfl) | omega | exact hl) ?_)
      refine hK12 _ ?_
      refine AWP_seq_k fun K13 hK13 => ?_
      refine AWP_seq_k fun K14 hK14 => ?_
      refine AWP_region (G := G) (T := T_specFok) T_specFok_ok ?_
      simp (maxSteps := 2000000) only [go_sem, Nat.reduceEqDiff, Nat.reduceMul, Nat.reduceAdd, Nat.reduceBEq, Nat.reduceLT, Nat.reduceLeDiff, Nat.reducePow, reduceIte, reduceDIte, Nat.reduceSub, Nat.reduceBNe, Nat.reduceGT, Int.reduceNeg, reduceCtorEq, Int.reduceToNat]
      repeat (with_reducible refine And.intro (by first | omega | exact hl) ?_)
      refine hK14 _ ?_
      refine AWP_cond rfl ?_ ?_
      · intro c2
        try simp only [decide_eq_true_eq, decide_eq_false_iff_not, Bool.not_eq_true', Bool.not_eq_false', beq_iff_eq, beq_eq_false_iff_ne, bne_eq_false_iff_eq, bne_iff_ne, ne_eq, Int.not_lt, Int.not_le] at c2
        refine AWP_seq_k fun K15 hK15 => ?_
        refine AWP_region (G := G) (T := T_specFok) T_specFok_ok ?_
        simp (maxSteps := 2000000) only [go_sem, Nat.reduceEqDiff, Nat.reduceMul, Nat.reduceAdd, Nat.reduceBEq, Nat.reduceLT, Nat.reduceLeDiff, Nat.reducePow, reduceIte, reduceDIte, Nat.reduceSub, Nat.reduceBNe, Nat.reduceGT, Int.reduceNeg, reduceCtorEq, Int.reduceToNat]
        repeat (with_reducible refine And.intro (by first | omega | exact hl) ?_)
        refine hK15 _ ?_
        refine AWP_ret ?_
        simp (maxSteps := 2000000) only [hres, go_sem, Nat.reduceEqDiff, Nat.reduceMul, Nat.reduceAdd, Nat.reduceBEq, Nat.reduceLT, Nat.reduceLeDiff, Nat.reducePow, reduceIte, reduceDIte, Nat.reduceSub, Nat.reduceBNe, Nat.reduceGT, Int.reduceNeg, reduceCtorEq, Int.reduceToNat]
        first
          | exact finOk_mk (by rfl) (by decide)
          | refine ⟨?_, finOk_mk (by rfl) (by decide)⟩
            rw [mirR_none (bs := (bn, bd)) (oc := (on, od)) c0 (hp.trans (mirL_no (by omega) c2))]
      · intro c2
        try simp only [decide_eq_true_eq, decide_eq_false_iff_not, Bool.not_eq_true', Bool.not_eq_false', beq_iff_eq, beq_eq_false_iff_ne, bne_eq_false_iff_eq, bne_iff_ne, ne_eq, Int.not_lt, Int.not_le] at c2
        refine AWP_skip ?_
        simp (maxSteps := 2000000) only [go_sem, Nat.reduceEqDiff, Nat.reduceMul, Nat.reduceAdd, Nat.reduceBEq, Nat.reduceLT, Nat.reduceLeDiff, Nat.reducePow, reduceIte, reduceDIte, Nat.reduceSub, Nat.reduceBNe, Nat.reduceGT, Int.reduceNeg, reduceCtorEq, Int.reduceToNat]
        refine hK13 _ ?_
        refine AWP_region (G := G) (T := T_specFok) T_specFok_ok ?_
        simp (maxSteps := 2000000) only [go_sem, Nat.reduceEqDiff, Nat.reduceMul, Nat.reduceAdd, Nat.reduceBEq, Nat.reduceLT, Nat.reduceLeDiff, Nat.reducePow, reduceIte, reduceDIte, Nat.reduceSub, Nat.reduceBNe, Nat.reduceGT, Int.reduceNeg, reduceCtorEq, Int.reduceToNat]
        repeat (with_reducible refine And.intro (by first | omega | exact hl) ?_)
        refine hK11 _ ?_
        refine AWP_region (G := G) (T := T_specFok) T_specFok_ok ?_
        simp (maxSteps := 2000000) only [go_sem, Nat.reduceEqDiff, Nat.reduceMul, Nat.reduceAdd, Nat.reduceBEq, Nat.reduceLT, Nat.reduceLeDiff, Nat.reducePow, reduceIte, reduceDIte, Nat.reduceSub, Nat.reduceBNe, Nat.reduceGT, Int.reduceNeg, reduceCtorEq, Int.reduceToNat]
        repeat (with_reducible refine And.intro (by first | omega | exact hl) ?_)
        refine hL8 ⟨(j - 1, acc ++ [(divF on od (ps.getD j (0, 0)).1 (ps.getD j (0, 0)).2).1]), by simp only; omega, by simp only [List.length_append, List.length_cons, List.length_nil]; omega, hp.trans (mirL_yes (by omega) c2)⟩ _ (Wk_to (by rfl) ?_) ?_
        · skip
          simp (maxSteps := 2000000) only [go_sem, Nat.reduceEqDiff, Nat.reduceMul, Nat.reduceAdd, Nat.reduceBEq, Nat.reduceLT, Nat.reduceLeDiff, Nat.reducePow, reduceIte, reduceDIte, Nat.reduceSub, Nat.reduceBNe, Nat.reduceGT, Int.reduceNeg, reduceCtorEq, Int.reduceToNat]
          all_goals first | rfl | (rw [wrapI (by omega)]; show (j : Int) - 1 = ((j - 1 : Nat) : Int); omega) | trace_state
        · skip
          first | (simp only []; omega) | omega | (simp; omega)
    · intro c1
      try simp only [decide_eq_true_eq, decide_eq_false_iff_not, Bool.not_eq_true', Bool.not_eq_false', beq_iff_eq, beq_eq_false_iff_ne, bne_eq_false_iff_eq, bne_iff_ne, ne_eq, Int.not_lt, Int.not_le] at c1
      refine AWP_exit ?_
      simp (maxSteps := 2000000) only [go_sem, Nat.reduceEqDiff, Nat.reduceMul, Nat.reduceAdd, Nat.reduceBEq, Nat.reduceLT, Nat.reduceLeDiff, Nat.reducePow, reduceIte, reduceDIte, Nat.reduceSub, Nat.reduceBNe, Nat.reduceGT, Int.reduceNeg, reduceCtorEq, Int.reduceToNat]
      refine hK6 _ ?_
      refine AWP_seq_k fun K16 hK16 => ?_
      refine AWP_region (G := G) (T := T_specFok) T_specFok_ok ?_
      simp (maxSteps := 2000000) only [go_sem, Nat.reduceEqDiff, Nat.reduceMul, Nat.reduceAdd, Nat.reduceBEq, Nat.reduceLT, Nat.reduceLeDiff, Nat.reducePow, reduceIte, reduceDIte, Nat.reduceSub, Nat.reduceBNe, Nat.reduceGT, Int.reduceNeg, reduceCtorEq, Int.reduceToNat]
      repeat (with_reducible refine And.intro (by first | omega | exact hl) ?_)
      refine hK16 _ ?_
      refine AWP_ret ?_
      simp (maxSteps := 2000000) only [hres, go_sem, Nat.reduceEqDiff, Nat.reduceMul, Nat.reduceAdd, Nat.reduceBEq, Nat.reduceLT, Nat.reduceLeDiff, Nat.reducePow, reduceIte, reduceDIte, Nat.reduceSub, Nat.reduceBNe, Nat.reduceGT, Int.reduceNeg, reduceCtorEq, Int.reduceToNat]
      first
        | exact finOk_mk (by rfl) (by decide)
        | refine ⟨?_, finOk_mk (by rfl) (by decide)⟩
          obtain rfl : j = 0 := by omega
          exact (mirR_some (bs := (bn, bd)) (oc := (on, od)) c0 hp).symm

theorem specMir_fn : FnOk Try.prog 23 := fnOk_of Try.func23 rfl (by decide)

def T_specMir : Tab := fun f => if f = 23 then some K_specMir else T_specFok f
theorem T_specMir_ok : TabOk Try.prog T_specMir := fun f k h => by
  unfold T_specMir at h
  split at h
  · rename_i e; cases h; subst e; exact ⟨specMir_ok, specMir_fn⟩
  · exact T_specFok_ok f k h
attribute [go_sem] T_specMir K_specMir

end Go.Proofs.Ytpngabaeekjhmaa
