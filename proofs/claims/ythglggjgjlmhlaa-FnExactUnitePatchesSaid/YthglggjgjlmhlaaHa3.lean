/-
  Contracts of functions: UnitePatches.
-/
import Derived.Test.YthglggjgjlmhlaaGa7
import Derived.Test.YthglggjgjlmhlaaHa2
namespace Go.Proofs.Ythglggjgjlmhlaa
open Go.RowKit
set_option linter.unusedSimpArgs false
set_option linter.unusedVariables false

def T_mHa30 : Tab := fun f => match T_unionCode f with
  | some k => some k
  | none => T_unite f
theorem T_mHa30_ok : TabOk Try.prog T_mHa30 := fun f k h => by
  unfold T_mHa30 at h
  split at h
  · rename_i e; cases h; exact T_unionCode_ok f _ e
  · exact T_unite_ok f k h
attribute [go_sem] T_mHa30 T0


def K_implUnited : Con := ⟨[.val ((.prod (.int .i64) (.prod (.row 24 (.row 2 (.int .i64))) (.prod (.row 140 (.prod (.int .i64) (.prod (.int .i64) (.prod (.int .i64) (.row 2 (.int .i64)))))) (.row 2 (.int .i64)))))), .val ((.prod (.int .i64) (.prod (.row 24 (.row 2 (.int .i64))) (.prod (.row 140 (.prod (.int .i64) (.prod (.int .i64) (.prod (.int .i64) (.row 2 (.int .i64)))))) (.row 2 (.int .i64))))))], [⟨(.prod (.int .i64) (.prod (.row 24 (.row 2 (.int .i64))) (.prod (.row 140 (.prod (.int .i64) (.prod (.int .i64) (.prod (.int .i64) (.row 2 (.int .i64)))))) (.row 2 (.int .i64))))), true⟩, ⟨.int .i64, true⟩], fun _ => True, fun x => unitedP x.1 x.2.1⟩
set_option maxRecDepth 100000 in
set_option maxHeartbeats 4000000 in
theorem implUnited_ok : PureT Try.prog 38 K_implUnited := by
  refine pure_of_body Try.func38 rfl ?_
  have hres : Try.f38.results.toList = [.cell 4 36, .tmp 5] := rfl
  rintro ⟨⟨(pi : Int), (ts : List (List Int)), (ns : List NodeD), (os : List Int)⟩, ⟨(pi2 : Int), (ts2 : List (List Int)), (ns2 : List NodeD), (os2 : List Int)⟩, _⟩ hc hL
  simp only [K_implUnited, lensOk, PK.lenOk, glensOk, GP.lenOk, flensOk, GO.lenOk, olensOk, Ty.lenOk, Ty.flat, Bool.and_true, Bool.true_and, Bool.and_false, Bool.false_and, true_and, and_true, implies_true, forall_const] at hL
  simp only [K_implUnited, St.init, St.initG, Try.ntmps38, go_sem, Nat.reduceEqDiff, Nat.reduceMul, Nat.reduceAdd, Nat.reduceBEq, Nat.reduceLT, Nat.reduceLeDiff, Nat.reducePow, reduceIte, reduceDIte, Nat.reduceSub, Nat.reduceBNe, Nat.reduceGT, Int.reduceNeg, reduceCtorEq, Int.reduceToNat] 
  refine AWP_seq_k fun K1 hK1 => ?_
  refine AWP_region (G := G) (T := T_mHa30) T_mHa30_ok ?_
  simp (maxSteps := 2000000) only [go_sem, Nat.reduceEqDiff, Nat.reduceMul, Nat.reduceAdd, Nat.reduceBEq, Nat.reduceLT, Nat.reduceLeDiff, Nat.reducePow, reduceIte, reduceDIte, Nat.reduceSub, Nat.reduceBNe, Nat.reduceGT, Int.reduceNeg, reduceCtorEq, Int.reduceToNat]
  repeat (with_reducible refine And.intro (by first | omega | exact ⟨rfl, by omega, by omega, by omega⟩) ?_)
  refine hK1 _ ?_
  refine AWP_seq_k fun K2 hK2 => ?_
  refine AWP_seq_k fun K3 hK3 => ?_
  refine AWP_region (G := G) (T := T_mHa30) T_mHa30_ok ?_
  simp (maxSteps := 2000000) only [go_sem, Nat.reduceEqDiff, Nat.reduceMul, Nat.reduceAdd, Nat.reduceBEq, Nat.reduceLT, Nat.reduceLeDiff, Nat.reducePow, reduceIte, reduceDIte, Nat.reduceSub, Nat.reduceBNe, Nat.reduceGT, Int.reduceNeg, reduceCtorEq, Int.reduceToNat]
  repeat (with_reducible refine And.intro (by first | omega | exact ⟨rfl, by omega, by omega, by omega⟩) ?_)
  refine hK3 _ ?_
  refine AWP_seq_k fun K4 hK4 => ?_
  refine AWP_region (G := G) (T := T_mHa30) T_mHa30_ok ?_
  simp (maxSteps := 2000000) only [go_sem, Nat.reduceEqDiff, Nat.reduceMul, Nat.reduceAdd, Nat.reduceBEq, Nat.reduceLT, Nat.reduceLeDiff, Nat.reducePow, reduceIte, reduceDIte, Nat.reduceSub, Nat.reduceBNe, Nat.reduceGT, Int.reduceNeg, reduceCtorEq, Int.reduceToNat]
  repeat (with_reducible refine And.intro (by first | omega | exact ⟨rfl, by omega, by omega, by omega⟩) ?_)
  refine hK4 _ ?_
  refine AWP_cond rfl ?_ ?_
  · intro c0
    try simp only [decide_eq_true_eq, decide_eq_false_iff_not, Bool.not_eq_true', Bool.not_eq_false', beq_iff_eq, beq_eq_false_iff_ne, bne_eq_false_iff_eq, bne_iff_ne, ne_eq, Int.not_lt, Int.not_le] at c0
    refine AWP_seq_k fun K5 hK5 => ?_
    refine AWP_region (G := G) (T := T_mHa30) T_mHa30_ok ?_
    simp (maxSteps := 2000000) only [go_sem, Nat.reduceEqDiff, Nat.reduceMul, Nat.reduceAdd, Nat.reduceBEq, Nat.reduceLT, Nat.reduceLeDiff, Nat.reducePow, reduceIte, reduceDIte, Nat.reduceSub, Nat.reduceBNe, Nat.reduceGT, Int.reduceNeg, reduceCtorEq, Int.reduceToNat]
    repeat (with_reducible refine And.intro (by first | omega | exact ⟨rfl, by omega, by omega, by omega⟩) ?_)
    refine hK5 _ ?_
    refine AWP_ret ?_
    simp (maxSteps := 2000000) only [hres, go_sem, Nat.reduceEqDiff, Nat.reduceMul, Nat.reduceAdd, Nat.reduceBEq, Nat.reduceLT, Nat.reduceLeDiff, Nat.reducePow, reduceIte, reduceDIte, Nat.reduceSub, Nat.reduceBNe, Nat.reduceGT, Int.reduceNeg, reduceCtorEq, Int.reduceToNat]
    first
      | exact finOk_mk (by rfl) (by decide)
      | refine ⟨?_, finOk_mk (by rfl) (by decide)⟩
        first | exact (unitedP_f c0).symm | exact (unitedP_full c0 (by omega)).symm | exact ((unitedP_ok c0 (by omega) (by omega) (by omega)).trans (by rw [← hun])).symm | exact (unitedP_ok c0 (by omega) (by omega) (by omega)).symm
  · intro c0
    try simp only [decide_eq_true_eq, decide_eq_false_iff_not, Bool.not_eq_true', Bool.not_eq_false', beq_iff_eq, beq_eq_false_iff_ne, bne_eq_false_iff_eq, bne_iff_ne, ne_eq, Int.not_lt, Int.not_le] at c0
    obtain ⟨a1, a2, a3⟩ := ask2_ok c0
    have hsm : smallPs [(pi, ts, ns, os), (pi2, ts2, ns2, os2)] := ⟨by simp, fun p hp => by simp only [List.mem_cons, List.not_mem_nil, or_false] at hp; rcases hp with rfl | rfl; exact smallP_of a1; exact smallP_of a2⟩
    have hun : (pi, uniteL [(pi, ts, ns, os), (pi2, ts2, ns2, os2)]) = l12U (pi, ts, ns, os) (pi2, ts2, ns2, os2) := unite_two a1
    have hu1 : (l12U (pi, ts, ns, os) (pi2, ts2, ns2, os2)).2.2.1.length = (uniteL [(pi, ts, ns, os), (pi2, ts2, ns2, os2)]).2.1.length := by rw [← hun]
    have hu2 : (l12U (pi, ts, ns, os) (pi2, ts2, ns2, os2)).2.1.length = (uniteL [(pi, ts, ns, os), (pi2, ts2, ns2, os2)]).1.length := by rw [← hun]
    have hu3 : (l12U (pi, ts, ns, os) (pi2, ts2, ns2, os2)).2.2.2.length = (uniteL [(pi, ts, ns, os), (pi2, ts2, ns2, os2)]).2.2.length := by rw [← hun]
    refine AWP_skip ?_
    simp (maxSteps := 2000000) only [go_sem, Nat.reduceEqDiff, Nat.reduceMul, Nat.reduceAdd, Nat.reduceBEq, Nat.reduceLT, Nat.reduceLeDiff, Nat.reducePow, reduceIte, reduceDIte, Nat.reduceSub, Nat.reduceBNe, Nat.reduceGT, Int.reduceNeg, reduceCtorEq, Int.reduceToNat]
    refine hK2 _ ?_
    refine AWP_seq_k fun K6 hK6 => ?_
    refine AWP_region (G := G) (T := T_mHa30) T_mHa30_ok ?_
    simp (maxSteps := 2000000) only [List.nodup_cons, List.nodup_nil, List.not_mem_nil, not_false_eq_true, go_sem, Nat.reduceEqDiff, Nat.reduceMul, Nat.reduceAdd, Nat.reduceBEq, Nat.reduceLT, Nat.reduceLeDiff, Nat.reducePow, reduceIte, reduceDIte, Nat.reduceSub, Nat.reduceBNe, Nat.reduceGT, Int.reduceNeg, reduceCtorEq, Int.reduceToNat]
    repeat (with_reducible refine And.intro (by first | omega | exact ⟨rfl, by omega, by omega, by omega⟩ | exact hsm) ?_)
    refine hK6 _ ?_
    refine AWP_seq_k fun K7 hK7 => ?_
    refine AWP_seq_k fun K8 hK8 => ?_
    refine AWP_region (G := G) (T := T_mHa30) T_mHa30_ok ?_
    simp (maxSteps := 2000000) only [go_sem, Nat.reduceEqDiff, Nat.reduceMul, Nat.reduceAdd, Nat.reduceBEq, Nat.reduceLT, Nat.reduceLeDiff, Nat.reducePow, reduceIte, reduceDIte, Nat.reduceSub, Nat.reduceBNe, Nat.reduceGT, Int.reduceNeg, reduceCtorEq, Int.reduceToNat]
    repeat' (first | (with_reducible refine And.intro (by first | omega | exact ⟨rfl, by omega, by omega, by omega⟩) ?_) | (with_reducible refine gcase_dt (fun g5 => ?_) (fun g5 => ?_)) | (with_reducible refine gcase_df (fun g5 => ?_) (fun g5 => ?_)) | (with_reducible refine gcase_ndt (fun g5 => ?_) (fun g5 => ?_)) | (with_reducible refine gcase_ndf (fun g5 => ?_) (fun g5 => ?_)) | (with_reducible refine gcase_nt (fun g5 => ?_) (fun g5 => ?_)) | (with_reducible refine gcase_nf (fun g5 => ?_) (fun g5 => ?_)) | (with_reducible refine gcase_mk (fun g5 => ?_) (fun g5 => ?_)))
    all_goals
      refine hK8 _ ?_
      refine AWP_cond rfl ?_ ?_
      · intro c1
        try simp only [decide_eq_true_eq, decide_eq_false_iff_not, Bool.not_eq_true', Bool.not_eq_false', beq_iff_eq, beq_eq_false_iff_ne, bne_eq_false_iff_eq, bne_iff_ne, ne_eq, Int.not_lt, Int.not_le, Bool.true_eq_false, Bool.false_eq_true] at c1
        all_goals
          refine AWP_seq_k fun K9 hK9 => ?_
          refine AWP_region (G := G) (T := T_mHa30) T_mHa30_ok ?_
          simp (maxSteps := 2000000) only [go_sem, Nat.reduceEqDiff, Nat.reduceMul, Nat.reduceAdd, Nat.reduceBEq, Nat.reduceLT, Nat.reduceLeDiff, Nat.reducePow, reduceIte, reduceDIte, Nat.reduceSub, Nat.reduceBNe, Nat.reduceGT, Int.reduceNeg, reduceCtorEq, Int.reduceToNat]
          repeat (with_reducible refine And.intro (by first | omega | exact ⟨rfl, by omega, by omega, by omega⟩) ?_)
          refine hK9 _ ?_
          refine AWP_ret ?_
          simp (maxSteps := 2000000) only [hres, go_sem, Nat.reduceEqDiff, Nat.reduceMul, Nat.reduceAdd, Nat.reduceBEq, Nat.reduceLT, Nat.reduceLeDiff, Nat.reducePow, reduceIte, reduceDIte, Nat.reduceSub, Nat.reduceBNe, Nat.reduceGT, Int.reduceNeg, reduceCtorEq, Int.reduceToNat]
          first
            | exact finOk_mk (by rfl) (by decide)
            | refine ⟨?_, finOk_mk (by rfl) (by decide)⟩
              first | exact (unitedP_f c0).symm | exact (unitedP_full c0 (by omega)).symm | exact ((unitedP_ok c0 (by omega) (by omega) (by omega)).trans (by rw [← hun])).symm | exact (unitedP_ok c0 (by omega) (by omega) (by omega)).symm
      · intro c1
        try simp only [decide_eq_true_eq, decide_eq_false_iff_not, Bool.not_eq_true', Bool.not_eq_false', beq_iff_eq, beq_eq_false_iff_ne, bne_eq_false_iff_eq, bne_iff_ne, ne_eq, Int.not_lt, Int.not_le, Bool.true_eq_false, Bool.false_eq_true] at c1
        all_goals
          refine AWP_skip ?_
          simp (maxSteps := 2000000) only [go_sem, Nat.reduceEqDiff, Nat.reduceMul, Nat.reduceAdd, Nat.reduceBEq, Nat.reduceLT, Nat.reduceLeDiff, Nat.reducePow, reduceIte, reduceDIte, Nat.reduceSub, Nat.reduceBNe, Nat.reduceGT, Int.reduceNeg, reduceCtorEq, Int.reduceToNat]
          refine hK7 _ ?_
          refine AWP_seq_k fun K10 hK10 => ?_
          refine AWP_region (G := G) (T := T_mHa30) T_mHa30_ok ?_
          simp (maxSteps := 2000000) only [go_sem, Nat.reduceEqDiff, Nat.reduceMul, Nat.reduceAdd, Nat.reduceBEq, Nat.reduceLT, Nat.reduceLeDiff, Nat.reducePow, reduceIte, reduceDIte, Nat.reduceSub, Nat.reduceBNe, Nat.reduceGT, Int.reduceNeg, reduceCtorEq, Int.reduceToNat]
          repeat (with_reducible refine And.intro (by first | omega | exact ⟨rfl, by omega, by omega, by omega⟩) ?_)
          refine hK10 _ ?_
          refine AWP_ret ?_
          simp (maxSteps := 2000000) only [hres, go_sem, Nat.reduceEqDiff, Nat.reduceMul, Nat.reduceAdd, Nat.reduceBEq, Nat.reduceLT, Nat.reduceLeDiff, Nat.reducePow, reduceIte, reduceDIte, Nat.reduceSub, Nat.reduceBNe, Nat.reduceGT, Int.reduceNeg, reduceCtorEq, Int.reduceToNat]
          first
            | exact finOk_mk (by rfl) (by decide)
            | refine ⟨?_, finOk_mk (by rfl) (by decide)⟩
              first | exact (unitedP_f c0).symm | exact (unitedP_full c0 (by omega)).symm | exact ((unitedP_ok c0 (by omega) (by omega) (by omega)).trans (by rw [← hun])).symm | exact (unitedP_ok c0 (by omega) (by omega) (by omega)).symm

theorem implUnited_fn : FnOk Try.prog 38 := fnOk_of Try.func38 rfl (by decide)

def T_implUnited : Tab := fun f => if f = 38 then some (.p K_implUnited) else T_mHa30 f
theorem T_implUnited_ok : TabOk Try.prog T_implUnited := fun f k h => by
  unfold T_implUnited at h
  split at h
  · rename_i e; cases h; subst e; exact ⟨implUnited_ok, implUnited_fn⟩
  · exact T_mHa30_ok f k h
attribute [go_sem] T_implUnited K_implUnited

end Go.Proofs.Ythglggjgjlmhlaa
