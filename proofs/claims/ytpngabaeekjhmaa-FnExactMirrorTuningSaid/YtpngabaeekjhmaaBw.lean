/-
  Contracts of functions: ValidTuning.
-/
import Derived.Test.YtpngabaeekjhmaaBu
namespace Go.Proofs.Ytpngabaeekjhmaa
open Go.RowKit
set_option linter.unusedSimpArgs false
set_option linter.unusedVariables false

def K_implVTun : Con := ⟨[.val (.prod (.prod (.int .i64) (.int .i64)) (.prod (.prod (.int .i64) (.int .i64)) (.row 29 (.prod (.int .i64) (.int .i64)))))], [⟨.bool, true⟩], fun x => x.1.2.2.length ≤ 9223372036854775807, fun x => tunB x.1.1.1 x.1.1.2 x.1.2.1 x.1.2.2⟩
set_option maxRecDepth 100000 in
set_option maxHeartbeats 1000000 in
theorem implVTun_ok : PureT Try.prog 10 K_implVTun := by
  refine pure_of_body Try.func10 rfl ?_
  have hres : Try.f10.results.toList = [.tmp 2] := rfl
  rintro ⟨⟨⟨(bn : Int), (bd : Int)⟩, ⟨(on : Int), (od : Int)⟩, (ps : List (Int × Int))⟩, _⟩ hl
  simp only [K_implVTun, St.init, Try.ntmps10, go_sem, Nat.reduceEqDiff, Nat.reduceMul, Nat.reduceAdd, Nat.reduceBEq, Nat.reduceLT, Nat.reduceLeDiff, Nat.reducePow, reduceIte, reduceDIte, Nat.reduceSub, Nat.reduceBNe, Nat.reduceGT, Int.reduceNeg, reduceCtorEq, Int.reduceToNat] at hl ⊢
  refine AWP_seq_k fun K1 hK1 => ?_
  refine AWP_region (G := G) (T := T_isTuning) T_isTuning_ok ?_
  simp (maxSteps := 2000000) only [go_sem, Nat.reduceEqDiff, Nat.reduceMul, Nat.reduceAdd, Nat.reduceBEq, Nat.reduceLT, Nat.reduceLeDiff, Nat.reducePow, reduceIte, reduceDIte, Nat.reduceSub, Nat.reduceBNe, Nat.reduceGT, Int.reduceNeg, reduceCtorEq, Int.reduceToNat]
  repeat (with_reducible refine And.intro (by first | omega | exact hl) ?_)
  refine hK1 _ ?_
  refine AWP_seq_k fun K2 hK2 => ?_
  refine AWP_region (G := G) (T := T_isTuning) T_isTuning_ok ?_
  simp (maxSteps := 2000000) only [go_sem, Nat.reduceEqDiff, Nat.reduceMul, Nat.reduceAdd, Nat.reduceBEq, Nat.reduceLT, Nat.reduceLeDiff, Nat.reducePow, reduceIte, reduceDIte, Nat.reduceSub, Nat.reduceBNe, Nat.reduceGT, Int.reduceNeg, reduceCtorEq, Int.reduceToNat]
  repeat (with_reducible refine And.intro (by first | omega | exact hl) ?_)
  refine hK2 _ ?_
  refine AWP_ret ?_
  simp (maxSteps := 2000000) only [hres, go_sem, Nat.reduceEqDiff, Nat.reduceMul, Nat.reduceAdd, Nat.reduceBEq, Nat.reduceLT, Nat.reduceLeDiff, Nat.reducePow, reduceIte, reduceDIte, Nat.reduceSub, Nat.reduceBNe, Nat.reduceGT, Int.reduceNeg, reduceCtorEq, Int.reduceToNat]
  first
    | exact finOk_mk (by rfl) (by decide)
    | refine ⟨?_, finOk_mk (by rfl) (by decide)⟩
      rfl

theorem implVTun_fn : FnOk Try.prog 10 := fnOk_of Try.func10 rfl (by decide)

def T_implVTun : Tab := fun f => if f = 10 then some K_implVTun else T_isTuning f
theorem T_implVTun_ok : TabOk Try.prog T_implVTun := fun f k h => by
  unfold T_implVTun at h
  split at h
  · rename_i e; cases h; subst e; exact ⟨implVTun_ok, implVTun_fn⟩
  · exact T_isTuning_ok f k h
attribute [go_sem] T_implVTun K_implVTun

end Go.Proofs.Ytpngabaeekjhmaa
