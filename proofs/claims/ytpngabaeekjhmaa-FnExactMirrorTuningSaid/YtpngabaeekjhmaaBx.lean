/-
  Contracts of functions: ValidTuning.
-/
import Derived.Test.YtpngabaeekjhmaaBv
namespace Go.Proofs.Ytpngabaeekjhmaa
open Go.RowKit
set_option linter.unusedSimpArgs false
set_option linter.unusedVariables false

def K_specVTun : Con := ⟨[.val (.prod (.prod (.int .i64) (.int .i64)) (.prod (.prod (.int .i64) (.int .i64)) (.row 29 (.prod (.int .i64) (.int .i64)))))], [⟨.bool, true⟩], fun x => x.1.2.2.length ≤ 9223372036854775807, fun x => tunB x.1.1.1 x.1.1.2 x.1.2.1 x.1.2.2⟩
set_option maxRecDepth 100000 in
set_option maxHeartbeats 1000000 in
theorem specVTun_ok : PureT Try.prog 8 K_specVTun := by
  refine pure_of_body Try.func8 rfl ?_
  have hres : Try.f8.results.toList = [.tmp 2] := rfl
  rintro ⟨⟨⟨(bn : Int), (bd : Int)⟩, ⟨(on : Int), (od : Int)⟩, (ps : List (Int × Int))⟩, _⟩ hl
  simp only [K_specVTun, St.init, Try.ntmps8, go_sem, Nat.reduceEqDiff, Nat.reduceMul, Nat.reduceAdd, Nat.reduceBEq, Nat.reduceLT, Nat.reduceLeDiff, Nat.reducePow, reduceIte, reduceDIte, Nat.reduceSub, Nat.reduceBNe, Nat.reduceGT, Int.reduceNeg, reduceCtorEq, Int.reduceToNat] at hl ⊢
  refine AWP_seq_k fun K1 hK1 => ?_
  refine AWP_region (G := G) (T := T_l15Ok) T_l15Ok_ok ?_
  simp (maxSteps := 2000000) only [go_sem, Nat.reduceEqDiff, Nat.reduceMul, Nat.reduceAdd, Nat.reduceBEq, Nat.reduceLT, Nat.reduceLeDiff, Nat.reducePow, reduceIte, reduceDIte, Nat.reduceSub, Nat.reduceBNe, Nat.reduceGT, Int.reduceNeg, reduceCtorEq, Int.reduceToNat]
  repeat (with_reducible refine And.intro (by first | omega | exact hl) ?_)
  refine hK1 _ ?_
  refine AWP_seq_k fun K2 hK2 => ?_
  refine AWP_region (G := G) (T := T_l15Ok) T_l15Ok_ok ?_
  simp (maxSteps := 2000000) only [go_sem, Nat.reduceEqDiff, Nat.reduceMul, Nat.reduceAdd, Nat.reduceBEq, Nat.reduceLT, Nat.reduceLeDiff, Nat.reducePow, reduceIte, reduceDIte, Nat.reduceSub, Nat.reduceBNe, Nat.reduceGT, Int.reduceNeg, reduceCtorEq, Int.reduceToNat]
  repeat (with_reducible refine And.intro (by first | omega | exact hl) ?_)
  refine hK2 _ ?_
  refine AWP_ret ?_
  simp (maxSteps := 2000000) only [hres, go_sem, Nat.reduceEqDiff, Nat.reduceMul, Nat.reduceAdd, Nat.reduceBEq, Nat.reduceLT, Nat.reduceLeDiff, Nat.reducePow, reduceIte, reduceDIte, Nat.reduceSub, Nat.reduceBNe, Nat.reduceGT, Int.reduceNeg, reduceCtorEq, Int.reduceToNat]
  first
    | exact finOk_mk (by rfl) (by decide)
    | refine ⟨?_, finOk_mk (by rfl) (by decide)⟩
      rfl

theorem specVTun_fn : FnOk Try.prog 8 := fnOk_of Try.func8 rfl (by decide)

def T_specVTun : Tab := fun f => if f = 8 then some K_specVTun else T_l15Ok f
theorem T_specVTun_ok : TabOk Try.prog T_specVTun := fun f k h => by
  unfold T_specVTun at h
  split at h
  · rename_i e; cases h; subst e; exact ⟨specVTun_ok, specVTun_fn⟩
  · exact T_l15Ok_ok f k h
attribute [go_sem] T_specVTun K_specVTun

end Go.Proofs.Ytpngabaeekjhmaa
