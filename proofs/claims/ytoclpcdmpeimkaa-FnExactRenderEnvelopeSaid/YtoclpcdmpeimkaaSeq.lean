/-
  Contracts of the small functions over []int64 that the laws use: areSamples and its kin, l13Ok, isWave, eqInt64S, toInt64S, markInt64S, heldInt64S.
-/
import Derived.Test.YtoclpcdmpeimkaaMem
import Derived.Test.YtoclpcdmpeimkaaNum
namespace Go.Proofs.Ytoclpcdmpeimkaa
open Go.RowKit



/-- All are samples. -/
def samB (xs : List Int) : Bool := xs.all fun x => inB x (-2147483648) 2147483647
theorem samB_take {xs : List Int} {k : Nat} (hk : k < xs.length) : samB (xs.take (k + 1)) = (samB (xs.take k) && inB (xs.getD k 0) (-2147483648) 2147483647) := by
  have e : xs.getD k 0 = xs[k] := by simp [List.getD, hk]
  rw [e]
  simp only [samB, List.take_succ_eq_append_getElem hk, List.all_append, List.all_cons, List.all_nil, Bool.and_true]
theorem samB_false {xs : List Int} {k : Nat} (hk : k < xs.length) (h : inB (xs.getD k 0) (-2147483648) 2147483647 = false) : samB xs = false := by
  have e : xs.getD k 0 = xs[k] := by simp [List.getD, hk]
  rw [e] at h
  rw [← Bool.not_eq_true]
  intro hs
  have := List.all_eq_true.1 hs _ (List.getElem_mem hk)
  simp [h] at this
theorem samB_getD {xs : List Int} (h : samB xs = true) (k : Nat) : -2147483648 ≤ xs.getD k 0 ∧ xs.getD k 0 ≤ 2147483647 := by
  by_cases hk : k < xs.length
  · have e : xs.getD k 0 = xs[k] := by simp [List.getD, hk]
    rw [e]; exact inB_true.1 (List.all_eq_true.1 h _ (List.getElem_mem hk))
  · have e : xs.getD k 0 = 0 := by simp [List.getD, List.getElem?_eq_none (Nat.le_of_not_lt hk)]
    rw [e]; omega



end Go.Proofs.Ytoclpcdmpeimkaa
