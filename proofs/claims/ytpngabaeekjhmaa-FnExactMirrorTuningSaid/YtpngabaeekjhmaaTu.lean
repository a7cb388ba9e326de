/-
  Tunings: the plain law of validity.
-/
import Derived.Test.YtpngabaeekjhmaaTs
import Derived.Test.YtpngabaeekjhmaaFracOp
import Derived.Test.YtpngabaeekjhmaaWhole
namespace Go.Proofs.Ytpngabaeekjhmaa
open Go.RowKit
set_option linter.unusedSimpArgs false
set_option linter.unusedVariables false

def cmpP (p q : Int × Int) : Int := cmpF p.1 p.2 q.1 q.2
def tunP (oc : Int × Int) (ps : List (Int × Int)) (i : Nat) : Bool := decide (cmpP (ps.getD i (0, 0)) oc < 0) && (decide (i = 0) || decide (cmpP (ps.getD (i - 1) (0, 0)) (ps.getD i (0, 0)) < 0))
def tunB (bn bd : Int) (oc : Int × Int) (ps : List (Int × Int)) : Bool :=
  frB bn bd && frB oc.1 oc.2 && frAll ps && decide (0 < bn) && decide (0 < cmpF oc.1 oc.2 1 1) && inR ps.length 1 24 && ((ps.getD 0 (0, 0)).1 == 1 && (ps.getD 0 (0, 0)).2 == 1) && (List.range ps.length).all (tunP oc ps)
theorem rng_next {p : Nat → Bool} {k : Nat} (h : (List.range k).all p = true) (hk : p k = true) : (List.range (k + 1)).all p = true := by
  rw [List.range_succ]; simp [h, hk]
theorem rng_stop {p : Nat → Bool} {n k : Nat} (hk : k < n) (h : p k = false) : (List.range n).all p = false := by
  rw [← Bool.not_eq_true]; intro ha
  have := List.all_eq_true.1 ha k (List.mem_range.2 hk)
  rw [h] at this; cases this
theorem rng_done {p : Nat → Bool} {n k : Nat} (h : (List.range k).all p = true) (hk : ¬ k < n) (hn : k ≤ n) : (List.range n).all p = true := by
  obtain rfl : k = n := by omega
  exact h
def tunQ (oc : Int × Int) (ps : List (Int × Int)) (i : Nat) : Bool := frB (ps.getD i (0, 0)).1 (ps.getD i (0, 0)).2 && tunP oc ps i
theorem tunQ_all (oc : Int × Int) (ps : List (Int × Int)) : (List.range ps.length).all (tunQ oc ps) = (frAll ps && (List.range ps.length).all (tunP oc ps)) := by
  rw [Bool.eq_iff_iff]
  simp only [Bool.and_eq_true, List.all_eq_true, List.mem_range, tunQ]
  constructor
  · intro h
    refine ⟨?_, fun i hi => (h i hi).2⟩
    simp only [frAll, List.all_eq_true]
    intro p hp
    obtain ⟨i, hi, rfl⟩ := List.mem_iff_getElem.1 hp
    have := (h i hi).1
    simpa [List.getD, hi] using this
  · rintro ⟨h1, h2⟩ i hi
    exact ⟨frAll_at h1 hi, h2 i hi⟩
end Go.Proofs.Ytpngabaeekjhmaa
