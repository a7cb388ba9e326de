/-
  Outputs of the same classes: the reference's loop.
-/
import Derived.Test.YthfopaimihmgiaaPq
namespace Go.Proofs.Ythfopaimihmgiaa
open Go.RowKit
section
variable {p q : PatchD}
theorem sameR_len (h : ask2 p q = 0) (hl : ¬ p.2.2.2.length = q.2.2.2.length) : sameR p q = (false, 0) := by
  rw [sameR_t h]
  have : eqD ((outCl p q).take p.2.2.2.length) ((outCl p q).drop p.2.2.2.length) = false := decide_eq_false fun e => hl (by
    have := congrArg List.length e
    rw [List.length_take, List.length_drop, outCl_len] at this; omega)
  rw [this]
theorem outCl_at {k : Nat} (h : k < (outCl p q).length) : (outCl p q).getD k 0 = (clsF (l12U p q).2.1 (l12U p q).2.2.1).getD ((l12U p q).2.2.2.getD k 0).toNat 0 := by
  have h2 : k < (l12U p q).2.2.2.length := by simpa [outCl] using h
  simp [outCl, List.getD, h2]
theorem take_at {α : Type} {l : List α} {n k : Nat} {d : α} (h : k < n) : (l.take n).getD k d = l.getD k d := by
  simp [List.getD, h]
theorem drop_at {α : Type} {l : List α} {n k : Nat} {d : α} : (l.drop n).getD k d = l.getD (n + k) d := by
  simp [List.getD, List.getElem?_drop]
theorem sameR_ne (h : ask2 p q = 0) {k : Nat} (hk : k < p.2.2.2.length) (hne : ¬ (outCl p q).getD k 0 = (outCl p q).getD (p.2.2.2.length + k) 0) : sameR p q = (false, 0) := by
  rw [sameR_t h]
  have : eqD ((outCl p q).take p.2.2.2.length) ((outCl p q).drop p.2.2.2.length) = false := decide_eq_false fun e => hne (by
    have := congrArg (fun z => z.getD k 0) e
    simpa only [take_at hk, drop_at] using this)
  rw [this]
theorem sameR_eq (h : ask2 p q = 0) (hl : p.2.2.2.length = q.2.2.2.length) (he : ∀ k, k < p.2.2.2.length → (outCl p q).getD k 0 = (outCl p q).getD (p.2.2.2.length + k) 0) : sameR p q = (true, 0) := by
  rw [sameR_t h]
  have : eqD ((outCl p q).take p.2.2.2.length) ((outCl p q).drop p.2.2.2.length) = true := decide_eq_true (by
    have hL := outCl_len p q
    refine List.ext_getElem (by rw [List.length_take, List.length_drop]; omega) fun k h1 h2 => ?_
    have hk : k < p.2.2.2.length := by rw [List.length_take] at h1; omega
    have := he k hk
    rw [← take_at (n := p.2.2.2.length) hk, ← drop_at] at this
    rw [List.getD_eq_getElem?_getD, List.getD_eq_getElem?_getD, List.getElem?_eq_getElem h1, List.getElem?_eq_getElem h2] at this
    exact this)
  rw [this]
end
end Go.Proofs.Ythfopaimihmgiaa
