/-
  The reading of a slice of slices of numbers.
-/
import Derived.Test.YtfpbnhghceoleaaFrame
import Derived.Test.YtfpbnhghceoleaaLists
import Derived.Deep.Slices
namespace Go.Proofs.Ytfpbnhghceoleaa
open Go.ChangeShapes Go.WideShapes Go.ChangeAt Go.RowKit Go.Joins Go.Deep

theorem isInts_c {H : Type} {enc : TypeId × Value → H} {W : World} {e i64 : TypeId} {n : Nat} {c : Value} {y : DataW H × List MemPlace}
    (he : Try.prog.underlying e = some (.slice i64)) (hi : Try.prog.underlying i64 = some (.int .i64)) (ci : Try.prog.cellsOf i64 = 1)
    (h : DataW.trod enc Try.prog W 0 (fun _ => true) true n e [c] = some y) : ∃ xs, Ints W c xs ∧ InR xs := by
  rcases open_ints he hi ci h with ⟨hcs, _⟩ | ⟨x, l, cp, zs, hcs, _, hl, hm, hz, _, hcell, hwz⟩
  · simp at hcs
    subst hcs
    exact ⟨[], Nums.nil _ _, fun x hx => by simp at hx⟩
  · simp at hcs
    subst hcs
    have hr : IsRow .i64 W (some x) l cp zs := .inr ⟨x, rfl, hl, hm, by simpa using hz, hcell, hwz⟩
    exact ⟨_, Nums.of_row hr, InR.of_row hr⟩

theorem isLists_c {H : Type} {enc : TypeId × Value → H} {W : World} {t e i64 : TypeId} {n : Nat} {c : Value} {y : DataW H × List MemPlace}
    (ht : Try.prog.underlying t = some (.slice e)) (he : Try.prog.underlying e = some (.slice i64)) (hi : Try.prog.underlying i64 = some (.int .i64)) (ce : Try.prog.cellsOf e = 1) (ci : Try.prog.cellsOf i64 = 1)
    (h : DataW.trod enc Try.prog W 0 (fun _ => true) true n t [c] = some y) : ∃ a len cap xss, c = .slice a len cap ∧ Lists W (.slice a len cap) xss ∧ ∀ i, InR (xss.getD i []) := by
  rcases open_slice1 ht ce h with ⟨hcs, _⟩ | ⟨a, len, cap, m, k, V, D, P, hcs, _, hl, hm, hmm, _, hx⟩
  · simp at hcs
    exact ⟨none, 0, 0, [], hcs, Lists.nil W, fun i x hx => by simp at hx⟩
  · simp at hcs
    simp only [if_true] at hmm
    subst hmm
    have each : ∀ i, i < m → ∃ xs, W.cell? (a.add i) = some (V i) ∧ Ints W (V i) xs ∧ InR xs := by
      intro i him
      obtain ⟨h0, h1⟩ := hx i him
      obtain ⟨xs, h2, h3⟩ := isInts_c he hi ci h1
      exact ⟨xs, h0, h2, h3⟩
    have hlen : ((List.range len).map fun i => if hi : i < m then Classical.choose (each i hi) else []).length = len := by simp
    have hat : ∀ i (hi : i < len), ((List.range len).map fun i => if hi : i < m then Classical.choose (each i hi) else []).getD i [] = Classical.choose (each i (by omega)) := by
      intro i hi
      have : i < m := by omega
      simp [List.getD, hi, this]
    refine ⟨some a, len, m, (List.range len).map fun i => if hi : i < m then Classical.choose (each i hi) else [], hcs, ⟨by rw [hlen]; unfold maxLen at hm; omega, some a, m, by rw [hlen], fun h0 => ?_⟩, fun i => ?_⟩
    · rw [hlen] at h0
      have hs := World.cell?_spot (Classical.choose_spec (each 0 (by omega))).1
      obtain ⟨b, off, sp⟩ := a
      have hsp : sp = none := by simpa [Addr.add] using hs
      subst hsp
      refine ⟨b, off, rfl, fun i hi2 => ?_⟩
      rw [hlen] at hi2
      obtain ⟨h1, h2, _⟩ := Classical.choose_spec (each i (by omega))
      have ad : ∀ j, (⟨b, off, none⟩ : Addr).add j = ⟨b, off + j, none⟩ := fun j => by unfold Addr.add; split <;> simp_all
      rw [ad] at h1
      rw [hat i hi2]
      exact ⟨V i, h1, h2⟩
    · by_cases hi2 : i < len
      · rw [hat i hi2]
        exact (Classical.choose_spec (each i (by omega))).2.2
      · rw [show ((List.range len).map fun i => if hi : i < m then Classical.choose (each i hi) else []).getD i [] = [] by simp [List.getD, List.getElem?_eq_none (by rw [hlen]; omega : ((List.range len).map fun i => if hi : i < m then Classical.choose (each i hi) else []).length ≤ i)]]
        intro x hx
        simp at hx

set_option maxRecDepth 100000 in
theorem isLists_arg {H : Type} {enc : TypeId × Value → H} {W : World} {t e i64 : TypeId} {v : Value} {d : DataW H} {p : List MemPlace} {r : Reach} {b0 : Nat}
    (ht : Try.prog.underlying t = some (.slice e)) (he : Try.prog.underlying e = some (.slice i64)) (hi : Try.prog.underlying i64 = some (.int .i64)) (ce : Try.prog.cellsOf e = 1) (ci : Try.prog.cellsOf i64 = 1)
    (hv : Value.okWide Try.prog W r b0 t v) (h : DataW.Trod enc Try.prog W 0 (fun _ => true) true t v d p) : ∃ a len cap xss, v = .slice a len cap ∧ Lists W (.slice a len cap) xss ∧ ∀ i, InR (xss.getD i []) := by
  obtain ⟨a, len, cap, rfl⟩ := okWide_slice ht hv
  obtain ⟨fuel, hf⟩ := h
  have hf' : DataW.trod enc Try.prog W 0 (fun _ => true) true fuel t [.slice a len cap] = some (d, p) := by simpa [Value.cells] using hf
  exact isLists_c ht he hi ce ci hf'

end Go.Proofs.Ytfpbnhghceoleaa
