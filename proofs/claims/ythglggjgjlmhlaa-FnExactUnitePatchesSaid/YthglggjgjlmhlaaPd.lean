/-
  Patches put together: the plain law.
-/
import Derived.Test.YthglggjgjlmhlaaPc
import Derived.Test.YthglggjgjlmhlaaGt
namespace Go.Proofs.Ythglggjgjlmhlaa
set_option linter.unusedSimpArgs false
set_option linter.unusedVariables false

/-- A length that fits well into memory. -/
abbrev fits (n : Nat) : Prop := n ≤ 1099511627776
def fitsL (xs : List (List Int)) : Prop := xs.length ≤ 1099511627776 ∧ ∀ l ∈ xs, l.length ≤ 1099511627776
def fitsN (xs : List NodeD) : Prop := xs.length ≤ 1099511627776 ∧ ∀ l ∈ xs, l.2.2.2.length ≤ 1099511627776
def fitsP (p : PatchD) : Prop := fitsL p.2.1 ∧ fitsN p.2.2.1 ∧ p.2.2.2.length ≤ 1099511627776
def plus (n f : Int) : Int := IntKind.i64.wrap (f + n)
/-- A node that stands behind others. -/
def shiftN (n t : Int) (x : NodeD) : NodeD := (x.1, (match decide (x.1 = 13) with | true => plus t x.2.1 | false => x.2.1), x.2.2.1, x.2.2.2.map (plus n))
theorem mix_len {f : Int → Int} {xs : List Int} {k : Nat} : ((xs.take k).map f ++ xs.drop k).length = xs.length := by
  simp only [List.length_append, List.length_map, List.length_take, List.length_drop]; omega
theorem mix_at {f : Int → Int} {xs : List Int} {k : Nat} (d : Int) (h : k < xs.length) : ((xs.take k).map f ++ xs.drop k).getD k d = xs.getD k d := by
  rw [List.getD_eq_getElem?_getD, List.getD_eq_getElem?_getD, List.getElem?_append_right (by simp; omega), List.getElem?_drop]
  simp only [List.length_map, List.length_take]
  congr 2; omega
theorem mix_set {f : Int → Int} {xs : List Int} {k : Nat} (d : Int) (h : k < xs.length) : ((xs.take k).map f ++ xs.drop k).set k (f (xs.getD k d)) = (xs.take (k + 1)).map f ++ xs.drop (k + 1) := by
  apply List.ext_getElem?
  intro j
  rw [List.getElem?_set]
  by_cases hj : k = j
  · subst hj
    rw [if_pos rfl, if_pos (by rw [mix_len]; exact h), List.getElem?_append_left (by simp; omega)]
    simp [List.getD_eq_getElem?_getD, List.getElem?_eq_getElem h]
  · rw [if_neg hj]
    rcases Nat.lt_or_gt_of_ne hj with h1 | h1
    · rw [List.getElem?_append_right (by simp; omega), List.getElem?_append_right (by simp; omega)]
      simp only [List.length_map, List.length_take, List.getElem?_drop]
      congr 1; omega
    · rw [List.getElem?_append_left (by simp; omega), List.getElem?_append_left (by simp; omega)]
      simp only [List.getElem?_map, List.getElem?_take]
      rw [if_pos h1, if_pos (by omega)]
theorem map_next {α β : Type} {f : α → β} {A : List β} {xs : List α} {k : Nat} (d : α) (h : k < xs.length) : A ++ (xs.take k).map f ++ [f (xs.getD k d)] = A ++ (xs.take (k + 1)).map f := by
  rw [take_next (d := d) h, List.map_append, List.map_cons, List.map_nil, List.append_assoc]
theorem map_next2 {α β : Type} {f : α → β} {A : List β} {xs : List α} {k : Nat} (d : α) (h : k < xs.length) : A ++ ((xs.take k).map f ++ [f (xs.getD k d)]) = A ++ (xs.take (k + 1)).map f := by
  rw [← List.append_assoc]; exact map_next d h
theorem map_all {α β : Type} {f : α → β} {A : List β} {xs : List α} {k : Nat} (h : xs.length ≤ k) : A ++ (xs.take k).map f = A ++ xs.map f := by
  rw [List.take_of_length_le h]
abbrev UniD := List (List Int) × List NodeD × List Int
def uStep (u : UniD) (p : PatchD) : UniD := (u.1 ++ p.2.1, u.2.1 ++ p.2.2.1.map (shiftN u.2.1.length u.1.length), u.2.2 ++ p.2.2.2.map (plus u.2.1.length))
/-- Patches put together. -/
def uniteL (ps : List PatchD) : UniD := ps.foldl uStep ([], [], [])
def smallP (p : PatchD) : Prop := p.2.1.length ≤ 4 ∧ (∀ l ∈ p.2.1, l.length ≤ 16) ∧ p.2.2.1.length ≤ 24 ∧ (∀ x ∈ p.2.2.1, x.2.2.2.length ≤ 23) ∧ p.2.2.2.length ≤ 4
def smallPs (ps : List PatchD) : Prop := ps.length ≤ 1000 ∧ ∀ p ∈ ps, smallP p
theorem uniteL_next {ps : List PatchD} {k : Nat} (d : PatchD) (h : k < ps.length) : uniteL (ps.take (k + 1)) = uStep (uniteL (ps.take k)) (ps.getD k d) := by
  rw [take_next (d := d) h]; simp [uniteL, List.foldl_append]
theorem uniteL_len {ps : List PatchD} (h : ∀ p ∈ ps, smallP p) (k : Nat) (hk : k ≤ ps.length) : (uniteL (ps.take k)).1.length ≤ 4 * k ∧ (uniteL (ps.take k)).2.1.length ≤ 24 * k ∧ (uniteL (ps.take k)).2.2.length ≤ 4 * k := by
  induction k with
  | zero => simp [uniteL]
  | succ k ih =>
    obtain ⟨i1, i2, i3⟩ := ih (by omega)
    obtain ⟨j1, j2, j3, j4, j5⟩ := h _ (getD_mem (d := (0, [], [], [])) (i := k) (by omega))
    rw [uniteL_next (0, [], [], []) (by omega)]
    refine ⟨?_, ?_, ?_⟩ <;> simp only [uStep, List.length_append, List.length_map] <;> omega
theorem smallP_fits {p : PatchD} (h : smallP p) : fitsL p.2.1 := ⟨by have := h.1; omega, fun l hl => by have := h.2.1 l hl; omega⟩
theorem smallP_fitsP {p : PatchD} (h : smallP p) : fitsP p := ⟨smallP_fits h, ⟨by have := h.2.2.1; omega, fun l hl => by have := h.2.2.2.1 l hl; omega⟩, by have := h.2.2.2.2; omega⟩
theorem kT_le (k : Int) : (kT k).1 ≤ 3 := by
  have h : ∀ x ∈ kindT, x.1 ≤ 3 := by decide
  unfold kT
  by_cases hk : (k - 1).toNat < kindT.length
  · exact h _ (getD_mem hk)
  · rw [List.getD_eq_getElem?_getD, List.getElem?_eq_none (by omega)]; decide
theorem smallP_of {p : PatchD} (h : patchB p = true) : smallP p := by
  have hf : formedB p = true := by unfold patchB at h; exact (Bool.and_eq_true_iff.1 h).1
  obtain ⟨p1, p2, p3, p4, p5, p6, p7⟩ := formedB_parts hf
  simp only [tabsB, Bool.and_eq_true, decide_eq_true_eq] at p3
  refine ⟨p3.2, fun l hl => ?_, p1, fun x hx => ?_, p2⟩
  · have := List.all_eq_true.1 p3.1 l hl
    simp only [tabB, Bool.and_eq_true, Bool.or_eq_true, decide_eq_true_eq] at this
    omega
  · have h1 := (nodeIn_parts (List.all_eq_true.1 p7 x hx)).1
    simp only [nodeB, Bool.and_eq_true, decide_eq_true_eq] at h1
    have h2 := h1.1.2
    have h3 := kT_le x.1
    omega
/-- Two patches as one. -/
def l12U (p q : PatchD) : PatchD := (p.1, p.2.1 ++ q.2.1, p.2.2.1 ++ q.2.2.1.map (shiftN p.2.2.1.length p.2.1.length), p.2.2.2 ++ q.2.2.2.map (plus p.2.2.1.length))
theorem plus_zero {f : Int} (h : 0 ≤ f ∧ f ≤ 1000) : plus 0 f = f := by unfold plus; rw [wrapI (by omega)]; omega
theorem map_same {α : Type} {f : α → α} {l : List α} (h : ∀ x ∈ l, f x = x) : l.map f = l := by
  induction l with
  | nil => rfl
  | cons x l ih => rw [List.map_cons, h x List.mem_cons_self, ih fun y hy => h y (List.mem_cons_of_mem _ hy)]
theorem unite_two {p q : PatchD} (h : patchB p = true) : (p.1, uniteL [p, q]) = l12U p q := by
  have hf : formedB p = true := by unfold patchB at h; exact (Bool.and_eq_true_iff.1 h).1
  obtain ⟨p1, p2, p3, p4, p5, p6, p7⟩ := formedB_parts hf
  have e1 : p.2.2.2.map (plus 0) = p.2.2.2 := map_same fun x hx => plus_zero (by have := idxs_at p6 hx; omega)
  have e2 : p.2.2.1.map (shiftN 0 0) = p.2.2.1 := map_same fun x hx => by
    obtain ⟨h1, h2, _⟩ := nodeIn_parts (List.all_eq_true.1 p7 x hx)
    obtain ⟨kd, a, b, fr⟩ := x
    have e3 : fr.map (plus 0) = fr := map_same fun y hy => plus_zero (by have := idxs_at h2 hy; omega)
    unfold shiftN
    simp only [e3]
    congr 2
    split
    · rename_i hd
      simp only [decide_eq_true_eq] at hd
      subst hd
      simp only [nodeB, Bool.and_eq_true] at h1
      have h3 := h1.1.1.1.1.2
      have : inR a 0 3 = true := h3
      exact plus_zero (by have := inR_iff.1 this; omega)
    · rfl
  simp only [uniteL, List.foldl_cons, List.foldl_nil, uStep, List.nil_append, List.length_nil, l12U, List.length_map]
  rw [show ((0 : Nat) : Int) = 0 from rfl, e1, e2]
def unitedP (p q : PatchD) : PatchD × Int := match decide (ask2 p q = 0) with
  | false => ((0, [], [], []), ask2 p q)
  | true => match decide (24 < (l12U p q).2.2.1.length) || decide (4 < (l12U p q).2.1.length) || decide (4 < (l12U p q).2.2.2.length) with
    | true => ((0, [], [], []), 5)
    | false => (l12U p q, 0)
theorem ask2_ok {p q : PatchD} (h : ask2 p q = 0) : patchB p = true ∧ patchB q = true ∧ p.1 = q.1 := by
  unfold ask2 at h
  cases h1 : patchB p <;> cases h2 : patchB q <;> simp [h1, h2] at h ⊢
  by_cases h3 : p.1 = q.1
  · exact h3
  · simp [h3] at h
theorem unitedP_f {p q : PatchD} (h : ¬ ask2 p q = 0) : unitedP p q = ((0, [], [], []), ask2 p q) := by unfold unitedP; rw [decide_eq_false h]
theorem unitedP_full {p q : PatchD} (h : ask2 p q = 0) (k : 24 < (l12U p q).2.2.1.length ∨ 4 < (l12U p q).2.1.length ∨ 4 < (l12U p q).2.2.2.length) : unitedP p q = ((0, [], [], []), 5) := by
  unfold unitedP
  rw [decide_eq_true h]
  have : (decide (24 < (l12U p q).2.2.1.length) || decide (4 < (l12U p q).2.1.length) || decide (4 < (l12U p q).2.2.2.length)) = true := by
    simp only [Bool.or_eq_true, decide_eq_true_eq]; omega
  simp only [this]
theorem unitedP_ok {p q : PatchD} (h : ask2 p q = 0) (k1 : (l12U p q).2.2.1.length ≤ 24) (k2 : (l12U p q).2.1.length ≤ 4) (k3 : (l12U p q).2.2.2.length ≤ 4) : unitedP p q = (l12U p q, 0) := by
  unfold unitedP
  rw [decide_eq_true h, decide_eq_false (by omega), decide_eq_false (by omega), decide_eq_false (by omega)]
  rfl
end Go.Proofs.Ythglggjgjlmhlaa
