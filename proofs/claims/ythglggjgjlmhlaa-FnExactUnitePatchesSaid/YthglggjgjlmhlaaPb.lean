/-
  Patches: the order of the nodes, as a loop with marks computes it.
-/
import Derived.Test.YthglggjgjlmhlaaPa
namespace Go.Proofs.Ythglggjgjlmhlaa
set_option linter.unusedSimpArgs false
set_option linter.unusedVariables false

theorem count_set {tk : List Bool} {i : Nat} (hi : i < tk.length) (h : tk.getD i false = false) : (tk.set i true).count false + 1 = tk.count false := by
  induction tk generalizing i with
  | nil => simp at hi
  | cons b tk ih =>
    cases i with
    | zero => simp at h; subst h; simp
    | succ i =>
      have := ih (i := i) (by simpa using hi) (by simpa using h)
      rw [List.set_cons_succ, List.count_cons, List.count_cons]
      omega
/-- Marks and list agree, and the rest of the way is the same. -/
def OrdI (ns : List NodeD) (tk : List Bool) (out : List Int) : Prop :=
  tk.length = ns.length ∧ (∀ j, j < ns.length → tk.getD j false = out.contains (j : Int)) ∧ ordGo ns (tk.count false) out = ordL ns ∧ out.length + tk.count false = ns.length
theorem ordI_start (ns : List NodeD) : OrdI ns (List.replicate ns.length false) [] := by
  refine ⟨by simp, fun j hj => ?_, by simp [ordL], by simp⟩
  simp only [List.getD, List.getElem?_replicate, hj, if_true, Option.getD_some]
  rfl
theorem ready_iff {ns : List NodeD} {tk : List Bool} {out : List Int} (h : OrdI ns tk out) {i : Nat} (hi : i < ns.length) : readyB ns out i = (!tk.getD i false && (waitsL (ns.getD i n0)).all (fun f => out.contains f)) := by
  unfold readyB; rw [h.2.1 i hi]
theorem OrdI.next {ns : List NodeD} {tk : List Bool} {out : List Int} {i : Nat} (h : OrdI ns tk out) (hi : i < ns.length) (hno : ∀ j, j < i → readyB ns out j = false) (hr : readyB ns out i = true) :
    OrdI ns (tk.set i true) (out ++ [(i : Int)]) ∧ (tk.set i true).count false + 1 = tk.count false := by
  obtain ⟨h1, h2, h3, h4⟩ := h
  have hf : tk.getD i false = false := by
    rw [h2 i hi]
    unfold readyB at hr
    simp only [Bool.and_eq_true, Bool.not_eq_true'] at hr
    exact hr.1
  have hc := count_set (by omega) hf
  have hn := nextR_some hi hno hr
  refine ⟨⟨by simpa using h1, fun j hj => ?_, ?_, by simp; omega⟩, hc⟩
  · by_cases hji : j = i
    · subst hji
      simp [List.getD, h1, hj]
    · have e : (tk.set i true).getD j false = tk.getD j false := by simp [List.getD, List.getElem?_set_ne (Ne.symm hji)]
      rw [e, h2 j hj]
      have hne : (j : Int) ≠ (i : Int) := by omega
      simp [List.contains_eq_mem, hne]
  · rw [← h3, ← hc, ordGo_some hn]
theorem ordI_len {ns : List NodeD} {tk : List Bool} {out : List Int} (h : OrdI ns tk out) : out.length ≤ ns.length := by have := h.2.2.2; omega
theorem formedB_parts {p : PatchD} (h : formedB p = true) : p.2.2.1.length ≤ 24 ∧ p.2.2.2.length ≤ 4 ∧ tabsB p.2.1 = true ∧ 0 ≤ p.1 ∧ p.1 ≤ 4 ∧ idxs p.2.2.1.length p.2.2.2 = true ∧ p.2.2.1.all (nodeIn p) = true := by
  simp only [formedB, Bool.and_eq_true, decide_eq_true_eq] at h
  obtain ⟨⟨⟨⟨⟨h1, h2⟩, h3⟩, h4⟩, h5⟩, h6⟩ := h
  obtain ⟨h7, h8⟩ := inR_iff.1 h1
  exact ⟨h3, h4, h2, h7, h8, h5, h6⟩
theorem getD_mem {α : Type} {l : List α} {i : Nat} {d : α} (h : i < l.length) : l.getD i d ∈ l := by
  simp [List.getD, h]
theorem idxs_at {n : Int} {xs : List Int} (h : idxs n xs = true) {f : Int} (hf : f ∈ xs) : 0 ≤ f ∧ f ≤ n - 1 := inR_iff.1 (List.all_eq_true.1 h f hf)
theorem formedB_from {p : PatchD} (h : formedB p = true) {i : Nat} (hi : i < p.2.2.1.length) {f : Int} (hf : f ∈ waitsL (p.2.2.1.getD i n0)) : 0 ≤ f ∧ f < p.2.2.1.length := by
  have h1 := List.all_eq_true.1 (formedB_parts h).2.2.2.2.2.2 _ (getD_mem (d := n0) hi)
  simp only [nodeIn, Bool.and_eq_true] at h1
  have hf' : f ∈ (p.2.2.1.getD i n0).2.2.2 := by
    unfold waitsL at hf
    split at hf
    · cases hf
    · exact hf
  have := idxs_at h1.1.2 hf'
  omega
theorem waitsL_len (n : NodeD) : (waitsL n).length ≤ n.2.2.2.length := by
  unfold waitsL; split <;> simp
theorem take_all_succ {α : Type} {xs : List α} {q : α → Bool} {m : Nat} {d : α} (h : m < xs.length) : (xs.take (m + 1)).all q = ((xs.take m).all q && q (xs.getD m d)) := by
  rw [take_next (d := d) h, List.all_append]; simp
end Go.Proofs.Ythglggjgjlmhlaa
