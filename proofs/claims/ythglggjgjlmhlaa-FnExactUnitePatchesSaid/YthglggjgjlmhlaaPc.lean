/-
  Patches: validity as the reference says it.
-/
import Derived.Test.YthglggjgjlmhlaaPb
import Derived.Test.YthglggjgjlmhlaaGnf
namespace Go.Proofs.Ythglggjgjlmhlaa
set_option linter.unusedSimpArgs false
set_option linter.unusedVariables false

theorem has_next {xs : List Int} {m : Int} {k : Nat} (hk : k < xs.length) (h : (xs.take k).contains m = false) (hne : ¬ xs.getD k 0 = m) : (xs.take (k + 1)).contains m = false := by
  rw [take_next (d := 0) hk]
  simp only [List.contains_eq_mem, List.mem_append, List.mem_singleton, decide_eq_false_iff_not, not_or] at h ⊢
  exact ⟨h, fun e => hne e.symm⟩
theorem has_stop {xs : List Int} {m : Int} {k : Nat} (hk : k < xs.length) (h : xs.getD k 0 = m) : xs.contains m = true := by
  simp only [List.contains_eq_mem, decide_eq_true_eq]
  rw [← h]; exact getD_mem hk
theorem has_done {xs : List Int} {m : Int} {k : Nat} (h : (xs.take k).contains m = false) (hk : ¬ k < xs.length) : xs.contains m = false := by
  rw [List.take_of_length_le (by omega)] at h; exact h
def iMin (a b : Int) : Int := min a b
def iMax (a b : Int) : Int := max a b
theorem iMin_l {a b : Int} (h : a ≤ b) : a = iMin a b := by unfold iMin; omega
theorem iMin_r {a b : Int} (h : b ≤ a) : b = iMin a b := by unfold iMin; omega
theorem iMax_l {a b : Int} (h : b ≤ a) : a = iMax a b := by unfold iMax; omega
theorem iMax_r {a b : Int} (h : a ≤ b) : b = iMax a b := by unfold iMax; omega
def l03B (xs : List Int) : Bool := decide (xs.length ≤ 4000) && smps xs
def arL : List Int := [-1, 0, 0, 2, 2, 1, 1, 1, 1, 2, 1, 1, 1, 1, 0, 3, 2, 1]
def hasAL : List Int := [1, 2, 5, 6, 10, 11, 12, 13, 14, 17]
/-- A of a node, as the reference looks at it. -/
def l06aB (kd a tb : Int) : Bool :=
  match decide (kd = 1) with
  | true => inR a 0 3
  | false => match decide (kd = 6) with
    | true => inR a 1 16
    | false => match decide (kd = 10) with
      | true => inR a 0 31
      | false => match decide (kd = 11) with
        | true => inR a 0 2147483647
        | false => match decide (kd = 13) with
          | true => inR a 0 (min (max tb 0) 4 - 1)
          | false => match hasAL.contains kd with
            | true => smp a
            | false => decide (a = 0)
def l06okB (kd a bb : Int) (fr : List Int) (tb : Int) : Bool :=
  inR kd 1 17 && l06aB kd a tb && decide ((fr.length : Int) = arL.getD kd.toNat 0) && fr.all (fun f => inR f 0 23) && (match decide (kd = 17) with | true => inR bb 1 16 | false => decide (bb = 0))
theorem clampA (a tb : Int) : inR a 0 (min (max tb 0) 4 - 1) = (inR a 0 3 && decide (a < tb)) := by
  rw [Bool.eq_iff_iff]
  simp only [inR, Bool.and_eq_true, decide_eq_true_eq]
  omega
/-- Both ways to look at a kind. -/
theorem kind_eq (m : Nat) (h1 : 1 ≤ m) (h2 : m ≤ 17) (a tb : Int) :
    l06aB m a tb = ((match decide ((kT m).2.1 ≤ (kT m).2.2.1) with | true => inR a (kT m).2.1 (kT m).2.2.1 | false => decide (a = 0)) && (!decide ((m : Int) = 13) || decide (a < tb))) ∧
    arL.getD m 0 = (kT m).1 ∧ decide ((m : Int) = 17) = (kT m).2.2.2.2 := by
  have c : m = 1 ∨ m = 2 ∨ m = 3 ∨ m = 4 ∨ m = 5 ∨ m = 6 ∨ m = 7 ∨ m = 8 ∨ m = 9 ∨ m = 10 ∨ m = 11 ∨ m = 12 ∨ m = 13 ∨ m = 14 ∨ m = 15 ∨ m = 16 ∨ m = 17 := by omega
  rcases c with rfl | rfl | rfl | rfl | rfl | rfl | rfl | rfl | rfl | rfl | rfl | rfl | rfl | rfl | rfl | rfl | rfl <;> refine ⟨?_, rfl, rfl⟩
  case inr.inr.inr.inr.inr.inr.inr.inr.inr.inr.inr.inr.inl => exact clampA a tb
  all_goals (show _ = (_ && true); rw [Bool.and_true]; rfl)
theorem bool5 (a b c d e : Bool) : (a && b && c && d && e) = (a && e && d && c && b) := by
  cases a <;> cases b <;> cases c <;> cases d <;> cases e <;> rfl
theorem l06okB_eq (kd a bb : Int) (fr : List Int) (tb : Int) : l06okB kd a bb fr tb = nodeB (kd, a, bb, fr) tb := by
  cases hk : inR kd 1 17 with
  | false => simp [l06okB, nodeB, hk]
  | true =>
    obtain ⟨h1, h2⟩ := inR_iff.1 hk
    obtain ⟨m, rfl⟩ := Int.eq_ofNat_of_zero_le (by omega : 0 ≤ kd)
    obtain ⟨e1, e2, e3⟩ := kind_eq m (by omega) (by omega) a tb
    unfold l06okB nodeB
    simp only [hk, Bool.true_and, e1, Int.toNat_natCast, e2, e3]
    exact bool5 _ _ _ _ _
theorem tab_eq (t : List Int) : ([2, 4, 8, 16].contains (t.length : Int) && l03B t) = tabB t := by
  have e : ([2, 4, 8, 16].contains (t.length : Int)) = (decide (t.length = 2) || decide (t.length = 4) || decide (t.length = 8) || decide (t.length = 16)) := by
    rw [Bool.eq_iff_iff]
    simp only [List.contains_eq_mem, List.mem_cons, List.not_mem_nil, or_false, decide_eq_true_eq, Bool.or_eq_true]
    omega
  unfold tabB l03B
  rw [e]
  cases h : (decide (t.length = 2) || decide (t.length = 4) || decide (t.length = 8) || decide (t.length = 16)) with
  | false => rfl
  | true =>
    simp only [Bool.or_eq_true, decide_eq_true_eq] at h
    rw [decide_eq_true (by omega : t.length ≤ 4000)]
    rfl
/-- A node within a patch, where the reference has looked at it in parts. -/
theorem nodeIn_of {p : PatchD} {n : NodeD} (h1 : nodeB n p.2.1.length = true) (h2 : ¬ (n.1 = 1 ∧ p.1 ≤ n.2.1)) (h3 : ∀ f ∈ n.2.2.2, f < (p.2.2.1.length : Int)) : nodeIn p n = true := by
  have h4 : n.2.2.2.all (fun f => inR f 0 23) = true := by simp only [nodeB, Bool.and_eq_true] at h1; exact h1.1.1.2
  have h5 : idxs p.2.2.1.length n.2.2.2 = true := by
    refine List.all_eq_true.2 fun f hf => inR_iff.2 ⟨(inR_iff.1 (List.all_eq_true.1 h4 f hf)).1, ?_⟩
    have := h3 f hf; omega
  simp only [nodeIn, h1, h5, Bool.true_and]
  simp only [Bool.not_eq_true', Bool.and_eq_false_iff, decide_eq_false_iff_not]
  by_cases h : n.1 = 1
  · exact .inr fun hh => h2 ⟨h, hh⟩
  · exact .inl h
theorem nodeIn_from {p : PatchD} {n : NodeD} {f : Int} (hf : f ∈ n.2.2.2) (h : (p.2.2.1.length : Int) ≤ f) : nodeIn p n = false := by
  cases hh : nodeIn p n with
  | false => rfl
  | true =>
    simp only [nodeIn, Bool.and_eq_true] at hh
    have := idxs_at hh.1.2 hf
    omega
theorem nodeIn_t {p : PatchD} {n : NodeD} (h1 : nodeB n p.2.1.length = true) (h2 : idxs p.2.2.1.length n.2.2.2 = true) (h3 : ¬ (n.1 = 1 ∧ p.1 ≤ n.2.1)) : nodeIn p n = true := by
  simp only [nodeIn, h1, h2, Bool.true_and]
  simp only [Bool.not_eq_true', Bool.and_eq_false_iff, decide_eq_false_iff_not]
  by_cases h : n.1 = 1
  · exact .inr fun hh => h3 ⟨h, hh⟩
  · exact .inl h
theorem nodeIn_parts {p : PatchD} {n : NodeD} (h : nodeIn p n = true) : nodeB n p.2.1.length = true ∧ idxs p.2.2.1.length n.2.2.2 = true ∧ ¬ (n.1 = 1 ∧ p.1 ≤ n.2.1) := by
  simp only [nodeIn, Bool.and_eq_true, Bool.not_eq_true', Bool.and_eq_false_iff, decide_eq_false_iff_not] at h
  exact ⟨h.1.1, h.1.2, fun hh => h.2.elim (fun g => g hh.1) (fun g => g hh.2)⟩
def ordR (ns : List NodeD) : List Int × Bool := match decide ((ordL ns).length = ns.length) with
  | true => (ordL ns, true)
  | false => ([], false)
/-- The code of two patches with the same Inputs. -/
def ask2 (p q : PatchD) : Int := match patchB p && patchB q with
  | false => 1
  | true => match decide (p.1 = q.1) with
    | true => 0
    | false => 6
end Go.Proofs.Ythglggjgjlmhlaa
