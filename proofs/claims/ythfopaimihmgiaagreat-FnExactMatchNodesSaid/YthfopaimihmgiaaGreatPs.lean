/-
  Nodes matched and merged by their classes.
-/
import Derived.Test.YthfopaimihmgiaaGreatPq
namespace Go.Proofs.YthfopaimihmgiaaGreat
open Go.RowKit
set_option linter.unusedSimpArgs false
set_option linter.unusedVariables false

def idxV (c : Int) (l : List Int) : Int := idxR (fun x => decide (x = c)) l
def matchL (cl : List Int) (n : Nat) : List Int := (cl.take n).map fun c => idxV c (cl.drop n)
def matchR (p q : PatchD) : List Int × Int := match decide (ask2 p q = 0) with
  | true => (matchL (clsF (l12U p q).2.1 (l12U p q).2.2.1) p.2.2.1.length, 0)
  | false => ([], ask2 p q)
theorem matchR_t {p q : PatchD} (h : ask2 p q = 0) : matchR p q = (matchL (clsF (l12U p q).2.1 (l12U p q).2.2.1) p.2.2.1.length, 0) := by unfold matchR; rw [decide_eq_true h]
theorem matchR_f {p q : PatchD} (h : ¬ ask2 p q = 0) : matchR p q = ([], ask2 p q) := by unfold matchR; rw [decide_eq_false h]
theorem matchR_bd (p q : PatchD) : (matchR p q).1.length ≤ 1000000 := by
  unfold matchR
  split
  · rename_i h
    have := (formedB_parts (patchB_parts (ask2_ok (of_decide_eq_true h)).1).1).1
    simp only [matchL, List.length_map, List.length_take]; omega
  · simp
theorem matchL_len {cl : List Int} {n : Nat} (hn : n ≤ cl.length) : (matchL cl n).length = n := by simp only [matchL, List.length_map, List.length_take]; omega
theorem match_next {cl : List Int} {n k : Nat} (hn : n ≤ cl.length) (hk : k < n) : (matchL cl n).take (k + 1) = (matchL cl n).take k ++ [idxV ((cl.take n).getD k 0) (cl.drop n)] := by
  have hl := matchL_len hn
  have ht : k < (cl.take n).length := by rw [List.length_take]; omega
  rw [take_next (d := (0 : Int)) (by omega)]
  have : (matchL cl n).getD k 0 = idxV ((cl.take n).getD k 0) (cl.drop n) := by
    unfold matchL
    rw [List.getD_eq_getElem?_getD, List.getD_eq_getElem?_getD, List.getElem?_map, List.getElem?_eq_getElem ht]
    rfl
  rw [this]
theorem match_take {cl : List Int} {n k : Nat} (hk : k < n) : (cl.take n).getD k 0 = cl.getD k 0 := by simp [List.getD, hk]
theorem match_drop {cl : List Int} {n k : Nat} : (cl.drop n).getD k 0 = cl.getD (n + k) 0 := by simp [List.getD, List.getElem?_drop]
/-- The classes' own numbering, and the first nodes of the classes. -/
abbrev clsE (p : PatchD) : Nat → Nat → Bool := byKey (phi p.2.1 p.2.2.1 (clsF p.2.1 p.2.2.1))
def mrgX (cl : List Int) (n : NodeD) : NodeD := (n.1, n.2.1, n.2.2.1, clsM cl n.2.2.2)
def mrgN (p : PatchD) (i : Nat) : List NodeD := (divC (clsE p) i).2.map fun f => mrgX (clsF p.2.1 p.2.2.1) (p.2.2.1.getD f n0)
def mergeP (p : PatchD) : PatchD := (p.1, p.2.1, mrgN p p.2.2.1.length, clsM (clsF p.2.1 p.2.2.1) p.2.2.2)
def mergeR (p : PatchD) : PatchD × Int := match patchB p with | true => (mergeP p, 0) | false => ((0, [], [], []), 1)
theorem mergeR_t {p : PatchD} (h : patchB p = true) : mergeR p = (mergeP p, 0) := by unfold mergeR; rw [h]
theorem mergeR_f {p : PatchD} (h : patchB p = false) : mergeR p = ((0, [], [], []), 1) := by unfold mergeR; rw [h]
theorem clsE_all (p : PatchD) : (divC (clsE p) p.2.2.1.length).1 = clsF p.2.1 p.2.2.1 := clsF_fix
theorem divC_pre (E : Nat → Nat → Bool) (i : Nat) : ∀ k, ∃ t, (divC E (i + k)).1 = (divC E i).1 ++ t := by
  intro k
  induction k with
  | zero => exact ⟨[], by simp⟩
  | succ k ih =>
    obtain ⟨t, ht⟩ := ih
    rw [← Nat.add_assoc]
    simp only [divC]
    split
    · exact ⟨t ++ [_], by simp only; rw [ht, List.append_assoc]⟩
    · exact ⟨t ++ [_], by simp only; rw [ht, List.append_assoc]⟩
theorem divC_pre2 (E : Nat → Nat → Bool) (i : Nat) : ∀ k, ∃ t, (divC E (i + k)).2 = (divC E i).2 ++ t := by
  intro k
  induction k with
  | zero => exact ⟨[], by simp⟩
  | succ k ih =>
    obtain ⟨t, ht⟩ := ih
    rw [← Nat.add_assoc]
    simp only [divC]
    split
    · exact ⟨t, by simp only; rw [ht]⟩
    · exact ⟨t ++ [_], by simp only; rw [ht, List.append_assoc]⟩
theorem cls_at {p : PatchD} {i : Nat} (hi : i < p.2.2.1.length) : (clsF p.2.1 p.2.2.1).getD i 0 = (divC (clsE p) (i + 1)).1.getD i 0 := by
  obtain ⟨t, ht⟩ := divC_pre (clsE p) (i + 1) (p.2.2.1.length - (i + 1))
  rw [show i + 1 + (p.2.2.1.length - (i + 1)) = p.2.2.1.length by omega, clsE_all] at ht
  have hl : (divC (clsE p) (i + 1)).1.length = i + 1 := (divC_ok byKey_rfl (i + 1)).len
  rw [ht, List.getD_eq_getElem?_getD, List.getD_eq_getElem?_getD, List.getElem?_append_left (by omega)]
/-- A node is the first of a class, or not. -/
theorem mrg_new {p : PatchD} {i : Nat} (hi : i < p.2.2.1.length) (h : (clsF p.2.1 p.2.2.1).getD i 0 = ((mrgN p i).length : Int)) : mrgN p (i + 1) = mrgN p i ++ [mrgX (clsF p.2.1 p.2.2.1) (p.2.2.1.getD i n0)] := by
  rw [cls_at hi] at h
  have hl : (divC (clsE p) i).1.length = i := (divC_ok byKey_rfl i).len
  unfold mrgN at h ⊢
  simp only [List.length_map] at h
  simp only [divC] at h ⊢
  cases c : decide (idxF (clsE p) i (divC (clsE p) i).2 < (divC (clsE p) i).2.length) with
  | true =>
    rw [c] at h
    simp only at h
    rw [getD_app2 hl.symm] at h
    have := of_decide_eq_true c
    omega
  | false => simp
theorem mrg_old {p : PatchD} {i : Nat} (hi : i < p.2.2.1.length) (h : ¬ (clsF p.2.1 p.2.2.1).getD i 0 = ((mrgN p i).length : Int)) : mrgN p (i + 1) = mrgN p i := by
  rw [cls_at hi] at h
  have hl : (divC (clsE p) i).1.length = i := (divC_ok byKey_rfl i).len
  unfold mrgN at h ⊢
  simp only [List.length_map] at h
  simp only [divC] at h ⊢
  cases c : decide (idxF (clsE p) i (divC (clsE p) i).2 < (divC (clsE p) i).2.length) with
  | true => simp
  | false =>
    rw [c] at h
    simp only at h
    rw [getD_app2 hl.symm] at h
    exact absurd rfl h
theorem mrgN_len (p : PatchD) (i : Nat) : (mrgN p i).length ≤ i := by unfold mrgN; rw [List.length_map]; exact canonN_le _ i
theorem mrg_ct (p : PatchD) : ctP (0, (mergeR p).1.2.1, (mergeR p).1.2.2.1, (mergeR p).1.2.2.2) ≤ 1000000 := by
  unfold mergeR
  split
  · rename_i h
    have hF := formedB_parts (patchB_parts h).1
    have ht := tabsB_parts hF.2.2.1
    refine smallP_ct (a := 4) (b := 24) (c := 4) ht.1 (fun l hl => by have := (ht.2 l hl).1; omega) (Nat.le_trans (mrgN_len p _) hF.1) (fun x hx => ?_) (by simp only [mergeP, clsM, List.length_map]; exact hF.2.1) (by omega)
    simp only [mergeP, mrgN, List.mem_map] at hx
    obtain ⟨f, hf, rfl⟩ := hx
    simp only [mrgX, clsM, List.length_map]
    by_cases hlt : f < p.2.2.1.length
    · have := (smallP_of h).2.2.2.1 _ (getD_mem (d := n0) hlt); exact this
    · rw [List.getD_eq_getElem?_getD, List.getElem?_eq_none (by omega)]; simp [n0]
  · exact smallP_ct (a := 0) (b := 0) (c := 0) (by simp) (fun _ h => by cases h) (by simp) (fun _ h => by cases h) (by simp) (by omega)
/-- The reference: the first node of each class, found from the end. -/
def keepD (cl : List Int) (m : Nat) : Nat → List Int
  | 0 => List.replicate m 0
  | k + 1 => (keepD cl m k).set (cl.getD (cl.length - 1 - k) 0).toNat ((cl.length - 1 - k : Nat) : Int)
theorem keepD_len (cl : List Int) (m : Nat) : ∀ k, (keepD cl m k).length = m := by
  intro k
  induction k with
  | zero => simp [keepD]
  | succ k ih => simp [keepD, ih]
theorem keepD_at {cl : List Int} {m : Nat} (hr : ∀ i, i < cl.length → 0 ≤ cl.getD i 0 ∧ cl.getD i 0 < m) : ∀ k, k ≤ cl.length → ∀ c i : Nat, c < m → cl.length - k ≤ i → i < cl.length → cl.getD i 0 = (c : Int) → (∀ j, cl.length - k ≤ j → j < i → cl.getD j 0 ≠ (c : Int)) → (keepD cl m k).getD c 0 = (i : Int) := by
  intro k
  induction k with
  | zero => intro _ c i _ h1 h2; omega
  | succ k ih =>
    intro hk c i hc h1 h2 he hno
    have hl := keepD_len cl m k
    have hq := hr (cl.length - 1 - k) (by omega)
    simp only [keepD]
    rw [getD_set (by omega)]
    by_cases e : (cl.getD (cl.length - 1 - k) 0).toNat = c
    · rw [if_pos e]
      have : cl.length - 1 - k = i := by
        rcases Nat.lt_or_ge (cl.length - 1 - k) i with h | h
        · exact absurd (by omega) (hno (cl.length - 1 - k) (by omega) h)
        · omega
      rw [this]
    · rw [if_neg e]
      refine ih (by omega) c i hc ?_ h2 he fun j hj1 hj2 => hno j (by omega) hj2
      rcases Nat.lt_or_ge i (cl.length - k) with h | h
      · have : cl.length - 1 - k = i := by omega
        rw [this] at e; omega
      · exact h
theorem keepD_first {p : PatchD} {c : Nat} (hc : c < (divC (clsE p) p.2.2.1.length).2.length) : (keepD (clsF p.2.1 p.2.2.1) (divC (clsE p) p.2.2.1.length).2.length p.2.2.1.length).getD c 0 = (((divC (clsE p) p.2.2.1.length).2.getD c 0 : Nat) : Int) := by
  have hok := divC_ok (E := clsE p) byKey_rfl p.2.2.1.length
  have hcl : (clsF p.2.1 p.2.2.1).length = p.2.2.1.length := clsF_len
  have hlt := hok.lt c hc
  have hval : ∀ i, i < p.2.2.1.length → ∃ q : Nat, (clsF p.2.1 p.2.2.1).getD i 0 = (q : Int) ∧ q < (divC (clsE p) p.2.2.1.length).2.length ∧ clsE p ((divC (clsE p) p.2.2.1.length).2.getD q 0) i = true := fun i hi => by
    rw [← clsE_all]; exact hok.at_ i hi
  have hown : (clsF p.2.1 p.2.2.1).getD ((divC (clsE p) p.2.2.1.length).2.getD c 0) 0 = (c : Int) := by
    obtain ⟨q, q1, q2, q3⟩ := hval _ hlt
    rw [q1, hok.uniq byKey_sym byKey_tr q2 hc q3 (byKey_rfl _)]
  have hk := keepD_at (cl := clsF p.2.1 p.2.2.1) (m := (divC (clsE p) p.2.2.1.length).2.length) (fun i hi => by
    obtain ⟨q, q1, q2, _⟩ := hval i (by omega); rw [q1]; omega) p.2.2.1.length (by omega) c _ hc (by omega) (by omega) hown (fun j hj1 hj2 e => by
      -- no earlier node of this class
      have hj : j < p.2.2.1.length := by omega
      have hpre := cls_at (p := p) hj
      have hd := divC_ok (E := clsE p) byKey_rfl (j + 1)
      obtain ⟨q, q1, q2, q3⟩ := hd.at_ j (by omega)
      rw [hpre, q1] at e
      have hqc : q = c := by omega
      subst hqc
      obtain ⟨t, ht⟩ := divC_pre2 (clsE p) (j + 1) (p.2.2.1.length - (j + 1))
      rw [show j + 1 + (p.2.2.1.length - (j + 1)) = p.2.2.1.length by omega] at ht
      have h9 := hd.lt q q2
      rw [ht, List.getD_eq_getElem?_getD, List.getElem?_append_left q2, ← List.getD_eq_getElem?_getD] at hj2
      omega)
  exact hk
end Go.Proofs.YthfopaimihmgiaaGreat
