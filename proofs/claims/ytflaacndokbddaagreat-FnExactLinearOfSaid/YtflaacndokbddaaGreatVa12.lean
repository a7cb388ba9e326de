/-
  Texts of this claim, joined (part 12). No condition beyond those of the theorems.
-/
import Derived.Test.YtflaacndokbddaaGreatVa11
set_option linter.unusedSimpArgs false
set_option linter.unusedVariables false
namespace Go.Proofs.YtflaacndokbddaaGreat
open Go.RowKit
end Go.Proofs.YtflaacndokbddaaGreat
namespace Go.Proofs.YtflaacndokbddaaGreat
open Go.RowKit
end Go.Proofs.YtflaacndokbddaaGreat
namespace Go.Proofs.YtflaacndokbddaaGreat
open Go.RowKit
end Go.Proofs.YtflaacndokbddaaGreat
namespace Go.Proofs.YtflaacndokbddaaGreat
open Go.RowKit
def OrdInd (ns : List NodeD) : Prop := ∀ P : Nat → Prop, (∀ i : Nat, i < ns.length → (∀ f ∈ waitsL (ns.getD i n0), ∃ j : Nat, f = (j : Int) ∧ j < ns.length ∧ P j) → P i) → ∀ i, i < ns.length → P i
theorem ordInd_of {ns : List NodeD} (hl : (ordL ns).length = ns.length) : OrdInd ns := by
 intro P h
 have hg := ordL_good ns
 have key : ∀ k, k ≤ (ordL ns).length → ∀ x ∈ (ordL ns).take k, P x.toNat := by
  intro k
  induction k with
  | zero => intro _ x hx; simp at hx
  | succ k ih =>
    intro hk x hx
    rw [take_next (d := 0) (by omega), List.mem_append, List.mem_singleton] at hx
    rcases hx with hx | rfl
    · exact ih (by omega) x hx
    · obtain ⟨i, h1, h2, h3, h4⟩ := hg k (by omega)
      rw [h1, Int.toNat_natCast]
      refine h i h2 fun f hf => ?_
      have hm := h4 f hf
      obtain ⟨j, rfl, hj⟩ := hg.at (mem_take_of hm)
      exact ⟨j, rfl, hj, by have := ih (by omega) _ hm; rwa [Int.toNat_natCast] at this⟩
 intro i hi
 have := key _ (Nat.le_refl _) i (by rw [List.take_length]; exact hg.full hl hi)
 rwa [Int.toNat_natCast] at this
theorem cover_le2 : ∀ (m : Nat) (l : List Int), (∀ i : Nat, i < m → (i : Int) ∈ l) → m ≤ l.length := by
 intro m
 induction m with
 | zero => intro l _; omega
 | succ m ih =>
   intro l h
   have h1 := ih (l.erase (m : Int)) fun i hi => (List.mem_erase_of_ne (by omega)).2 (h i (by omega))
   have h2 := List.length_erase_of_mem (h m (by omega))
   have h3 : 0 < l.length := List.length_pos_of_mem (h m (by omega))
   omega
theorem ordGo_ind {ns : List NodeD} (hw : OrdInd ns) : ∀ (k : Nat) {o : List Int}, o.length + k = ns.length → (ordGo ns k o).length = ns.length := by
 intro k
 induction k with
 | zero => intro o h; simpa [ordGo] using h
 | succ k ih =>
   intro o h
   simp only [ordGo]
   split
   · rename_i hn
     exfalso
     have hall : ∀ i : Nat, i < ns.length → (i : Int) ∈ o := hw (fun i => (i : Int) ∈ o) fun i hi hf => by
      apply Classical.byContradiction
      intro hc
      have h1 := List.find?_eq_none.1 hn i (List.mem_range.2 hi)
      apply h1
      simp only [readyB, Bool.and_eq_true, Bool.not_eq_true', List.all_eq_true, List.contains_eq_mem, decide_eq_true_eq, decide_eq_false_iff_not]
      refine ⟨hc, fun f hf' => ?_⟩
      obtain ⟨j, rfl, hj, hm⟩ := hf f hf'
      exact hm
     have := cover_le2 _ _ hall
     omega
   · exact ih (by simp; omega)
theorem ordL_ind {ns : List NodeD} (hw : OrdInd ns) : (ordL ns).length = ns.length := ordGo_ind hw _ (by simp)
def FromR (R : Nat → Nat → Prop) (l m : List Int) : Prop := l.length = m.length ∧ ∀ k, k < l.length → ∃ a b : Nat, l.getD k 0 = (a : Int) ∧ m.getD k 0 = (b : Int) ∧ R a b
def SwapR (R : Nat → Nat → Prop) (l m : List Int) : Prop := l.length = 2 ∧ m.length = 2 ∧ ∃ a b c d : Nat, l.getD 0 0 = (a : Int) ∧ l.getD 1 0 = (b : Int) ∧ m.getD 0 0 = (c : Int) ∧ m.getD 1 0 = (d : Int) ∧ R a d ∧ R b c
structure NSim (ts : List (List Int)) (R : Nat → Nat → Prop) (x y : NodeD) : Prop where
 key : keyOf ts x = keyOf ts y
 ins : FromR R x.2.2.2 y.2.2.2 ∨ (swapB x = true ∧ SwapR R x.2.2.2 y.2.2.2)
structure PSim (p q : PatchD) (R : Nat → Nat → Prop) : Prop where
 inp : p.1 = q.1
 tabs : p.2.1 = q.2.1
 node : ∀ i c, R i c → i < p.2.2.1.length ∧ c < q.2.2.1.length ∧ NSim p.2.1 R (p.2.2.1.getD i n0) (q.2.2.1.getD c n0)
 outs : FromR R p.2.2.2 q.2.2.2
theorem key_parts {ts : List (List Int)} {x y : NodeD} (h : keyOf ts x = keyOf ts y) : x.1 = y.1 ∧ x.2.2.1 = y.2.2.1 ∧ (x.1 ≠ 13 → x.2.1 = y.2.1) ∧ (x.1 = 13 → ts.getD x.2.1.toNat [] = ts.getD y.2.1.toNat []) := by
 have h1 : x.1 = y.1 := by rw [← (keyOf_k (ts := ts) (n := x)).1, h, keyOf_k.1]
 have h2 : x.2.2.1 = y.2.2.1 := by rw [← (keyOf_k (ts := ts) (n := x)).2, h, keyOf_k.2]
 refine ⟨h1, h2, fun h3 => ?_, fun h3 => ?_⟩
 · rw [keyOf_f h3, keyOf_f (h1 ▸ h3)] at h
   exact congrArg (fun (z : Int × Int × Int × List Int) => z.2.2.1) h
 · rw [keyOf_t h3, keyOf_t (h1 ▸ h3)] at h
   exact congrArg (fun (z : Int × Int × Int × List Int) => z.2.2.2) h
theorem NSim.back {ts : List (List Int)} {R : Nat → Nat → Prop} {x y : NodeD} (h : NSim ts R x y) {f : Int} (hf : f ∈ y.2.2.2) : ∃ a b : Nat, (a : Int) ∈ x.2.2.2 ∧ f = (b : Int) ∧ R a b := by
 obtain ⟨k, hk, rfl⟩ := List.mem_iff_getElem.1 hf
 have e : y.2.2.2[k] = y.2.2.2.getD k 0 := by simp [List.getD, hk]
 rcases h.ins with ⟨e1, h1⟩ | ⟨_, l1, l2, a, b, c, d, q1, q2, q3, q4, r1, r2⟩
 · obtain ⟨a, b, e2, e3, r⟩ := h1 k (by omega)
   exact ⟨a, b, by rw [← e2]; exact getD_mem (by omega), by rw [e, e3], r⟩
 · have h01 : k = 0 ∨ k = 1 := by omega
   rcases h01 with rfl | rfl
   · exact ⟨b, c, by rw [← q2]; exact getD_mem (by omega), by rw [e, q3], r2⟩
   · exact ⟨a, d, by rw [← q1]; exact getD_mem (by omega), by rw [e, q4], r1⟩
theorem ordInd_sim {p q : PatchD} {R : Nat → Nat → Prop} (hp : patchB p = true) (hS : PSim p q R) (hcov : ∀ c, c < q.2.2.1.length → ∃ i, R i c) : OrdInd q.2.2.1 := by
 intro P h c hc
 obtain ⟨i, hi⟩ := hcov c hc
 refine ordInd_of (patchB_parts hp).2 (fun i => ∀ c, R i c → P c) ?_ i (hS.node i c hi).1 c hi
 intro i hi hf c hRc
 obtain ⟨_, hc2, hN⟩ := hS.node i c hRc
 refine h c hc2 fun f hf' => ?_
 have hk := (key_parts hN.key).1
 have h6 : ¬ (q.2.2.1.getD c n0).1 = 6 := fun h6 => by unfold waitsL at hf'; rw [decide_eq_true h6] at hf'; cases hf'
 have hf2 : f ∈ (q.2.2.1.getD c n0).2.2.2 := by unfold waitsL at hf'; rw [decide_eq_false h6] at hf'; exact hf'
 obtain ⟨a, b, ha, rfl, r⟩ := hN.back hf2
 obtain ⟨j, e, hj, hP⟩ := hf (a : Int) (by unfold waitsL; rw [decide_eq_false (by omega)]; exact ha)
 obtain rfl : a = j := by omega
 exact ⟨b, rfl, (hS.node a b r).2.1, hP b r⟩
theorem nodeB_from {x : NodeD} {fr : List Int} {tb : Int} (h : nodeB x tb = true) (hl : fr.length = x.2.2.2.length) (hr : ∀ f ∈ fr, 0 ≤ f ∧ f ≤ 23) : nodeB (x.1, x.2.1, x.2.2.1, fr) tb = true := by
 simp only [nodeB, Bool.and_eq_true] at h ⊢
 obtain ⟨⟨⟨⟨⟨h1, h2⟩, h3⟩, h4⟩, h5⟩, h6⟩ := h
 exact ⟨⟨⟨⟨⟨h1, h2⟩, h3⟩, List.all_eq_true.2 fun f hf => inR_t (hr f hf).1 (hr f hf).2⟩, by rw [hl]; exact h5⟩, h6⟩
section
variable {p q : PatchD} {R : Nat → Nat → Prop} (hp : patchB p = true) (hq : patchB q = true) (hS : PSim p q R)
end
end Go.Proofs.YtflaacndokbddaaGreat
namespace Go.Proofs.YtflaacndokbddaaGreat
open Go.RowKit
section
variable {p : PatchD}
end
section
variable {p : PatchD}
end
end Go.Proofs.YtflaacndokbddaaGreat
namespace Go.Proofs.YtflaacndokbddaaGreat
open Go.RowKit
end Go.Proofs.YtflaacndokbddaaGreat
