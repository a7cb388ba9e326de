/-
  Texts of this claim, joined (part 35). No condition beyond those of the theorems.
-/
import Derived.Test.YtflaacndokbddaaGreatVa13
namespace Go.Proofs.YtflaacndokbddaaGreat
open Go.RowKit
set_option linter.unusedSimpArgs false
set_option linter.unusedVariables false
theorem linK_kT {x : Int} (h : inR x 1 17 = true) : (kT x).2.2.2.1 = linKB x := by
 obtain ⟨h1, h2⟩ := inR_iff.1 h
 have : x = 1 ∨ x = 2 ∨ x = 3 ∨ x = 4 ∨ x = 5 ∨ x = 6 ∨ x = 7 ∨ x = 8 ∨ x = 9 ∨ x = 10 ∨ x = 11 ∨ x = 12 ∨ x = 13 ∨ x = 14 ∨ x = 15 ∨ x = 16 ∨ x = 17 := by omega
 rcases this with h | h | h | h | h | h | h | h | h | h | h | h | h | h | h | h | h <;> subst h <;> rfl
theorem kind_in {p : PatchD} (hF : formedB p = true) {i : Nat} (hi : i < p.2.2.1.length) : inR (p.2.2.1.getD i n0).1 1 17 = true := by
 have h := nodeB_4 hF hi
 unfold nodeB at h
 simp only [Bool.and_eq_true] at h
 exact h.1.1.1.1.1
theorem nodeC_at {p : PatchD} (hF : formedB p = true) {i : Nat} (hi : i < p.2.2.1.length) : nodeC (p.2.2.1.getD i n0) := ⟨_, nodeB_4 hF hi⟩
def cntK (ns : List NodeD) (kp : List Int) (k : Nat) : Nat := ((kp.take k).map fun i => (startV (ns.getD i.toNat n0)).length).sum
theorem cntK_next {ns : List NodeD} {kp : List Int} {k : Nat} (h : k < kp.length) : cntK ns kp (k + 1) = cntK ns kp k + (startV (ns.getD (kp.getD k 0).toNat n0)).length := by
 unfold cntK
 rw [take_next (d := (0 : Int)) h, List.map_append, List.sum_append]; simp
theorem cntK_16 {p : PatchD} (hF : formedB p = true) {kp : List Int} (hr : ∀ j, j < kp.length → 0 ≤ kp.getD j 0 ∧ kp.getD j 0 < p.2.2.1.length) : ∀ k, k ≤ kp.length → cntK p.2.2.1 kp k ≤ 16 * k := by
 intro k
 induction k with
 | zero => intro _; simp [cntK]
 | succ k ih =>
   intro h
   have h1 := ih (by omega)
   have h2 := cntK_next (ns := p.2.2.1) (kp := kp) (k := k) (by omega)
   have h3 := start_16 hF (i := (kp.getD k 0).toNat) (by have := hr k (by omega); omega)
   omega
def cntT (p : PatchD) : Nat := cntK p.2.2.1 (needF p) (needF p).length
theorem cntT_trim (p : PatchD) : cntT p = cellN (trimP p).2.2.1 := by
 rw [trim_cells]; unfold cntT cntK; rw [List.take_length]
theorem drop_off {ns : List NodeD} {c : List Int} {k : Nat} (h : k < ns.length) : (c.drop (offN ns k)).drop (startV (ns.getD k n0)).length = c.drop (offN ns (k + 1)) := by
 rw [List.drop_drop, offN_next h]
def rowC (cols : List (List Int)) (i : Nat) : List Int := cols.map fun c => c.getD i 0
def rowsP (cols : List (List Int)) (rows i : Nat) : List (List Int) := ((List.range i).map (rowC cols)) ++ List.replicate (rows - i) []
theorem rowsP_len {cols : List (List Int)} {rows i : Nat} (h : i ≤ rows) : (rowsP cols rows i).length = rows := by simp [rowsP]; omega
theorem rowsP_0 (cols : List (List Int)) (rows : Nat) : rowsP cols rows 0 = List.replicate rows [] := by simp [rowsP]
theorem rowsP_all (cols : List (List Int)) (rows : Nat) : rowsP cols rows rows = (List.range rows).map (rowC cols) := by simp [rowsP]
def rowsQ (cols : List (List Int)) (rows i j : Nat) : List (List Int) := (rowsP cols rows i).set i (rowC (cols.take j) i)
theorem rowsQ_len {cols : List (List Int)} {rows i j : Nat} (h : i ≤ rows) : (rowsQ cols rows i j).length = rows := by rw [rowsQ, List.length_set, rowsP_len h]
theorem rowsQ_at {cols : List (List Int)} {rows i j : Nat} (h : i < rows) : (rowsQ cols rows i j).getD i [] = rowC (cols.take j) i := by
 have hl : i < (rowsP cols rows i).length := by rw [rowsP_len (by omega)]; exact h
 simp [rowsQ, List.getD, hl]
theorem rowsQ_0 {cols : List (List Int)} {rows i : Nat} : (rowsP cols rows i).set i [] = rowsQ cols rows i 0 := by simp [rowsQ, rowC]
theorem rowC_next {cols : List (List Int)} {i j : Nat} (h : j < cols.length) : rowC (cols.take j) i ++ [(cols.getD j []).getD i 0] = rowC (cols.take (j + 1)) i := by
 unfold rowC; rw [take_next (d := ([] : List Int)) h, List.map_append]; rfl
theorem rowsQ_next {cols : List (List Int)} {rows i j : Nat} (h : i < rows) (hj : j < cols.length) : (rowsQ cols rows i j).set i (rowC (cols.take j) i ++ [(cols.getD j []).getD i 0]) = rowsQ cols rows i (j + 1) := by
 rw [rowC_next hj]; unfold rowsQ; rw [List.set_set]
theorem rowsQ_end {cols : List (List Int)} {rows i j : Nat} (h : i < rows) (hj : cols.length ≤ j) : rowsQ cols rows i j = rowsP cols rows (i + 1) := by
 unfold rowsQ
 rw [List.take_of_length_le hj]
 unfold rowsP
 rw [show rows - i = (rows - (i + 1)) + 1 by omega, List.replicate_succ, List.set_append_right _ _ (by simp)]
 simp [List.range_succ]
end Go.Proofs.YtflaacndokbddaaGreat
