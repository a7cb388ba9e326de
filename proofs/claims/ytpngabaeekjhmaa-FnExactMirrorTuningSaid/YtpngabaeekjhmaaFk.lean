/-
  Frequencies of keys: the plain law.
-/
import Derived.Test.YtpngabaeekjhmaaBw
import Derived.Test.YtpngabaeekjhmaaBx
import Derived.Test.YtpngabaeekjhmaaRedP
namespace Go.Proofs.Ytpngabaeekjhmaa
open Go.RowKit
set_option linter.unusedSimpArgs false
set_option linter.unusedVariables false

def goodF (x : Int × Int) : Prop := frB x.1 x.2 = true ∧ 0 < x.1
def mulP (x y : Int × Int) : (Int × Int) × Int := mulF x.1 x.2 y.1 y.2
theorem mulP_good {x y : Int × Int} (hx : goodF x) (hy : goodF y) (h : (mulP x y).2 = 0) : goodF (mulP x y).1 := by
  have b1 := frB_bd hx.1
  have b2 := frB_bd hy.1
  unfold mulP mulF at *
  rw [if_pos ⟨hx.1, hy.1⟩] at *
  have := mkF_good (Int.mul_pos hx.2 hy.2) (Int.mul_pos (show 0 < x.2 by omega) (show 0 < y.2 by omega)) h
  exact ⟨this.1, this.2.1⟩
theorem mkF_code {n d : Int} (h : d ≠ 0) (hc : (mkF n d).2 ≠ 0) : mkF n d = ((0, 0), 2) := by
  unfold mkF at *
  rw [if_neg h] at *
  split at hc
  · rename_i h1; rw [if_pos h1]
  · exact absurd rfl hc
theorem mulP_code {x y : Int × Int} (hx : goodF x) (hy : goodF y) (h : (mulP x y).2 ≠ 0) : (mulP x y).2 = 2 := by
  have b1 := frB_bd hx.1
  have b2 := frB_bd hy.1
  unfold mulP mulF at *
  rw [if_pos ⟨hx.1, hy.1⟩] at *
  have hd := Int.mul_pos (show 0 < x.2 by omega) (show 0 < y.2 by omega)
  rw [mkF_code (by omega) h]
def powF (oc : Int × Int) : Nat → Int × Int → Option (Int × Int)
  | 0, x => some x
  | m + 1, x => if (mulP x oc).2 = 0 then powF oc m (mulP x oc).1 else none
theorem powF_yes {oc x : Int × Int} {q k : Nat} (hk : k < q) (h : (mulP x oc).2 = 0) : powF oc (q - k) x = powF oc (q - (k + 1)) (mulP x oc).1 := by
  rw [show q - k = (q - (k + 1)) + 1 by omega, powF, if_pos h]
theorem powF_no {oc x : Int × Int} {q k : Nat} (hk : k < q) (h : (mulP x oc).2 ≠ 0) : powF oc (q - k) x = none := by
  rw [show q - k = (q - (k + 1)) + 1 by omega, powF, if_neg h]
/-- The frequency of key m. -/
def freqR (bs oc : Int × Int) (ps : List (Int × Int)) (m : Nat) : (Int × Int) × Int :=
  match powF oc (m / ps.length) bs with
  | none => ((0, 0), 2)
  | some x => mulP x (ps.getD (m % ps.length) (0, 0))
theorem freqR_none {bs oc : Int × Int} {ps : List (Int × Int)} {m : Nat} (h : powF oc (m / ps.length) bs = none) : freqR bs oc ps m = ((0, 0), 2) := by unfold freqR; rw [h]
theorem freqR_some {bs oc x : Int × Int} {ps : List (Int × Int)} {m : Nat} (h : powF oc (m / ps.length) bs = some x) : freqR bs oc ps m = mulP x (ps.getD (m % ps.length) (0, 0)) := by unfold freqR; rw [h]
theorem tunB_parts {bn bd : Int} {oc : Int × Int} {ps : List (Int × Int)} (h : tunB bn bd oc ps = true) : goodF (bn, bd) ∧ goodF oc ∧ 1 ≤ ps.length ∧ ps.length ≤ 24 := by
  simp only [tunB, Bool.and_eq_true, decide_eq_true_eq, inR] at h
  obtain ⟨⟨⟨⟨⟨⟨⟨h1, h2⟩, h3⟩, h4⟩, h5⟩, h6⟩, h7⟩, h8⟩ := h
  have b := frB_bd h2
  refine ⟨⟨h1, h4⟩, ⟨h2, ?_⟩, by omega, by omega⟩
  unfold cmpF at h5
  split at h5
  · omega
  · split at h5 <;> omega
/-- FrequencyOfKey, whole. -/
def fokR (bn bd : Int) (oc : Int × Int) (ps : List (Int × Int)) (key : Int) : (Int × Int) × Int :=
  if tunB bn bd oc ps = true then (if inR key 0 127 = true then freqR (bn, bd) oc ps key.toNat else ((0, 0), 2)) else ((0, 0), 1)
end Go.Proofs.Ytpngabaeekjhmaa
