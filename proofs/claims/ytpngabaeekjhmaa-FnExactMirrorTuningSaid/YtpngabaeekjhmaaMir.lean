/-
  MirrorTuning: the plain law.
-/
import Derived.Test.YtpngabaeekjhmaaBy
import Derived.Test.YtpngabaeekjhmaaBz
namespace Go.Proofs.Ytpngabaeekjhmaa
open Go.RowKit

def divP (x y : Int × Int) : (Int × Int) × Int := divF x.1 x.2 y.1 y.2
theorem divP_code {x y : Int × Int} (hx : frB x.1 x.2 = true) (hy : frB y.1 y.2 = true) (h : (divP x y).2 ≠ 0) : (divP x y).2 = 2 := by
  have b1 := frB_bd hx
  have b2 := frB_bd hy
  unfold divP divF at *
  rw [if_pos ⟨hx, hy⟩] at *
  by_cases h0 : y.1 = 0
  · rw [if_pos h0]
  · rw [if_neg h0] at h ⊢
    rw [mkF_code (Int.mul_ne_zero (by omega) h0) h]
theorem tunB_frAll {bn bd : Int} {oc : Int × Int} {ps : List (Int × Int)} (h : tunB bn bd oc ps = true) : frAll ps = true := by
  simp only [tunB, Bool.and_eq_true] at h; exact h.1.1.1.1.1.2
def mirL (oc : Int × Int) (ps : List (Int × Int)) : Nat → List (Int × Int) → Option (List (Int × Int))
  | 0, acc => some acc
  | j + 1, acc => if (divP oc (ps.getD (j + 1) (0, 0))).2 = 0 then mirL oc ps j (acc ++ [(divP oc (ps.getD (j + 1) (0, 0))).1]) else none
theorem mirL_yes {oc : Int × Int} {ps acc : List (Int × Int)} {j : Nat} (hj : 0 < j) (h : (divP oc (ps.getD j (0, 0))).2 = 0) : mirL oc ps j acc = mirL oc ps (j - 1) (acc ++ [(divP oc (ps.getD j (0, 0))).1]) := by
  obtain ⟨i, rfl⟩ : ∃ i, j = i + 1 := ⟨j - 1, by omega⟩
  rw [mirL, if_pos h, Nat.add_sub_cancel]
theorem mirL_no {oc : Int × Int} {ps acc : List (Int × Int)} {j : Nat} (hj : 0 < j) (h : (divP oc (ps.getD j (0, 0))).2 ≠ 0) : mirL oc ps j acc = none := by
  obtain ⟨i, rfl⟩ : ∃ i, j = i + 1 := ⟨j - 1, by omega⟩
  rw [mirL, if_neg h]
theorem mirL_len {oc : Int × Int} {ps : List (Int × Int)} : ∀ {j : Nat} {acc l : List (Int × Int)}, mirL oc ps j acc = some l → l.length = acc.length + j := by
  intro j
  induction j with
  | zero => intro acc l h; simp only [mirL, Option.some.injEq] at h; subst h; rfl
  | succ j ih =>
    intro acc l h
    rw [mirL] at h
    split at h
    · have := ih h; simp at this; omega
    · cases h
/-- MirrorTuning, whole. -/
def mirR (bs oc : Int × Int) (ps : List (Int × Int)) : ((Int × Int) × (Int × Int) × List (Int × Int)) × Int :=
  if tunB bs.1 bs.2 oc ps = true then
    match mirL oc ps (ps.length - 1) [(1, 1)] with
    | none => (((0, 0), (0, 0), []), 2)
    | some l => ((bs, oc, l), 0)
  else (((0, 0), (0, 0), []), 1)
theorem mirR_bad {bs oc : Int × Int} {ps : List (Int × Int)} (h : tunB bs.1 bs.2 oc ps = false) : mirR bs oc ps = (((0, 0), (0, 0), []), 1) := by
  unfold mirR; rw [if_neg (by rw [h]; decide)]
theorem mirR_none {bs oc : Int × Int} {ps : List (Int × Int)} (h : tunB bs.1 bs.2 oc ps = true) (hl : mirL oc ps (ps.length - 1) [(1, 1)] = none) : mirR bs oc ps = (((0, 0), (0, 0), []), 2) := by
  unfold mirR; rw [if_pos h, hl]
theorem mirR_some {bs oc : Int × Int} {ps l : List (Int × Int)} (h : tunB bs.1 bs.2 oc ps = true) (hl : mirL oc ps (ps.length - 1) [(1, 1)] = some l) : mirR bs oc ps = ((bs, oc, l), 0) := by
  unfold mirR; rw [if_pos h, hl]
theorem mirR_len (bs oc : Int × Int) (ps : List (Int × Int)) : (mirR bs oc ps).1.2.2.length ≤ 24 := by
  by_cases h : tunB bs.1 bs.2 oc ps = true
  · have hp := tunB_parts h
    cases hl : mirL oc ps (ps.length - 1) [(1, 1)] with
    | none => rw [mirR_none h hl]; simp
    | some l => rw [mirR_some h hl]; have := mirL_len hl; simp at this ⊢; omega
  · rw [mirR_bad (by simpa using h)]; simp
end Go.Proofs.Ytpngabaeekjhmaa
