/-
  Envelopes stretched, in plain terms; their marks.
-/
import Derived.Test.YtipagbnkkkhlaaaPe
import Derived.Test.YtipagbnkkkhlaaaFrac
namespace Go.Proofs.Ytipagbnkkkhlaaa
open Go.RowKit
set_option linter.unusedSimpArgs false
set_option linter.unusedVariables false

/-- Length, Target. -/
abbrev SegD := Int × Int
/-- Start, Segments, Release. -/
abbrev EnvD := Int × List (Int × Int) × Int
def segB (s : SegD) : Bool := inR s.1 0 4000 && inR s.2 0 65536
def envB (e : EnvD) : Bool := e.2.1.all segB && (inR e.1 0 65536 && (inR e.2.2 0 4000 && decide (e.2.1.length ≤ 8)))
theorem envB_parts {e : EnvD} (h : envB e = true) : e.2.1.all segB = true ∧ inR e.1 0 65536 = true ∧ inR e.2.2 0 4000 = true ∧ e.2.1.length ≤ 8 := by
  simp only [envB, Bool.and_eq_true, decide_eq_true_eq] at h
  exact ⟨h.1, h.2.1, h.2.2.1, h.2.2.2⟩
def divF2 (a b : Int) : Int := a / b
theorem divF2_lo {a b : Int} (hb : 0 < b) (h : a.tmod b < 0) : a.tdiv b - 1 = a / b := by
  have e1 := Int.tmod_add_mul_tdiv a b
  have e2 := Int.emod_add_mul_ediv a b
  have e3 := Int.emod_nonneg a (by omega : b ≠ 0)
  have e4 := Int.emod_lt_of_pos a hb
  have e5 : -b < a.tmod b := by have := Int.lt_tmod_of_pos a hb; omega
  have e6 : b * (a.tdiv b) = b * (a / b) + (a % b - a.tmod b) := by omega
  have e7 : b * (a.tdiv b - a / b) = a % b - a.tmod b := by rw [Int.mul_sub]; omega
  have h1 : a.tdiv b - a / b ≤ 1 := by
    by_cases hh : a.tdiv b - a / b ≤ 1
    · exact hh
    · have : b * 2 ≤ b * (a.tdiv b - a / b) := Int.mul_le_mul_of_nonneg_left (by omega) (by omega)
      omega
  have h2 : 1 ≤ a.tdiv b - a / b := by
    by_cases hh : 1 ≤ a.tdiv b - a / b
    · exact hh
    · have : b * (a.tdiv b - a / b) ≤ b * 0 := Int.mul_le_mul_of_nonneg_left (by omega) (by omega)
      omega
  omega
theorem divF2_hi {a b : Int} (hb : 0 < b) (h : 0 ≤ a.tmod b) : a.tdiv b = a / b := by
  have e1 := Int.tmod_add_mul_tdiv a b
  have e2 := Int.emod_add_mul_ediv a b
  have e3 := Int.emod_nonneg a (by omega : b ≠ 0)
  have e4 := Int.emod_lt_of_pos a hb
  have e5 : a.tmod b < b := Int.tmod_lt_of_pos a hb
  have e7 : b * (a.tdiv b - a / b) = a % b - a.tmod b := by rw [Int.mul_sub]; omega
  have h1 : a.tdiv b - a / b < 1 := by
    by_cases hh : a.tdiv b - a / b < 1
    · exact hh
    · have : b * 1 ≤ b * (a.tdiv b - a / b) := Int.mul_le_mul_of_nonneg_left (by omega) (by omega)
      omega
  have h2 : -1 < a.tdiv b - a / b := by
    by_cases hh : -1 < a.tdiv b - a / b
    · exact hh
    · have : b * (a.tdiv b - a / b) ≤ b * (-1) := Int.mul_le_mul_of_nonneg_left (by omega) (by omega)
      omega
  omega
theorem tdiv_rng {a b : Int} (hb : 0 < b) (h1 : -9223372036854775808 ≤ a) (h2 : a ≤ 9223372036854775807) : -9223372036854775808 ≤ a.tdiv b ∧ a.tdiv b ≤ 9223372036854775807 ∧ (a.tmod b < 0 → -9223372036854775808 ≤ a.tdiv b - 1) := by
  have e1 := Int.tmod_add_mul_tdiv a b
  have e8 : a.tmod b < b := Int.tmod_lt_of_pos a hb
  have e9 : -b < a.tmod b := by have := Int.lt_tmod_of_pos a hb; omega
  have e0 : (a.tdiv b).natAbs ≤ a.natAbs := by
    rw [Int.natAbs_tdiv]; exact Nat.div_le_self _ _
  have e2 : a.tmod b < 0 → -9223372036854775808 ≤ a.tdiv b - 1 := by
    intro h
    by_cases hh : -9223372036854775808 ≤ a.tdiv b - 1
    · exact hh
    · exfalso
      have h3 : a.tdiv b ≤ -9223372036854775808 := by omega
      have h4 : b * a.tdiv b ≤ b * -9223372036854775808 := Int.mul_le_mul_of_nonneg_left h3 (by omega)
      have h5 : b * -9223372036854775808 ≤ 1 * -9223372036854775808 := Int.mul_le_mul_of_nonpos_right (by omega) (by omega)
      omega
  refine ⟨?_, ?_, e2⟩
  · omega
  · by_cases ha : 0 ≤ a
    · omega
    · by_cases hh : a.tdiv b ≤ 9223372036854775807
      · exact hh
      · have h3 : b * 1 ≤ b * a.tdiv b := Int.mul_le_mul_of_nonneg_left (by omega) (by omega)
        omega
theorem wrap_rng (n : Int) : -9223372036854775808 ≤ IntKind.i64.wrap n ∧ IntKind.i64.wrap n ≤ 9223372036854775807 := by
  rw [IntKind.wrap_i64]; omega
/-- A length stretched. -/
def strV (f : Int × Int) (n : Int) : Int := IntKind.i64.wrap (n * f.1) / f.2
def strS (f : Int × Int) (s : SegD) : SegD := (strV f s.1, s.2)
def strE (f : Int × Int) (e : EnvD) : EnvD := (e.1, e.2.1.map (strS f), strV f e.2.2)
def strR (e : EnvD) (f : Int × Int) : EnvD × Int := match envB e && frB f.1 f.2 with
  | false => ((0, [], 0), 1)
  | true => match envB (strE f e) with
    | false => ((0, [], 0), 2)
    | true => (strE f e, 0)
theorem strR_1 {e : EnvD} {f : Int × Int} (h : (envB e && frB f.1 f.2) = false) : strR e f = ((0, [], 0), 1) := by unfold strR; rw [h]
theorem strR_2 {e : EnvD} {f : Int × Int} (h : (envB e && frB f.1 f.2) = true) (k : envB (strE f e) = false) : strR e f = ((0, [], 0), 2) := by unfold strR; rw [h, k]
theorem strR_0 {e : EnvD} {f : Int × Int} (h : (envB e && frB f.1 f.2) = true) (k : envB (strE f e) = true) : strR e f = (strE f e, 0) := by unfold strR; rw [h, k]
def mkSg (k : Int) (_ : SegD) : SegD := (k, k + 1)
def ctSg (_ : SegD) : Nat := 2
abbrev markSg (k : Int) (t : List SegD) : List SegD := markA mkSg ctSg k t
theorem cntSg (t : List SegD) : cntA ctSg t = 2 * t.length := by
  induction t with
  | nil => rfl
  | cons x l ih => simp only [cntA, ih, ctSg, List.length_cons]; omega
theorem markSg_idem (k : Int) (t : List SegD) : markSg k (markSg k t) = markSg k t := markA_idem (fun _ _ => rfl) (fun _ _ => rfl)
theorem heldSg_mark (k : Int) (t : List SegD) : heldA mkSg ctSg k (markSg k t) = k + (2 * t.length : Nat) := by
  rw [heldA_mark (mk := mkSg) (ct := ctSg) (fun _ _ => rfl) (fun _ _ => rfl), cntSg]
theorem strR_bd (e : EnvD) (f : Int × Int) : (strR e f).1.2.1.length ≤ 1000000 := by
  unfold strR
  split
  · simp
  · split
    · simp
    · rename_i h
      have := (envB_parts h).2.2.2
      simp only at this ⊢
      omega
end Go.Proofs.Ytipagbnkkkhlaaa
