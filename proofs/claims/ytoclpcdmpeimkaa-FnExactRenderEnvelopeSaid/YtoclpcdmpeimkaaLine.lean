/-
  Contracts: levels on lines; LineAt of both sides.
-/
import Derived.Test.YtoclpcdmpeimkaaNum
namespace Go.Proofs.Ytoclpcdmpeimkaa
open Go.RowKit

theorem isLevel_any (n : Int) (w : World) : Calls Try.prog 76 #[.int .i64 n] w fun e w' => e = .returned (.bool (inB n 0 65536)) ∧ w = w' := by
  go_enter Try.func76, Try.ntmps76
  go_wp2_with (go_at_call 77; refine (within_any _ _ _ _).mono ?_; rintro e w' ⟨rfl, rfl⟩)
  go_ret
  exact ⟨rfl, rfl⟩
theorem isCount_any (n : Int) (w : World) : Calls Try.prog 56 #[.int .i64 n] w fun e w' => e = .returned (.bool (inB n 0 4000)) ∧ w = w' := by
  go_enter Try.func56, Try.ntmps56
  go_wp2_with (go_at_call 77; refine (within_any _ _ _ _).mono ?_; rintro e w' ⟨rfl, rfl⟩)
  go_ret
  exact ⟨rfl, rfl⟩
theorem l14Level_any (n : Int) (w : World) : Calls Try.prog 74 #[.int .i64 n] w fun e w' => e = .returned (.bool (inB n 0 65536)) ∧ w = w' := by
  go_enter Try.func74, Try.ntmps74
  go_wp2_with (go_at_call 52; refine (l00In_any _ _ _ _).mono ?_; rintro e w' ⟨rfl, rfl⟩)
  go_ret
  exact ⟨rfl, rfl⟩
theorem l14Length_any (n : Int) (w : World) : Calls Try.prog 53 #[.int .i64 n] w fun e w' => e = .returned (.bool (inB n 0 4000)) ∧ w = w' := by
  go_enter Try.func53, Try.ntmps53
  go_wp2_with (go_at_call 52; refine (l00In_any _ _ _ _).mono ?_; rintro e w' ⟨rfl, rfl⟩)
  go_ret
  exact ⟨rfl, rfl⟩

/-- The level of a line. -/
def lineF (f t l a : Int) : Int := if a = l then t else f + (t - f) * a / l

theorem line_bd {f t l a : Int} (hf : 0 ≤ f ∧ f ≤ 65536) (ht : 0 ≤ t ∧ t ≤ 65536) (hl : 0 ≤ l ∧ l ≤ 4000) (ha : 0 ≤ a ∧ a ≤ l) :
    -262144000 ≤ (t - f) * a ∧ (t - f) * a ≤ 262144000 := by
  have := mul_abs (a := t - f) (b := a) (A := 65536) (B := 4000) (by omega) (by omega)
  omega

theorem lineAt_any (f t l a : Int) (w : World) (hf : 0 ≤ f ∧ f ≤ 65536) (ht : 0 ≤ t ∧ t ≤ 65536) (hl : 0 ≤ l ∧ l ≤ 4000) (ha : 0 ≤ a ∧ a ≤ l) :
    Calls Try.prog 89 #[.int .i64 f, .int .i64 t, .int .i64 l, .int .i64 a] w fun e w' => e = .returned (.int .i64 (lineF f t l a)) ∧ w = w' := by
  have hb := line_bd hf ht hl ha
  by_cases h : a = l
  · have e : (a == l) = true := by simpa using h
    go_enter Try.func89, Try.ntmps89
    go_wp2
    go_ret
    exact ⟨ret_int (by simp [lineF, h]), rfl⟩
  · have e : (a == l) = false := by simpa using h
    have hq : -262144000 ≤ (t - f) * a / l ∧ (t - f) * a / l ≤ 262144000 := by
      constructor
      · rw [Int.le_ediv_iff_mul_le (by omega)]; have : (-262144000 : Int) * l ≤ -262144000 := by omega
        omega
      · have := Int.ediv_le_ediv (c := l) (by omega) hb.2
        have := Int.ediv_le_self l (by omega : (0:Int) ≤ 262144000)
        omega
    go_enter Try.func89, Try.ntmps89
    go_wp2_with (go_at_call 48; refine (floorDiv_any _ _ _ (by omega) (by omega)).mono ?_; rintro e w' ⟨rfl, rfl⟩)
    go_ret
    exact ⟨ret_int (by simp [lineF, h]), rfl⟩

theorem l14Line_any (f t l a : Int) (w : World) (hf : 0 ≤ f ∧ f ≤ 65536) (ht : 0 ≤ t ∧ t ≤ 65536) (hl : 0 ≤ l ∧ l ≤ 4000) (ha : 0 ≤ a ∧ a ≤ l) :
    Calls Try.prog 82 #[.int .i64 f, .int .i64 t, .int .i64 l, .int .i64 a] w fun e w' => e = .returned (.int .i64 (lineF f t l a)) ∧ w = w' := by
  have hb := line_bd hf ht hl ha
  by_cases h : a = l
  · have e : l ≤ a := by omega
    go_enter Try.func82, Try.ntmps82
    go_wp2
    go_ret
    exact ⟨ret_int (by simp [lineF, h]), rfl⟩
  · have e : a < l := by omega
    have hq : -262144000 ≤ (t - f) * a / l ∧ (t - f) * a / l ≤ 262144000 := by
      constructor
      · rw [Int.le_ediv_iff_mul_le (by omega)]; have : (-262144000 : Int) * l ≤ -262144000 := by omega
        omega
      · have := Int.ediv_le_ediv (c := l) (by omega) hb.2
        have := Int.ediv_le_self l (by omega : (0:Int) ≤ 262144000)
        omega
    go_enter Try.func82, Try.ntmps82
    go_wp2_with (go_at_call 43; refine (l02Div_any _ _ _ (by omega) (by omega)).mono ?_; rintro e w' ⟨rfl, rfl⟩)
    go_ret
    exact ⟨ret_int (by simp [lineF, h]), rfl⟩

end Go.Proofs.Ytoclpcdmpeimkaa
