/-
  Contracts: wrapped samples (impl.Wrap, spec.l01Wrap, l01Add, l01Mul, l01Sub; PhaseAfter twice).
-/
import Derived.Test.YtfpbnhghceoleaaRows
import Derived.Test.YtfpbnhghceoleaaLib
namespace Go.Proofs.Ytfpbnhghceoleaa
open Go.RowKit

theorem implWrap_any (n : Int) (w : World) :
    Calls Try.prog 94 #[.int .i64 n] w fun e w' => e = .returned (.int .i64 (wrap32 n)) ∧ w = w' := by
  go_enter Try.func94, Try.ntmps94
  go_wp2
  go_ret
  exact ⟨ret_int (wrap64_32 n), rfl⟩

theorem specWrap_any (n : Int) (w : World) :
    Calls Try.prog 129 #[.int .i64 n] w fun e w' => e = .returned (.int .i64 (wrap32 n)) ∧ w = w' := by
  have hm := mask32 n
  go_enter Try.func129, Try.ntmps129
  go_wp2
  all_goals (go_ret; exact ⟨ret_int (by unfold wrap32; omega), rfl⟩)

theorem specAdd_any (a b : Int) (w : World) :
    Calls Try.prog 97 #[.int .i64 a, .int .i64 b] w fun e w' => e = .returned (.int .i64 (wrap32 (a + b))) ∧ w = w' := by
  have ha := wrap32_bd a
  have hb := wrap32_bd b
  go_enter Try.func97, Try.ntmps97
  go_wp2_with (go_at_call 129; refine (specWrap_any _ _).mono ?_; rintro e w' ⟨rfl, rfl⟩)
  go_ret
  exact ⟨ret_int (wrap32_add a b), rfl⟩

theorem specSub_any (a b : Int) (w : World) :
    Calls Try.prog 98 #[.int .i64 a, .int .i64 b] w fun e w' => e = .returned (.int .i64 (wrap32 (a - b))) ∧ w = w' := by
  have ha := wrap32_bd a
  have hb := wrap32_bd b
  go_enter Try.func98, Try.ntmps98
  go_wp2_with (go_at_call 129; refine (specWrap_any _ _).mono ?_; rintro e w' ⟨rfl, rfl⟩)
  go_ret
  exact ⟨ret_int (wrap32_sub a b), rfl⟩

theorem mul_bd (a b : Int) : -4611686018427387904 ≤ wrap32 a * wrap32 b ∧ wrap32 a * wrap32 b ≤ 4611686018427387904 := by
  have ha := wrap32_bd a
  have hb := wrap32_bd b
  generalize wrap32 a = x at *
  generalize wrap32 b = y at *
  have h : (x * y).natAbs ≤ 2147483648 * 2147483648 := by
    rw [Int.natAbs_mul]
    exact Nat.mul_le_mul (by omega) (by omega)
  omega

theorem specMul_any (a b : Int) (w : World) :
    Calls Try.prog 115 #[.int .i64 a, .int .i64 b] w fun e w' => e = .returned (.int .i64 (wrap32 (a * b))) ∧ w = w' := by
  have h := mul_bd a b
  go_enter Try.func115, Try.ntmps115
  go_wp2_with (go_at_call 129; refine (specWrap_any _ _).mono ?_; rintro e w' ⟨rfl, rfl⟩)
  go_ret
  exact ⟨ret_int (wrap32_mul a b), rfl⟩

theorem specPhaseAfter_any (a b c : Int) (w : World) :
    Calls Try.prog 70 #[.int .i64 a, .int .i64 b, .int .i64 c] w fun e w' => e = .returned (.int .i64 (wrap32 (a + b * c))) ∧ w = w' := by
  go_enter Try.func70, Try.ntmps70
  go_wp2_with (first | (go_at_call 97; refine (specAdd_any _ _ _).mono ?_; rintro e w' ⟨rfl, rfl⟩) | (go_at_call 115; refine (specMul_any _ _ _).mono ?_; rintro e w' ⟨rfl, rfl⟩))
  go_ret
  exact ⟨ret_int (by unfold wrap32; omega), rfl⟩

theorem implPhaseAfter_any (a b c : Int) (w : World) :
    Calls Try.prog 75 #[.int .i64 a, .int .i64 b, .int .i64 c] w fun e w' => e = .returned (.int .i64 (wrap32 (a + b * c))) ∧ w = w' := by
  go_enter Try.func75, Try.ntmps75
  go_wp2_with (go_at_call 94; refine (implWrap_any _ _).mono ?_; rintro e w' ⟨rfl, rfl⟩)
  go_ret
  exact ⟨ret_int (by unfold wrap32 wrap64; omega), rfl⟩



end Go.Proofs.Ytfpbnhghceoleaa
