/-
  Contracts: wrapped samples (impl.Wrap, spec.l01Wrap, l01Add, l01Mul, l01Sub; PhaseAfter twice).
-/
import Derived.Test.YtbahhkpfbmlcjaaRows
import Derived.Test.YtbahhkpfbmlcjaaLib
namespace Go.Proofs.Ytbahhkpfbmlcjaa
open Go.RowKit

theorem implWrap_any (n : Int) (w : World) :
    Calls Try.prog 50 #[.int .i64 n] w fun e w' => e = .returned (.int .i64 (wrap32 n)) ∧ w = w' := by
  go_enter Try.func50, Try.ntmps50
  go_wp2
  go_ret
  exact ⟨ret_int (wrap64_32 n), rfl⟩

theorem specWrap_any (n : Int) (w : World) :
    Calls Try.prog 66 #[.int .i64 n] w fun e w' => e = .returned (.int .i64 (wrap32 n)) ∧ w = w' := by
  have hm := mask32 n
  go_enter Try.func66, Try.ntmps66
  go_wp2
  all_goals (go_ret; exact ⟨ret_int (by unfold wrap32; omega), rfl⟩)

theorem specAdd_any (a b : Int) (w : World) :
    Calls Try.prog 48 #[.int .i64 a, .int .i64 b] w fun e w' => e = .returned (.int .i64 (wrap32 (a + b))) ∧ w = w' := by
  have ha := wrap32_bd a
  have hb := wrap32_bd b
  go_enter Try.func48, Try.ntmps48
  go_wp2_with (go_at_call 66; refine (specWrap_any _ _).mono ?_; rintro e w' ⟨rfl, rfl⟩)
  go_ret
  exact ⟨ret_int (wrap32_add a b), rfl⟩

theorem mul_bd (a b : Int) : -4611686018427387904 ≤ wrap32 a * wrap32 b ∧ wrap32 a * wrap32 b ≤ 4611686018427387904 := by
  have ha := wrap32_bd a
  have hb := wrap32_bd b
  generalize wrap32 a = x at *
  generalize wrap32 b = y at *
  have h : (x * y).natAbs ≤ 2147483648 * 2147483648 := by
    rw [Int.natAbs_mul]
    exact Nat.mul_le_mul (by omega) (by omega)
  omega

theorem specMul_any (a b : Int) (w : World) :
    Calls Try.prog 49 #[.int .i64 a, .int .i64 b] w fun e w' => e = .returned (.int .i64 (wrap32 (a * b))) ∧ w = w' := by
  have h := mul_bd a b
  go_enter Try.func49, Try.ntmps49
  go_wp2_with (go_at_call 66; refine (specWrap_any _ _).mono ?_; rintro e w' ⟨rfl, rfl⟩)
  go_ret
  exact ⟨ret_int (wrap32_mul a b), rfl⟩

theorem specPhaseAfter_any (a b c : Int) (w : World) :
    Calls Try.prog 14 #[.int .i64 a, .int .i64 b, .int .i64 c] w fun e w' => e = .returned (.int .i64 (wrap32 (a + b * c))) ∧ w = w' := by
  go_enter Try.func14, Try.ntmps14
  go_wp2_with (first | (go_at_call 48; refine (specAdd_any _ _ _).mono ?_; rintro e w' ⟨rfl, rfl⟩) | (go_at_call 49; refine (specMul_any _ _ _).mono ?_; rintro e w' ⟨rfl, rfl⟩))
  go_ret
  exact ⟨ret_int (by unfold wrap32; omega), rfl⟩

theorem implPhaseAfter_any (a b c : Int) (w : World) :
    Calls Try.prog 15 #[.int .i64 a, .int .i64 b, .int .i64 c] w fun e w' => e = .returned (.int .i64 (wrap32 (a + b * c))) ∧ w = w' := by
  go_enter Try.func15, Try.ntmps15
  go_wp2_with (go_at_call 50; refine (implWrap_any _ _).mono ?_; rintro e w' ⟨rfl, rfl⟩)
  go_ret
  exact ⟨ret_int (by unfold wrap32 wrap64; omega), rfl⟩

theorem law_FnExactPhaseAfter (a b c : Int) (w : World) (_ : (Lit.int .i64 a).wf = true) (_ : (Lit.int .i64 b).wf = true) (_ : (Lit.int .i64 c).wf = true) :
    Calls Try.prog 3 #[.int .i64 a, .int .i64 b, .int .i64 c] w fun e w' => e = .returned (.bool true) ∧ Below w.heap.size w w' := by
  go_enter Try.func3, Try.ntmps3
  go_wp2_with (first | (go_at_call 14; refine (specPhaseAfter_any _ _ _ _).mono ?_; rintro e w' ⟨rfl, rfl⟩) | (go_at_call 15; refine (implPhaseAfter_any _ _ _ _).mono ?_; rintro e w' ⟨rfl, rfl⟩))
  go_ret
  exact ⟨rfl, Below.refl _ _⟩

end Go.Proofs.Ytbahhkpfbmlcjaa
