/-
 Contracts: wrapped samples (impl.Wrap, spec.l01Wrap, l01Add, l01Mul, l01Sub; PhaseAfter twice).
-/
import Derived.Test.YtflaacndokbddaaDoorRows
import Derived.Test.YtflaacndokbddaaDoorLib
namespace Go.Proofs.YtflaacndokbddaaDoor
open Go.RowKit

theorem implWrap_any (n : Int) (w : World) :
 Calls Tryd.prog 16 #[.int .i64 n] w fun e w' => e = .returned (.int .i64 (wrap32 n)) ∧ w = w' := by
 go_enter Tryd.func16, Tryd.ntmps16
 go_wp2
 go_ret
 exact ⟨ret_int (wrap64_32 n), rfl⟩

theorem specWrap_any (n : Int) (w : World) :
 Calls Tryd.prog 18 #[.int .i64 n] w fun e w' => e = .returned (.int .i64 (wrap32 n)) ∧ w = w' := by
 have hm := mask32 n
 go_enter Tryd.func18, Tryd.ntmps18
 go_wp2
 all_goals (go_ret; exact ⟨ret_int (by unfold wrap32; omega), rfl⟩)

theorem specAdd_any (a b : Int) (w : World) :
 Calls Tryd.prog 27 #[.int .i64 a, .int .i64 b] w fun e w' => e = .returned (.int .i64 (wrap32 (a + b))) ∧ w = w' := by
 have ha := wrap32_bd a
 have hb := wrap32_bd b
 go_enter Tryd.func27, Tryd.ntmps27
 go_wp2_with (go_at_call 18; refine (specWrap_any _ _).mono ?_; rintro e w' ⟨rfl, rfl⟩)
 go_ret
 exact ⟨ret_int (wrap32_add a b), rfl⟩



theorem mul_bd (a b : Int) : -4611686018427387904 ≤ wrap32 a * wrap32 b ∧ wrap32 a * wrap32 b ≤ 4611686018427387904 := by
 have ha := wrap32_bd a
 have hb := wrap32_bd b
 generalize wrap32 a = x at *
 generalize wrap32 b = y at *
 have h : (x * y).natAbs ≤ 2147483648 * 2147483648 := by
  rw [Int.natAbs_mul]
  exact Nat.mul_le_mul (by omega) (by omega)
 omega

theorem specMul_any (a b : Int) (w : World) :
 Calls Tryd.prog 28 #[.int .i64 a, .int .i64 b] w fun e w' => e = .returned (.int .i64 (wrap32 (a * b))) ∧ w = w' := by
 have h := mul_bd a b
 go_enter Tryd.func28, Tryd.ntmps28
 go_wp2_with (go_at_call 18; refine (specWrap_any _ _).mono ?_; rintro e w' ⟨rfl, rfl⟩)
 go_ret
 exact ⟨ret_int (wrap32_mul a b), rfl⟩

theorem specPhaseAfter_any (a b c : Int) (w : World) :
 Calls Tryd.prog 13 #[.int .i64 a, .int .i64 b, .int .i64 c] w fun e w' => e = .returned (.int .i64 (wrap32 (a + b * c))) ∧ w = w' := by
 go_enter Tryd.func13, Tryd.ntmps13
 go_wp2_with (first | (go_at_call 27; refine (specAdd_any _ _ _).mono ?_; rintro e w' ⟨rfl, rfl⟩) | (go_at_call 28; refine (specMul_any _ _ _).mono ?_; rintro e w' ⟨rfl, rfl⟩))
 go_ret
 exact ⟨ret_int (by unfold wrap32; omega), rfl⟩

theorem implPhaseAfter_any (a b c : Int) (w : World) :
 Calls Tryd.prog 7 #[.int .i64 a, .int .i64 b, .int .i64 c] w fun e w' => e = .returned (.int .i64 (wrap32 (a + b * c))) ∧ w = w' := by
 go_enter Tryd.func7, Tryd.ntmps7
 go_wp2_with (go_at_call 16; refine (implWrap_any _ _).mono ?_; rintro e w' ⟨rfl, rfl⟩)
 go_ret
 exact ⟨ret_int (by unfold wrap32 wrap64; omega), rfl⟩



end Go.Proofs.YtflaacndokbddaaDoor
