/-
  Contract: math/bits.OnesCount at the numbers below 16 (written by gen_ones.py).
-/
import Derived.Test.YtfpbnhghceoleaaWalsh
import Derived.Test.YtfpbnhghceoleaaRows
namespace Go.Proofs.Ytfpbnhghceoleaa
open Go.RowKit

theorem onesCount_0 (w : World) : Calls Try.prog 99 #[.int .u64 0] w fun e w' => e = .returned (.int .i64 0) ∧ w = w' := by
  have e0 : bits .and .i64 0 127 = 0 := by decide
  have e1 : bits .and .u64 0 1085102592571150095 = 0 := by decide
  have e2 : bits .and .u64 0 3689348814741910323 = 0 := by decide
  have e3 : bits .and .u64 0 6148914691236517205 = 0 := by decide
  go_enter Try.func99, Try.ntmps99
  go_wp2
  go_ret
  exact ⟨rfl, rfl⟩

theorem onesCount_1 (w : World) : Calls Try.prog 99 #[.int .u64 1] w fun e w' => e = .returned (.int .i64 1) ∧ w = w' := by
  have e0 : bits .and .i64 1 127 = 1 := by decide
  have e1 : bits .and .u64 0 3689348814741910323 = 0 := by decide
  have e2 : bits .and .u64 0 6148914691236517205 = 0 := by decide
  have e3 : bits .and .u64 1 1085102592571150095 = 1 := by decide
  have e4 : bits .and .u64 1 3689348814741910323 = 1 := by decide
  have e5 : bits .and .u64 1 6148914691236517205 = 1 := by decide
  go_enter Try.func99, Try.ntmps99
  go_wp2
  go_ret
  exact ⟨rfl, rfl⟩

theorem onesCount_2 (w : World) : Calls Try.prog 99 #[.int .u64 2] w fun e w' => e = .returned (.int .i64 1) ∧ w = w' := by
  have e0 : bits .and .i64 1 127 = 1 := by decide
  have e1 : bits .and .u64 0 3689348814741910323 = 0 := by decide
  have e2 : bits .and .u64 1 1085102592571150095 = 1 := by decide
  have e3 : bits .and .u64 1 3689348814741910323 = 1 := by decide
  have e4 : bits .and .u64 1 6148914691236517205 = 1 := by decide
  have e5 : bits .and .u64 2 6148914691236517205 = 0 := by decide
  go_enter Try.func99, Try.ntmps99
  go_wp2
  go_ret
  exact ⟨rfl, rfl⟩

theorem onesCount_3 (w : World) : Calls Try.prog 99 #[.int .u64 3] w fun e w' => e = .returned (.int .i64 2) ∧ w = w' := by
  have e0 : bits .and .i64 2 127 = 2 := by decide
  have e1 : bits .and .u64 0 3689348814741910323 = 0 := by decide
  have e2 : bits .and .u64 1 6148914691236517205 = 1 := by decide
  have e3 : bits .and .u64 2 1085102592571150095 = 2 := by decide
  have e4 : bits .and .u64 2 3689348814741910323 = 2 := by decide
  have e5 : bits .and .u64 3 6148914691236517205 = 1 := by decide
  go_enter Try.func99, Try.ntmps99
  go_wp2
  go_ret
  exact ⟨rfl, rfl⟩

theorem onesCount_4 (w : World) : Calls Try.prog 99 #[.int .u64 4] w fun e w' => e = .returned (.int .i64 1) ∧ w = w' := by
  have e0 : bits .and .i64 1 127 = 1 := by decide
  have e1 : bits .and .u64 1 1085102592571150095 = 1 := by decide
  have e2 : bits .and .u64 1 3689348814741910323 = 1 := by decide
  have e3 : bits .and .u64 2 6148914691236517205 = 0 := by decide
  have e4 : bits .and .u64 4 3689348814741910323 = 0 := by decide
  have e5 : bits .and .u64 4 6148914691236517205 = 4 := by decide
  go_enter Try.func99, Try.ntmps99
  go_wp2
  go_ret
  exact ⟨rfl, rfl⟩

theorem onesCount_5 (w : World) : Calls Try.prog 99 #[.int .u64 5] w fun e w' => e = .returned (.int .i64 2) ∧ w = w' := by
  have e0 : bits .and .i64 2 127 = 2 := by decide
  have e1 : bits .and .u64 1 3689348814741910323 = 1 := by decide
  have e2 : bits .and .u64 2 1085102592571150095 = 2 := by decide
  have e3 : bits .and .u64 2 6148914691236517205 = 0 := by decide
  have e4 : bits .and .u64 5 3689348814741910323 = 1 := by decide
  have e5 : bits .and .u64 5 6148914691236517205 = 5 := by decide
  go_enter Try.func99, Try.ntmps99
  go_wp2
  go_ret
  exact ⟨rfl, rfl⟩

theorem onesCount_6 (w : World) : Calls Try.prog 99 #[.int .u64 6] w fun e w' => e = .returned (.int .i64 2) ∧ w = w' := by
  have e0 : bits .and .i64 2 127 = 2 := by decide
  have e1 : bits .and .u64 1 3689348814741910323 = 1 := by decide
  have e2 : bits .and .u64 2 1085102592571150095 = 2 := by decide
  have e3 : bits .and .u64 3 6148914691236517205 = 1 := by decide
  have e4 : bits .and .u64 5 3689348814741910323 = 1 := by decide
  have e5 : bits .and .u64 6 6148914691236517205 = 4 := by decide
  go_enter Try.func99, Try.ntmps99
  go_wp2
  go_ret
  exact ⟨rfl, rfl⟩

theorem onesCount_7 (w : World) : Calls Try.prog 99 #[.int .u64 7] w fun e w' => e = .returned (.int .i64 3) ∧ w = w' := by
  have e0 : bits .and .i64 3 127 = 3 := by decide
  have e1 : bits .and .u64 1 3689348814741910323 = 1 := by decide
  have e2 : bits .and .u64 3 1085102592571150095 = 3 := by decide
  have e3 : bits .and .u64 3 6148914691236517205 = 1 := by decide
  have e4 : bits .and .u64 6 3689348814741910323 = 2 := by decide
  have e5 : bits .and .u64 7 6148914691236517205 = 5 := by decide
  go_enter Try.func99, Try.ntmps99
  go_wp2
  go_ret
  exact ⟨rfl, rfl⟩

theorem onesCount_8 (w : World) : Calls Try.prog 99 #[.int .u64 8] w fun e w' => e = .returned (.int .i64 1) ∧ w = w' := by
  have e0 : bits .and .i64 1 127 = 1 := by decide
  have e1 : bits .and .u64 1 1085102592571150095 = 1 := by decide
  have e2 : bits .and .u64 1 3689348814741910323 = 1 := by decide
  have e3 : bits .and .u64 4 3689348814741910323 = 0 := by decide
  have e4 : bits .and .u64 4 6148914691236517205 = 4 := by decide
  have e5 : bits .and .u64 8 6148914691236517205 = 0 := by decide
  go_enter Try.func99, Try.ntmps99
  go_wp2
  go_ret
  exact ⟨rfl, rfl⟩

theorem onesCount_9 (w : World) : Calls Try.prog 99 #[.int .u64 9] w fun e w' => e = .returned (.int .i64 2) ∧ w = w' := by
  have e0 : bits .and .i64 2 127 = 2 := by decide
  have e1 : bits .and .u64 1 3689348814741910323 = 1 := by decide
  have e2 : bits .and .u64 2 1085102592571150095 = 2 := by decide
  have e3 : bits .and .u64 4 6148914691236517205 = 4 := by decide
  have e4 : bits .and .u64 5 3689348814741910323 = 1 := by decide
  have e5 : bits .and .u64 9 6148914691236517205 = 1 := by decide
  go_enter Try.func99, Try.ntmps99
  go_wp2
  go_ret
  exact ⟨rfl, rfl⟩

theorem onesCount_10 (w : World) : Calls Try.prog 99 #[.int .u64 10] w fun e w' => e = .returned (.int .i64 2) ∧ w = w' := by
  have e0 : bits .and .i64 2 127 = 2 := by decide
  have e1 : bits .and .u64 1 3689348814741910323 = 1 := by decide
  have e2 : bits .and .u64 10 6148914691236517205 = 0 := by decide
  have e3 : bits .and .u64 2 1085102592571150095 = 2 := by decide
  have e4 : bits .and .u64 5 3689348814741910323 = 1 := by decide
  have e5 : bits .and .u64 5 6148914691236517205 = 5 := by decide
  go_enter Try.func99, Try.ntmps99
  go_wp2
  go_ret
  exact ⟨rfl, rfl⟩

theorem onesCount_11 (w : World) : Calls Try.prog 99 #[.int .u64 11] w fun e w' => e = .returned (.int .i64 3) ∧ w = w' := by
  have e0 : bits .and .i64 3 127 = 3 := by decide
  have e1 : bits .and .u64 1 3689348814741910323 = 1 := by decide
  have e2 : bits .and .u64 11 6148914691236517205 = 1 := by decide
  have e3 : bits .and .u64 3 1085102592571150095 = 3 := by decide
  have e4 : bits .and .u64 5 6148914691236517205 = 5 := by decide
  have e5 : bits .and .u64 6 3689348814741910323 = 2 := by decide
  go_enter Try.func99, Try.ntmps99
  go_wp2
  go_ret
  exact ⟨rfl, rfl⟩

theorem onesCount_12 (w : World) : Calls Try.prog 99 #[.int .u64 12] w fun e w' => e = .returned (.int .i64 2) ∧ w = w' := by
  have e0 : bits .and .i64 2 127 = 2 := by decide
  have e1 : bits .and .u64 12 6148914691236517205 = 4 := by decide
  have e2 : bits .and .u64 2 1085102592571150095 = 2 := by decide
  have e3 : bits .and .u64 2 3689348814741910323 = 2 := by decide
  have e4 : bits .and .u64 6 6148914691236517205 = 4 := by decide
  have e5 : bits .and .u64 8 3689348814741910323 = 0 := by decide
  go_enter Try.func99, Try.ntmps99
  go_wp2
  go_ret
  exact ⟨rfl, rfl⟩

theorem onesCount_13 (w : World) : Calls Try.prog 99 #[.int .u64 13] w fun e w' => e = .returned (.int .i64 3) ∧ w = w' := by
  have e0 : bits .and .i64 3 127 = 3 := by decide
  have e1 : bits .and .u64 13 6148914691236517205 = 5 := by decide
  have e2 : bits .and .u64 2 3689348814741910323 = 2 := by decide
  have e3 : bits .and .u64 3 1085102592571150095 = 3 := by decide
  have e4 : bits .and .u64 6 6148914691236517205 = 4 := by decide
  have e5 : bits .and .u64 9 3689348814741910323 = 1 := by decide
  go_enter Try.func99, Try.ntmps99
  go_wp2
  go_ret
  exact ⟨rfl, rfl⟩

theorem onesCount_14 (w : World) : Calls Try.prog 99 #[.int .u64 14] w fun e w' => e = .returned (.int .i64 3) ∧ w = w' := by
  have e0 : bits .and .i64 3 127 = 3 := by decide
  have e1 : bits .and .u64 14 6148914691236517205 = 4 := by decide
  have e2 : bits .and .u64 2 3689348814741910323 = 2 := by decide
  have e3 : bits .and .u64 3 1085102592571150095 = 3 := by decide
  have e4 : bits .and .u64 7 6148914691236517205 = 5 := by decide
  have e5 : bits .and .u64 9 3689348814741910323 = 1 := by decide
  go_enter Try.func99, Try.ntmps99
  go_wp2
  go_ret
  exact ⟨rfl, rfl⟩

theorem onesCount_15 (w : World) : Calls Try.prog 99 #[.int .u64 15] w fun e w' => e = .returned (.int .i64 4) ∧ w = w' := by
  have e0 : bits .and .i64 4 127 = 4 := by decide
  have e1 : bits .and .u64 10 3689348814741910323 = 2 := by decide
  have e2 : bits .and .u64 15 6148914691236517205 = 5 := by decide
  have e3 : bits .and .u64 2 3689348814741910323 = 2 := by decide
  have e4 : bits .and .u64 4 1085102592571150095 = 4 := by decide
  have e5 : bits .and .u64 7 6148914691236517205 = 5 := by decide
  go_enter Try.func99, Try.ntmps99
  go_wp2
  go_ret
  exact ⟨rfl, rfl⟩

/-- How many ones a number below 16 has. -/
def ones (n : Nat) : Nat := [0, 1, 1, 2, 1, 2, 2, 3, 1, 2, 2, 3, 2, 3, 3, 4].getD n 0
theorem onesCount_any (x : Nat) (hx : x < 16) (w : World) : Calls Try.prog 99 #[.int .u64 x] w fun e w' => e = .returned (.int .i64 (ones x)) ∧ w = w' := by
  have : x = 0 ∨ x = 1 ∨ x = 2 ∨ x = 3 ∨ x = 4 ∨ x = 5 ∨ x = 6 ∨ x = 7 ∨ x = 8 ∨ x = 9 ∨ x = 10 ∨ x = 11 ∨ x = 12 ∨ x = 13 ∨ x = 14 ∨ x = 15 := by omega
  rcases this with rfl | rfl | rfl | rfl | rfl | rfl | rfl | rfl | rfl | rfl | rfl | rfl | rfl | rfl | rfl | rfl
  · exact onesCount_0 w
  · exact onesCount_1 w
  · exact onesCount_2 w
  · exact onesCount_3 w
  · exact onesCount_4 w
  · exact onesCount_5 w
  · exact onesCount_6 w
  · exact onesCount_7 w
  · exact onesCount_8 w
  · exact onesCount_9 w
  · exact onesCount_10 w
  · exact onesCount_11 w
  · exact onesCount_12 w
  · exact onesCount_13 w
  · exact onesCount_14 w
  · exact onesCount_15 w
theorem ones_odd {x : Nat} (hx : x < 16) : ((ones x : Int).tmod 2 == 1) = oddOnes x := by
  have : ∀ x, x < 16 → ((ones x : Int).tmod 2 == 1) = oddOnes x := by decide
  exact this x hx
theorem ones_le {x : Nat} (hx : x < 16) : ones x ≤ 4 := by
  have : ∀ x, x < 16 → ones x ≤ 4 := by decide
  exact this x hx

end Go.Proofs.Ytfpbnhghceoleaa
