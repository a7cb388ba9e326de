/-
  Contracts of small functions over numbers: bounds, sizes, quotients rounded down, greatest common divisors.
-/
import Derived.Test.YtipagbnkkkhlaaaRows
import Derived.Test.YtipagbnkkkhlaaaGp
import Derived.Deep.QuietTactic
import Derived.BigQuiet
import Derived.Lib.Hide
namespace Go.Proofs.Ytipagbnkkkhlaaa
open Go.RowKit

theorem within_any (n lo hi : Int) (w : World) :
    Calls Try.prog 32 #[.int .i64 n, .int .i64 lo, .int .i64 hi] w fun e w' => e = .returned (.bool (inB n lo hi)) ∧ w = w' := by
  by_cases h1 : lo ≤ n <;> by_cases h2 : n ≤ hi
  all_goals
    go_enter Try.func32, Try.ntmps32
    go_wp2
    go_ret
    exact ⟨ret_bool (by simp [inB, h1, h2]), rfl⟩

theorem l00In_any (n lo hi : Int) (w : World) :
    Calls Try.prog 26 #[.int .i64 n, .int .i64 lo, .int .i64 hi] w fun e w' => e = .returned (.bool (inB n lo hi)) ∧ w = w' := by
  by_cases h1 : lo ≤ n <;> by_cases h2 : n ≤ hi
  all_goals
    go_enter Try.func26, Try.ntmps26
    go_wp2
    go_ret
    exact ⟨ret_bool (by simp [inB, h1, h2]), rfl⟩

theorem within_val {n lo hi : Int} {b : Bool} (h : inB n lo hi = b) (w : World) :
    Calls Try.prog 32 #[.int .i64 n, .int .i64 lo, .int .i64 hi] w fun e w' => e = .returned (.bool b) ∧ w = w' := by
  subst h; exact within_any n lo hi w
theorem l00In_val {n lo hi : Int} {b : Bool} (h : inB n lo hi = b) (w : World) :
    Calls Try.prog 26 #[.int .i64 n, .int .i64 lo, .int .i64 hi] w fun e w' => e = .returned (.bool b) ∧ w = w' := by
  subst h; exact l00In_any n lo hi w







theorem floorDiv_any (a b : Int) (w : World) (hb : 0 < b) (ha : -9223372036854775808 ≤ a ∧ a ≤ 9223372036854775807) :
    Calls Try.prog 20 #[.int .i64 a, .int .i64 b] w fun e w' => e = .returned (.int .i64 (a / b)) ∧ w = w' := by
  have hf := floor_bd hb ha
  by_cases h : a.tmod b < 0
  · have e := floor_neg hb h
    go_enter Try.func20, Try.ntmps20
    go_wp2
    go_ret
    exact ⟨rfl, rfl⟩
  · have e := floor_pos hb (by omega : 0 ≤ a.tmod b)
    go_enter Try.func20, Try.ntmps20
    go_wp2
    go_ret
    exact ⟨ret_int (by omega), rfl⟩

theorem l02Div_any (a b : Int) (w : World) (hb : 0 < b) (ha : -9223372036854775808 ≤ a ∧ a ≤ 9223372036854775807) :
    Calls Try.prog 15 #[.int .i64 a, .int .i64 b] w fun e w' => e = .returned (.int .i64 (a / b)) ∧ w = w' := by
  have hf := floor_bd hb ha
  by_cases h : a.tmod b < 0
  · have e := floor_neg hb h
    go_enter Try.func15, Try.ntmps15
    go_wp2
    go_ret
    exact ⟨rfl, rfl⟩
  · have e := floor_pos hb (by omega : 0 ≤ a.tmod b)
    go_enter Try.func15, Try.ntmps15
    go_wp2
    go_ret
    exact ⟨ret_int (by omega), rfl⟩

theorem magnitude_any (n : Int) (w : World) (hn : -9223372036854775808 ≤ n ∧ n ≤ 9223372036854775807) :
    Calls Try.prog 34 #[.int .i64 n] w fun e w' => e = .returned (.int .u64 n.natAbs) ∧ w = w' := by
  by_cases h : n < 0
  · go_enter Try.func34, Try.ntmps34
    go_wp2
    go_ret
    exact ⟨ret_int (by simp [IntKind.wrap_u64]; omega), rfl⟩
  · go_enter Try.func34, Try.ntmps34
    go_wp2
    go_ret
    exact ⟨ret_int (by omega), rfl⟩

theorem l02Size_any (n : Int) (w : World) (hn : -9223372036854775808 ≤ n ∧ n ≤ 9223372036854775807) :
    Calls Try.prog 28 #[.int .i64 n] w fun e w' => e = .returned (.int .u64 n.natAbs) ∧ w = w' := by
  by_cases h : n < 0
  · go_enter Try.func28, Try.ntmps28
    go_wp2
    go_ret
    exact ⟨ret_int (by omega), rfl⟩
  · go_enter Try.func28, Try.ntmps28
    go_wp2
    go_ret
    exact ⟨ret_int (by omega), rfl⟩

theorem gcd_any (x y : Nat) (w : World) (hx : x < 18446744073709551616) (hy : y < 18446744073709551616) :
    Calls Try.prog 33 #[.int .u64 x, .int .u64 y] w fun e w' => e = .returned (.int .u64 (Nat.gcd x y)) ∧ ∃ n, w' = w.drewN n := by
  obtain ⟨g, hg⟩ : ∃ g, g = Nat.gcd x y := ⟨_, rfl⟩
  rw [← hg]
  have HG := Lib.hid hg; clear hg
  go_enter Try.func33, Try.ntmps33
  go_wp2
  go_loopw [0, 1] (fun a b wr => ∃ p q : Nat, p < 18446744073709551616 ∧ q < 18446744073709551616 ∧ a = .int .u64 p ∧ b = .int .u64 q ∧ Hid (Nat.gcd p q = g) ∧ ∃ n, wr = w.drewN n) (fun _ b _ => (intOf b).toNat)
  case atStart => exact ⟨x, y, hx, hy, rfl, rfl, HG.out.symm, 0, rfl⟩
  case round =>
    obtain ⟨p, q, hp, hq, rfl, rfl, hpq, n, rfl⟩ := hrel
    by_cases h0 : q = 0
    · subst h0
      go_wp2
      go_ret
      exact ⟨ret_int (by have := hpq.out; simp at this; omega), n, rfl⟩
    · have h1 : ((q : Int) != 0) = true := by simp; omega
      have h2 : ¬ (q : Int) = 0 := by omega
      have hlt := Nat.mod_lt p (by omega : q > 0)
      go_wp2
      go_quiet (fail)
      go_wp2
      go_roundw
      case rel => exact ⟨q, p % q, hq, by omega, rfl, by go_num, by have := hpq.out; rw [Nat.gcd_comm, ← Nat.gcd_rec] ; rwa [Nat.gcd_comm], n + nq, by simp⟩
      case measure => simp [intOf]; omega

end Go.Proofs.Ytipagbnkkkhlaaa
