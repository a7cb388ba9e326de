/-
  Contracts of small functions over numbers: bounds, sizes, quotients rounded down, greatest common divisors.
-/
import Derived.Test.YtfpbnhghceoleaaRows
import Derived.Test.YtfpbnhghceoleaaLib
import Derived.Deep.QuietTactic
import Derived.BigQuiet
import Derived.Lib.Hide
namespace Go.Proofs.Ytfpbnhghceoleaa
open Go.RowKit

theorem within_any (n lo hi : Int) (w : World) :
    Calls Try.prog 79 #[.int .i64 n, .int .i64 lo, .int .i64 hi] w fun e w' => e = .returned (.bool (inB n lo hi)) ∧ w = w' := by
  by_cases h1 : lo ≤ n <;> by_cases h2 : n ≤ hi
  all_goals
    go_enter Try.func79, Try.ntmps79
    go_wp2
    go_ret
    exact ⟨ret_bool (by simp [inB, h1, h2]), rfl⟩

theorem l00In_any (n lo hi : Int) (w : World) :
    Calls Try.prog 68 #[.int .i64 n, .int .i64 lo, .int .i64 hi] w fun e w' => e = .returned (.bool (inB n lo hi)) ∧ w = w' := by
  by_cases h1 : lo ≤ n <;> by_cases h2 : n ≤ hi
  all_goals
    go_enter Try.func68, Try.ntmps68
    go_wp2
    go_ret
    exact ⟨ret_bool (by simp [inB, h1, h2]), rfl⟩

theorem within_val {n lo hi : Int} {b : Bool} (h : inB n lo hi = b) (w : World) :
    Calls Try.prog 79 #[.int .i64 n, .int .i64 lo, .int .i64 hi] w fun e w' => e = .returned (.bool b) ∧ w = w' := by
  subst h; exact within_any n lo hi w
theorem l00In_val {n lo hi : Int} {b : Bool} (h : inB n lo hi = b) (w : World) :
    Calls Try.prog 68 #[.int .i64 n, .int .i64 lo, .int .i64 hi] w fun e w' => e = .returned (.bool b) ∧ w = w' := by
  subst h; exact l00In_any n lo hi w

theorem isSize_any (n : Int) (w : World) : Calls Try.prog 80 #[.int .i64 n] w fun e w' => e = .returned (.bool (szB n)) ∧ w = w' := by
  by_cases h1 : n = 2
  · subst h1; go_enter Try.func80, Try.ntmps80; go_wp2; go_ret; exact ⟨rfl, rfl⟩
  · by_cases h2 : n = 4
    · subst h2; go_enter Try.func80, Try.ntmps80; go_wp2; go_ret; exact ⟨rfl, rfl⟩
    · by_cases h3 : n = 8
      · subst h3; go_enter Try.func80, Try.ntmps80; go_wp2; go_ret; exact ⟨rfl, rfl⟩
      · have e1 : (n == 2) = false := by simpa using h1
        have e2 : (n == 4) = false := by simpa using h2
        have e3 : (n == 8) = false := by simpa using h3
        go_enter Try.func80, Try.ntmps80; go_wp2; go_ret; exact ⟨ret_bool (by simp [szB, e1, e2, e3]), rfl⟩

theorem l13Size_any (n : Int) (w : World) : Calls Try.prog 77 #[.int .i64 n] w fun e w' => e = .returned (.bool (szB n)) ∧ w = w' := by
  by_cases h : inB n 2 16 = true
  · have hb := inB_true.1 h
    have hs := szB_bits hb
    go_enter Try.func77, Try.ntmps77
    go_wp2_with (go_at_call 68; refine (l00In_any _ _ _ _).mono ?_; rintro e w' ⟨rfl, rfl⟩)
    go_ret
    exact ⟨rfl, rfl⟩
  · have h' : inB n 2 16 = false := by simpa using h
    have hs := szB_out (inB_false.1 h')
    clear h
    have HS := Lib.hid hs; clear hs
    go_enter Try.func77, Try.ntmps77
    go_wp2_with (go_at_call 68; refine (l00In_any _ _ _ _).mono ?_; rintro e w' ⟨rfl, rfl⟩)
    go_ret
    exact ⟨ret_bool HS.out.symm, rfl⟩

theorem unsigned_any (n : Int) (w : World) : Calls Try.prog 126 #[.int .i64 n] w fun e w' => e = .returned (.int .i64 (n % 4294967296)) ∧ w = w' := by
  go_enter Try.func126, Try.ntmps126
  go_wp2
  go_ret
  exact ⟨rfl, rfl⟩

theorem floorDiv_any (a b : Int) (w : World) (hb : 0 < b) (ha : -9223372036854775808 ≤ a ∧ a ≤ 9223372036854775807) :
    Calls Try.prog 95 #[.int .i64 a, .int .i64 b] w fun e w' => e = .returned (.int .i64 (a / b)) ∧ w = w' := by
  have hf := floor_bd hb ha
  by_cases h : a.tmod b < 0
  · have e := floor_neg hb h
    go_enter Try.func95, Try.ntmps95
    go_wp2
    go_ret
    exact ⟨rfl, rfl⟩
  · have e := floor_pos hb (by omega : 0 ≤ a.tmod b)
    go_enter Try.func95, Try.ntmps95
    go_wp2
    go_ret
    exact ⟨ret_int (by omega), rfl⟩

theorem l02Div_any (a b : Int) (w : World) (hb : 0 < b) (ha : -9223372036854775808 ≤ a ∧ a ≤ 9223372036854775807) :
    Calls Try.prog 127 #[.int .i64 a, .int .i64 b] w fun e w' => e = .returned (.int .i64 (a / b)) ∧ w = w' := by
  have hf := floor_bd hb ha
  by_cases h : a.tmod b < 0
  · have e := floor_neg hb h
    go_enter Try.func127, Try.ntmps127
    go_wp2
    go_ret
    exact ⟨rfl, rfl⟩
  · have e := floor_pos hb (by omega : 0 ≤ a.tmod b)
    go_enter Try.func127, Try.ntmps127
    go_wp2
    go_ret
    exact ⟨ret_int (by omega), rfl⟩

theorem magnitude_any (n : Int) (w : World) (hn : -9223372036854775808 ≤ n ∧ n ≤ 9223372036854775807) :
    Calls Try.prog 135 #[.int .i64 n] w fun e w' => e = .returned (.int .u64 n.natAbs) ∧ w = w' := by
  by_cases h : n < 0
  · go_enter Try.func135, Try.ntmps135
    go_wp2
    go_ret
    exact ⟨ret_int (by simp [IntKind.wrap_u64]; omega), rfl⟩
  · go_enter Try.func135, Try.ntmps135
    go_wp2
    go_ret
    exact ⟨ret_int (by omega), rfl⟩

theorem l02Size_any (n : Int) (w : World) (hn : -9223372036854775808 ≤ n ∧ n ≤ 9223372036854775807) :
    Calls Try.prog 132 #[.int .i64 n] w fun e w' => e = .returned (.int .u64 n.natAbs) ∧ w = w' := by
  by_cases h : n < 0
  · go_enter Try.func132, Try.ntmps132
    go_wp2
    go_ret
    exact ⟨ret_int (by omega), rfl⟩
  · go_enter Try.func132, Try.ntmps132
    go_wp2
    go_ret
    exact ⟨ret_int (by omega), rfl⟩

theorem gcd_any (x y : Nat) (w : World) (hx : x < 18446744073709551616) (hy : y < 18446744073709551616) :
    Calls Try.prog 134 #[.int .u64 x, .int .u64 y] w fun e w' => e = .returned (.int .u64 (Nat.gcd x y)) ∧ ∃ n, w' = w.drewN n := by
  obtain ⟨g, hg⟩ : ∃ g, g = Nat.gcd x y := ⟨_, rfl⟩
  rw [← hg]
  have HG := Lib.hid hg; clear hg
  go_enter Try.func134, Try.ntmps134
  go_wp2
  go_loopw [0, 1] (fun a b wr => ∃ p q : Nat, p < 18446744073709551616 ∧ q < 18446744073709551616 ∧ a = .int .u64 p ∧ b = .int .u64 q ∧ Hid (Nat.gcd p q = g) ∧ ∃ n, wr = w.drewN n) (fun _ b _ => (intOf b).toNat)
  case atStart => exact ⟨x, y, hx, hy, rfl, rfl, HG.out.symm, 0, rfl⟩
  case round =>
    obtain ⟨p, q, hp, hq, rfl, rfl, hpq, n, rfl⟩ := hrel
    by_cases h0 : q = 0
    · subst h0
      go_wp2
      go_ret
      exact ⟨ret_int (by have := hpq.out; simp at this; omega), n, rfl⟩
    · have h1 : ((q : Int) != 0) = true := by simp; omega
      have h2 : ¬ (q : Int) = 0 := by omega
      have hlt := Nat.mod_lt p (by omega : q > 0)
      go_wp2
      go_quiet (fail)
      go_wp2
      go_roundw
      case rel => exact ⟨q, p % q, hq, by omega, rfl, by go_num, by have := hpq.out; rw [Nat.gcd_comm, ← Nat.gcd_rec] ; rwa [Nat.gcd_comm], n + nq, by simp⟩
      case measure => simp [intOf]; omega

end Go.Proofs.Ytfpbnhghceoleaa
