/-
 Contracts of small functions over numbers: bounds, sizes, quotients rounded down, greatest common divisors.
-/
import Derived.Test.YtflaacndokbddaaDoorRows
import Derived.Test.YtflaacndokbddaaDoorLib
import Derived.Deep.QuietTactic
import Derived.BigQuiet
import Derived.Lib.Hide
namespace Go.Proofs.YtflaacndokbddaaDoor
open Go.RowKit

theorem within_any (n lo hi : Int) (w : World) :
 Calls Tryd.prog 33 #[.int .i64 n, .int .i64 lo, .int .i64 hi] w fun e w' => e = .returned (.bool (inB n lo hi)) ∧ w = w' := by
 by_cases h1 : lo ≤ n <;> by_cases h2 : n ≤ hi
 all_goals
  go_enter Tryd.func33, Tryd.ntmps33
  go_wp2
  go_ret
  exact ⟨ret_bool (by simp [inB, h1, h2]), rfl⟩



theorem within_val {n lo hi : Int} {b : Bool} (h : inB n lo hi = b) (w : World) :
 Calls Tryd.prog 33 #[.int .i64 n, .int .i64 lo, .int .i64 hi] w fun e w' => e = .returned (.bool b) ∧ w = w' := by
 subst h; exact within_any n lo hi w

theorem isSize_any (n : Int) (w : World) : Calls Tryd.prog 25 #[.int .i64 n] w fun e w' => e = .returned (.bool (szB n)) ∧ w = w' := by
 by_cases h1 : n = 2
 · subst h1; go_enter Tryd.func25, Tryd.ntmps25; go_wp2; go_ret; exact ⟨rfl, rfl⟩
 · by_cases h2 : n = 4
   · subst h2; go_enter Tryd.func25, Tryd.ntmps25; go_wp2; go_ret; exact ⟨rfl, rfl⟩
   · by_cases h3 : n = 8
     · subst h3; go_enter Tryd.func25, Tryd.ntmps25; go_wp2; go_ret; exact ⟨rfl, rfl⟩
     · have e1 : (n == 2) = false := by simpa using h1
       have e2 : (n == 4) = false := by simpa using h2
       have e3 : (n == 8) = false := by simpa using h3
       go_enter Tryd.func25, Tryd.ntmps25; go_wp2; go_ret; exact ⟨ret_bool (by simp [szB, e1, e2, e3]), rfl⟩



theorem unsigned_any (n : Int) (w : World) : Calls Tryd.prog 26 #[.int .i64 n] w fun e w' => e = .returned (.int .i64 (n % 4294967296)) ∧ w = w' := by
 go_enter Tryd.func26, Tryd.ntmps26
 go_wp2
 go_ret
 exact ⟨rfl, rfl⟩











end Go.Proofs.YtflaacndokbddaaDoor
