/-
 Phases and their periods: plain facts.
-/
import Derived.Test.YtflaacndokbddaaDoorPeriod
import Derived.Test.YtflaacndokbddaaDoorRend
namespace Go.Proofs.YtflaacndokbddaaDoor
open Go.RowKit

theorem perS_at (k : Nat) : ∀ x : Nat, ∃ j, j ≤ k ∧ perS k x = 2 ^ j ∧ x * 2 ^ j % 2 ^ k = 0 ∧ (0 < j → x * 2 ^ (j - 1) % 2 ^ k ≠ 0) := by
 induction k with
 | zero => intro x; exact ⟨0, Nat.le_refl _, rfl, by simp [Nat.mod_one], fun h => absurd h (by omega)⟩
 | succ k ih =>
   intro x
   by_cases h : x % 2 = 1
   · refine ⟨k + 1, Nat.le_refl _, by unfold perS; rw [if_pos h], by simp, fun _ => ?_⟩
     rw [Nat.add_sub_cancel, Nat.pow_succ, Nat.mul_comm x, Nat.mul_mod_mul_left, h]
     have : 0 < 2 ^ k := Nat.pow_pos (by decide)
     omega
   · obtain ⟨j, h1, h2, h3, h4⟩ := ih (x / 2)
     have hx : x = 2 * (x / 2) := by omega
     refine ⟨j, by omega, by unfold perS; rw [if_neg h]; exact h2, ?_, fun hj => ?_⟩
     · rw [hx, Nat.mul_assoc, Nat.pow_succ 2 k, Nat.mul_comm (2 ^ k), Nat.mul_mod_mul_left, h3]
     · have := h4 hj
       rw [hx, Nat.mul_assoc, Nat.pow_succ 2 k, Nat.mul_comm (2 ^ k), Nat.mul_mod_mul_left]
       omega
theorem per_at (b : Int) : ∃ P : Nat, perF b = (P : Int) ∧ (P = 1 ∨ ∃ H : Nat, P = 2 * H ∧ 0 < H ∧ (b * H) % 4294967296 ≠ 0) ∧ 1 ≤ P ∧ P ≤ 4294967296 ∧ (b * P) % 4294967296 = 0 := by
 obtain ⟨m, hm⟩ := Int.eq_ofNat_of_zero_le (Int.emod_nonneg b (by decide : (4294967296 : Int) ≠ 0))
 obtain ⟨j, h1, h2, h3, h4⟩ := perS_at 32 m
 have h32 : (2 : Nat) ^ 32 = 4294967296 := by decide
 have hb : ∀ q : Nat, (b * q) % 4294967296 = ((m * q % 4294967296 : Nat) : Int) := fun q => by rw [Int.mul_emod, hm]; simp [Int.mul_emod]
 have hle : 2 ^ j ≤ 2 ^ 32 := Nat.pow_le_pow_right (by decide) h1
 rw [h32] at h3 h4 hle
 have hpos : 1 ≤ 2 ^ j := Nat.one_le_two_pow
 refine ⟨2 ^ j, by unfold perF; rw [hm, Int.toNat_natCast, h2], ?_, hpos, hle, by rw [hb, h3]; rfl⟩
 cases j with
 | zero => exact .inl rfl
 | succ j =>
   refine .inr ⟨2 ^ j, by rw [Nat.pow_succ, Nat.mul_comm], Nat.pow_pos (by decide), ?_⟩
   have := h4 (by omega)
   rw [hb]
   simp only [Nat.add_sub_cancel] at this
   omega
theorem phase_add (a b n m : Int) : wrap32 (wrap32 (a + b * n) + b * m) = wrap32 (a + b * wrap64 (n + m)) := by
 apply wrap32_congr
 have e1 : (b * wrap64 (n + m)) % 4294967296 = (b * (n + m)) % 4294967296 := by
  rw [Int.mul_emod, show wrap64 (n + m) % 4294967296 = (n + m) % 4294967296 by unfold wrap64; omega, ← Int.mul_emod]
 have e2 := wrap32_mod (a + b * n)
 have e3 : b * (n + m) = b * n + b * m := Int.mul_add _ _ _
 omega
theorem phase_back {a b q : Int} (h : (b * q) % 4294967296 = 0) : wrap32 (a + b * q) = wrap32 a := wrap32_congr (by omega)
theorem phase_not {a b q : Int} (h : (b * q) % 4294967296 ≠ 0) : wrap32 (a + b * q) ≠ wrap32 a := fun e => by unfold wrap32 at e; omega
theorem phase_w (a z : Int) : wrap32 (wrap32 a + z) = wrap32 (a + z) := wrap32_congr (by have := wrap32_mod a; omega)
theorem phase_next {a b q i : Int} (h : (b * q) % 4294967296 = 0) : wrap32 (a + b * (i + q)) = wrap32 (a + b * i) := wrap32_congr (by have : b * (i + q) = b * i + b * q := Int.mul_add _ _ _; omega)
theorem wrap_mul0 {b q : Int} (h : (b * q) % 4294967296 = 0) : (wrap32 b * q) % 4294967296 = 0 := by rw [Int.mul_emod, wrap32_mod, ← Int.mul_emod]; exact h
theorem rendTo_at {xs : List Int} {s d : Int} {k i : Nat} (h : i < k) : (rendTo xs s d k).getD i 0 = xs.getD (idxF (wrap32 (s + d * (i : Int))) xs.length).toNat 0 := by simp [rendTo, List.getD, h]

end Go.Proofs.YtflaacndokbddaaDoor
