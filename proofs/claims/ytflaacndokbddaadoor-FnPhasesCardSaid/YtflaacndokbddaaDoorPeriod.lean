/-
 Contracts: math/bits.TrailingZeros64, PeriodOf of both sides.
-/
import Derived.Test.YtflaacndokbddaaDoorLib
import Derived.Test.YtflaacndokbddaaDoorRows
import Derived.Lib.Hide
import Derived.Shelf.Spec.TrailingZeros
namespace Go.Proofs.YtflaacndokbddaaDoor
open Go.RowKit

def TabD (w : World) : Prop := ∀ j, j < 64 → w.cell? ⟨0, j, none⟩ = some (.int .u8 (Lib.deBruijn64tab.getD j 0))

set_option maxHeartbeats 1000000 in
theorem tzCore_any (x k idx : Nat) (w : World) (hx0 : ((x : Int) == 0) = false)
 (key : IntKind.u64.wrap (bits BinOp.and IntKind.u64 (x : Int) (IntKind.u64.wrap (-(x : Int))) * 285870213051353865) / 288230376151711744 = (idx : Int))
 (hi : idx < 64) (hk : k < 64) (hcell : w.cell? ⟨0, idx, none⟩ = some (.int .u8 k)) :
 Calls Tryd.prog 17 #[.int .u64 x] w fun e w' => e = .returned (.int .i64 k) ∧ w = w' := by
 go_enter Tryd.func17, Tryd.ntmps17
 go_wp2_with (simp only [key])
 go_ret
 exact ⟨rfl, rfl⟩

theorem tz_any (x : Nat) (hx : x < 18446744073709551616) (w : World) (hT : TabD w) :
 Calls Tryd.prog 17 #[.int .u64 x] w fun e w' => e = .returned (.int .i64 (Lib.ctz 64 x)) ∧ w = w' := by
 by_cases hx0 : x = 0
 · subst hx0
   clear hT
   go_enter Tryd.func17, Tryd.ntmps17
   go_wp2
   go_ret
   exact ⟨rfl, rfl⟩
 · obtain ⟨hlow, hk⟩ := Lib.lowest_bit 64 x hx0 hx
   obtain ⟨hi, htab⟩ := Lib.deBruijn64_at _ hk
   have hcell := hT _ hi
   rw [htab] at hcell
   exact tzCore_any x _ _ w (by simp; omega) (tz64_key x _ hx hx0 hlow) hi hk hcell

def perS : Nat → Nat → Nat
 | 0, _ => 1
 | k + 1, m => if m % 2 = 1 then 2 ^ (k + 1) else perS k (m / 2)
theorem perS_mod (k j x : Nat) (h : k ≤ j) : perS k (x % 2 ^ j) = perS k x := by
 induction k generalizing j x with
 | zero => rfl
 | succ k ih =>
   obtain ⟨i, rfl⟩ : ∃ i, j = i + 1 := ⟨j - 1, by omega⟩
   have e1 : x % 2 ^ (i + 1) % 2 = x % 2 := Nat.mod_mod_of_dvd x (by rw [Nat.pow_succ]; exact Nat.dvd_mul_left 2 _)
   have e2 : x % 2 ^ (i + 1) / 2 = (x / 2) % 2 ^ i := by rw [Nat.pow_succ, Nat.mul_comm, Nat.mod_mul_right_div_self]
   unfold perS
   rw [e1, e2, ih i (x / 2) (by omega)]
theorem perS_ctz (k f x : Nat) (h : k ≤ f) : perS k x = 2 ^ (k - min k (Lib.ctzFrom f x)) := by
 induction k generalizing f x with
 | zero => simp [perS]
 | succ k ih =>
   obtain ⟨g, rfl⟩ : ∃ g, f = g + 1 := ⟨f - 1, by omega⟩
   unfold perS Lib.ctzFrom
   split
   · simp
   · rw [ih g (x / 2) (by omega)]
     congr 1; omega
theorem perS_zero (k : Nat) : perS k 0 = 1 := by
 induction k with
 | zero => rfl
 | succ k ih => unfold perS; simpa using ih
def perF (n : Int) : Int := ((perS 32 (n % 4294967296).toNat : Nat) : Int)
theorem perF_ctz (n : Int) (X : Nat) (hX : (X : Int) = n % 18446744073709551616) : perF n = ((2 ^ (32 - min 32 (Lib.ctz 64 X)) : Nat) : Int) := by
 have e : (n % 4294967296).toNat = X % 2 ^ 32 := by have : (2 : Nat) ^ 32 = 4294967296 := by decide
                                                    omega
 unfold perF
 rw [e, perS_mod 32 32 X (Nat.le_refl _)]
 congr 1
 unfold Lib.ctz
 split
 · rename_i h; subst h; rw [perS_zero]; rfl
 · exact perS_ctz 32 64 X (by omega)

theorem and_one (m : Nat) (hm : m < 4294967296) : bits .and .i64 (m : Int) 1 = ((m % 2 : Nat) : Int) := by
 have h : (1 : Int) = ((1 : Nat) : Int) := rfl
 unfold bits
 rw [h]
 simp only [BitVec.ofInt_natCast, BitVec.toNat_and]
 have e : (BitVec.ofNat IntKind.i64.bits m).toNat = m := by simp only [IntKind.bits, BitVec.toNat_ofNat]; exact Nat.mod_eq_of_lt (by omega)
 have e2 : (BitVec.ofNat IntKind.i64.bits 1).toNat = 2 ^ 1 - 1 := by simp [IntKind.bits]
 rw [e, e2, Nat.and_two_pow_sub_one_eq_mod, IntWalk.i64_in _ (by omega)]

theorem wrap_pow (k : Nat) (h : k ≤ 32) : wrap64 ((2 : Int) ^ k) = ((2 ^ k : Nat) : Int) := by
 have h2 : 2 ^ k ≤ 2 ^ 32 := Nat.pow_le_pow_right (by decide) h
 have e : (2 : Int) ^ k = ((2 ^ k : Nat) : Int) := by simp
 rw [e]
 have h3 : (2 : Nat) ^ 32 = 4294967296 := by decide
 rw [h3] at h2
 clear e h3
 generalize 2 ^ k = m at *
 unfold wrap64
 omega

set_option maxHeartbeats 1000000 in

theorem implPeriod_any (n : Int) (w : World) (hn : -9223372036854775808 ≤ n ∧ n ≤ 9223372036854775807) (hT : TabD w) : Calls Tryd.prog 8 #[.int .i64 n] w fun e w' => e = .returned (.int .i64 (perF n)) ∧ w = w' := by
 obtain ⟨X, hX⟩ := Int.eq_ofNat_of_zero_le (Int.emod_nonneg n (by decide : (18446744073709551616 : Int) ≠ 0))
 have hXb : X < 18446744073709551616 := by omega
 have hp := perF_ctz n X hX.symm
 have hu : IntKind.u64.wrap n = (X : Int) := by rw [IntKind.wrap_u64]; exact hX
 have CT := Lib.hid (tz_any X hXb w hT)
 generalize Lib.ctz 64 X = c at *
 have HP := Lib.hid hp
 obtain ⟨z, hz⟩ : ∃ z : Nat, z = min 32 c := ⟨_, rfl⟩
 have hmin : min (32 : Int) (c : Int) = (z : Int) := by omega
 have hz32 : z ≤ 32 := by omega
 rw [← hz] at HP
 clear hp hX hz hT
 go_enter Tryd.func8, Tryd.ntmps8
 go_wp2_with fail
 refine CT.out.mono ?_; rintro e w' ⟨rfl, rfl⟩
 by_cases hc : c < 32
 · have hz2 : z = c := by omega
   subst hz2
   have hlt : (z : Int) < 32 := by omega
   have HW := Lib.hid (wrap_pow (32 - z) (by omega))
   clear hmin
   go_wp2
   all_goals
    go_ret
    exact ⟨ret_int (by rw [HP.out, ← HW.out]), rfl⟩
 · have hz2 : z = 32 := by omega
   subst hz2
   have hlt : (32 : Int) ≤ (c : Int) := by omega
   go_wp2
   all_goals
    go_ret
    exact ⟨ret_int (by rw [HP.out]; rfl), rfl⟩

end Go.Proofs.YtflaacndokbddaaDoor
