/-
  FrequencyIncrement of both sides, and its law.
-/
import Derived.Test.YtfpbnhghceoleaaFrac
import Derived.Test.YtfpbnhghceoleaaWrap
namespace Go.Proofs.Ytfpbnhghceoleaa
open Go.RowKit

def FreqF (n d r : Int) : Int × Int :=
  if frB n d = true then (if inB r 1 1000000 = true ∧ 0 ≤ n ∧ 2 * n ≤ r * d then (wrap32 ((8589934592 * n + r * d) / (2 * (r * d))), 0) else (0, 2)) else (0, 1)

theorem implFreq_any (n d r : Int) (w : World) :
    Calls Try.prog 35 #[.agg #[.int .i64 n, .int .i64 d], .int .i64 r] w fun e w' => e = .returned (.tuple #[.int .i64 (FreqF n d r).1, .int .i64 (FreqF n d r).2]) ∧ Below w.heap.size w w' := by
  cases h1 : frB n d
  · go_enter Try.func35, Try.ntmps35
    go_wp2_with (first | (go_at_call 93; refine (isFrac_any _ _ _).mono ?_; rintro e w' ⟨rfl, k, rfl⟩))
    go_ret2
    exact ⟨ret_int2 (by simp [FreqF, h1]) (by simp [FreqF, h1]), by repeat (first | exact Below.refl _ _ | refine Below.alloc ?_ (by simp <;> omega) _ | refine below_drewN ?_ _)⟩
  have hb := frB_bd h1
  cases h2 : inB r 1 1000000
  · go_enter Try.func35, Try.ntmps35
    go_wp2_with (first | (go_at_call 93; refine (isFrac_any _ _ _).mono ?_; rintro e w' ⟨rfl, k, rfl⟩) | (go_at_call 79; refine (within_any _ _ _ _).mono ?_; rintro e w' ⟨rfl, rfl⟩))
    go_ret2
    exact ⟨ret_int2 (by simp [FreqF, h1, h2]) (by simp [FreqF, h1, h2]), by repeat (first | exact Below.refl _ _ | refine Below.alloc ?_ (by simp <;> omega) _ | refine below_drewN ?_ _)⟩
  have hr := inB_true.1 h2
  have hm := mul_range (a := r) (b := d) (A := 1000000) (B := 1000000) (by omega) (by omega)
  have hm1 : 1 ≤ r * d := by have := Int.mul_le_mul hr.1 hb.1 (by omega) (by omega); omega
  by_cases h3 : n < 0
  · go_enter Try.func35, Try.ntmps35
    go_wp2_with (first | (go_at_call 93; refine (isFrac_any _ _ _).mono ?_; rintro e w' ⟨rfl, k, rfl⟩) | (go_at_call 79; refine (within_any _ _ _ _).mono ?_; rintro e w' ⟨rfl, rfl⟩))
    go_ret2
    exact ⟨ret_int2 (by rw [FreqF, if_pos h1, if_neg (by rintro ⟨_, _, _⟩; omega)]) (by rw [FreqF, if_pos h1, if_neg (by rintro ⟨_, _, _⟩; omega)]), by repeat (first | exact Below.refl _ _ | refine Below.alloc ?_ (by simp <;> omega) _ | refine below_drewN ?_ _)⟩
  by_cases h4 : r * d < 2 * n
  · go_enter Try.func35, Try.ntmps35
    go_wp2_with (first | (go_at_call 93; refine (isFrac_any _ _ _).mono ?_; rintro e w' ⟨rfl, k, rfl⟩) | (go_at_call 79; refine (within_any _ _ _ _).mono ?_; rintro e w' ⟨rfl, rfl⟩))
    go_ret2
    exact ⟨ret_int2 (by rw [FreqF, if_pos h1, if_neg (by rintro ⟨_, _, _⟩; omega)]) (by rw [FreqF, if_pos h1, if_neg (by rintro ⟨_, _, _⟩; omega)]), by repeat (first | exact Below.refl _ _ | refine Below.alloc ?_ (by simp <;> omega) _ | refine below_drewN ?_ _)⟩
  go_enter Try.func35, Try.ntmps35
  go_wp2_with (first | (go_at_call 93; refine (isFrac_any _ _ _).mono ?_; rintro e w' ⟨rfl, k, rfl⟩) | (go_at_call 79; refine (within_any _ _ _ _).mono ?_; rintro e w' ⟨rfl, rfl⟩) | (go_at_call 95; refine (floorDiv_any _ _ _ (by omega) (by omega)).mono ?_; rintro e w' ⟨rfl, rfl⟩) | (go_at_call 94; refine (implWrap_any _ _).mono ?_; rintro e w' ⟨rfl, rfl⟩))
  go_ret2
  exact ⟨ret_int2 (by rw [FreqF, if_pos h1, if_pos ⟨h2, by omega, by omega⟩]; try (congr 2; omega)) (by rw [FreqF, if_pos h1, if_pos ⟨h2, by omega, by omega⟩]), by repeat (first | exact Below.refl _ _ | refine Below.alloc ?_ (by simp <;> omega) _ | refine below_drewN ?_ _)⟩





end Go.Proofs.Ytfpbnhghceoleaa
