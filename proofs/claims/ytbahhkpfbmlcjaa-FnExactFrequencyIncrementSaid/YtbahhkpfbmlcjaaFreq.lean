/-
  FrequencyIncrement of both sides, and its law.
-/
import Derived.Test.YtbahhkpfbmlcjaaFrac
import Derived.Test.YtbahhkpfbmlcjaaWrap
namespace Go.Proofs.Ytbahhkpfbmlcjaa
open Go.RowKit

def FreqF (n d r : Int) : Int × Int :=
  if frB n d = true then (if inB r 1 1000000 = true ∧ 0 ≤ n ∧ 2 * n ≤ r * d then (wrap32 ((8589934592 * n + r * d) / (2 * (r * d))), 0) else (0, 2)) else (0, 1)

theorem bcell {W w1 : World} (hb : Below W.heap.size W w1) : (∀ b o, b < W.heap.size → w1.cell? ⟨b, o, none⟩ = W.cell? ⟨b, o, none⟩) ∧ (∀ b o, b < W.heap.size → w1.frozen? ⟨b, o, none⟩ = W.frozen? ⟨b, o, none⟩) :=
  ⟨fun b o h => hb.cell (p := ⟨b, o, none⟩) h, fun b o h => hb.frozen (p := ⟨b, o, none⟩) h⟩

theorem implFreq_any (n d r : Int) (w : World) :
    Calls Try.prog 26 #[.agg #[.int .i64 n, .int .i64 d], .int .i64 r] w fun e w' => e = .returned (.tuple #[.int .i64 (FreqF n d r).1, .int .i64 (FreqF n d r).2]) ∧ Below w.heap.size w w' := by
  cases h1 : frB n d
  · go_enter Try.func26, Try.ntmps26
    go_wp2_with (first | (go_at_call 68; refine (isFrac_any _ _ _).mono ?_; rintro e w' ⟨rfl, k, rfl⟩))
    go_ret2
    exact ⟨ret_int2 (by simp [FreqF, h1]) (by simp [FreqF, h1]), by repeat (first | exact Below.refl _ _ | refine Below.alloc ?_ (by simp <;> omega) _ | refine below_drewN ?_ _)⟩
  have hb := frB_bd h1
  cases h2 : inB r 1 1000000
  · go_enter Try.func26, Try.ntmps26
    go_wp2_with (first | (go_at_call 68; refine (isFrac_any _ _ _).mono ?_; rintro e w' ⟨rfl, k, rfl⟩) | (go_at_call 63; refine (within_any _ _ _ _).mono ?_; rintro e w' ⟨rfl, rfl⟩))
    go_ret2
    exact ⟨ret_int2 (by simp [FreqF, h1, h2]) (by simp [FreqF, h1, h2]), by repeat (first | exact Below.refl _ _ | refine Below.alloc ?_ (by simp <;> omega) _ | refine below_drewN ?_ _)⟩
  have hr := inB_true.1 h2
  have hm := mul_range (a := r) (b := d) (A := 1000000) (B := 1000000) (by omega) (by omega)
  have hm1 : 1 ≤ r * d := by have := Int.mul_le_mul hr.1 hb.1 (by omega) (by omega); omega
  by_cases h3 : n < 0
  · go_enter Try.func26, Try.ntmps26
    go_wp2_with (first | (go_at_call 68; refine (isFrac_any _ _ _).mono ?_; rintro e w' ⟨rfl, k, rfl⟩) | (go_at_call 63; refine (within_any _ _ _ _).mono ?_; rintro e w' ⟨rfl, rfl⟩))
    go_ret2
    exact ⟨ret_int2 (by rw [FreqF, if_pos h1, if_neg (by rintro ⟨_, _, _⟩; omega)]) (by rw [FreqF, if_pos h1, if_neg (by rintro ⟨_, _, _⟩; omega)]), by repeat (first | exact Below.refl _ _ | refine Below.alloc ?_ (by simp <;> omega) _ | refine below_drewN ?_ _)⟩
  by_cases h4 : r * d < 2 * n
  · go_enter Try.func26, Try.ntmps26
    go_wp2_with (first | (go_at_call 68; refine (isFrac_any _ _ _).mono ?_; rintro e w' ⟨rfl, k, rfl⟩) | (go_at_call 63; refine (within_any _ _ _ _).mono ?_; rintro e w' ⟨rfl, rfl⟩))
    go_ret2
    exact ⟨ret_int2 (by rw [FreqF, if_pos h1, if_neg (by rintro ⟨_, _, _⟩; omega)]) (by rw [FreqF, if_pos h1, if_neg (by rintro ⟨_, _, _⟩; omega)]), by repeat (first | exact Below.refl _ _ | refine Below.alloc ?_ (by simp <;> omega) _ | refine below_drewN ?_ _)⟩
  go_enter Try.func26, Try.ntmps26
  go_wp2_with (first | (go_at_call 68; refine (isFrac_any _ _ _).mono ?_; rintro e w' ⟨rfl, k, rfl⟩) | (go_at_call 63; refine (within_any _ _ _ _).mono ?_; rintro e w' ⟨rfl, rfl⟩) | (go_at_call 69; refine (floorDiv_any _ _ _ (by omega) (by omega)).mono ?_; rintro e w' ⟨rfl, rfl⟩) | (go_at_call 50; refine (implWrap_any _ _).mono ?_; rintro e w' ⟨rfl, rfl⟩))
  go_ret2
  exact ⟨ret_int2 (by rw [FreqF, if_pos h1, if_pos ⟨h2, by omega, by omega⟩]; try (congr 2; omega)) (by rw [FreqF, if_pos h1, if_pos ⟨h2, by omega, by omega⟩]), by repeat (first | exact Below.refl _ _ | refine Below.alloc ?_ (by simp <;> omega) _ | refine below_drewN ?_ _)⟩

theorem specFreq_any (n d r : Int) (w : World) :
    Calls Try.prog 24 #[.agg #[.int .i64 n, .int .i64 d], .int .i64 r] w fun e w' => e = .returned (.tuple #[.int .i64 (FreqF n d r).1, .int .i64 (FreqF n d r).2]) ∧ Below w.heap.size w w' := by
  cases h1 : frB n d
  · go_enter Try.func24, Try.ntmps24
    go_wp2_with (first | (go_at_call 65; refine (l02Ok_any _ _ _).mono ?_; rintro e w' ⟨rfl, k, rfl⟩))
    go_ret2
    exact ⟨ret_int2 (by simp [FreqF, h1]) (by simp [FreqF, h1]), by repeat (first | exact Below.refl _ _ | refine Below.alloc ?_ (by simp <;> omega) _ | refine below_drewN ?_ _)⟩
  have hb := frB_bd h1
  cases h2 : inB r 1 1000000
  · go_enter Try.func24, Try.ntmps24
    go_wp2_with (first | (go_at_call 65; refine (l02Ok_any _ _ _).mono ?_; rintro e w' ⟨rfl, k, rfl⟩) | (go_at_call 59; refine (l00In_any _ _ _ _).mono ?_; rintro e w' ⟨rfl, rfl⟩))
    go_ret2
    exact ⟨ret_int2 (by simp [FreqF, h1, h2]) (by simp [FreqF, h1, h2]), by repeat (first | exact Below.refl _ _ | refine Below.alloc ?_ (by simp <;> omega) _ | refine below_drewN ?_ _)⟩
  have hr := inB_true.1 h2
  have hm := mul_range (a := r) (b := d) (A := 1000000) (B := 1000000) (by omega) (by omega)
  have hm1 : 1 ≤ r * d := by have := Int.mul_le_mul hr.1 hb.1 (by omega) (by omega); omega
  by_cases h3 : n < 0
  · go_enter Try.func24, Try.ntmps24
    go_wp2_with (first | (go_at_call 65; refine (l02Ok_any _ _ _).mono ?_; rintro e w' ⟨rfl, k, rfl⟩) | (go_at_call 59; refine (l00In_any _ _ _ _).mono ?_; rintro e w' ⟨rfl, rfl⟩))
    go_ret2
    exact ⟨ret_int2 (by rw [FreqF, if_pos h1, if_neg (by rintro ⟨_, _, _⟩; omega)]) (by rw [FreqF, if_pos h1, if_neg (by rintro ⟨_, _, _⟩; omega)]), by repeat (first | exact Below.refl _ _ | refine Below.alloc ?_ (by simp <;> omega) _ | refine below_drewN ?_ _)⟩
  by_cases h4 : r * d < 2 * n
  · go_enter Try.func24, Try.ntmps24
    go_wp2_with (first | (go_at_call 65; refine (l02Ok_any _ _ _).mono ?_; rintro e w' ⟨rfl, k, rfl⟩) | (go_at_call 59; refine (l00In_any _ _ _ _).mono ?_; rintro e w' ⟨rfl, rfl⟩))
    go_ret2
    exact ⟨ret_int2 (by rw [FreqF, if_pos h1, if_neg (by rintro ⟨_, _, _⟩; omega)]) (by rw [FreqF, if_pos h1, if_neg (by rintro ⟨_, _, _⟩; omega)]), by repeat (first | exact Below.refl _ _ | refine Below.alloc ?_ (by simp <;> omega) _ | refine below_drewN ?_ _)⟩
  go_enter Try.func24, Try.ntmps24
  go_wp2_with (first | (go_at_call 65; refine (l02Ok_any _ _ _).mono ?_; rintro e w' ⟨rfl, k, rfl⟩) | (go_at_call 59; refine (l00In_any _ _ _ _).mono ?_; rintro e w' ⟨rfl, rfl⟩) | (go_at_call 67; refine (l02Div_any _ _ _ (by omega) (by omega)).mono ?_; rintro e w' ⟨rfl, rfl⟩) | (go_at_call 66; refine (specWrap_any _ _).mono ?_; rintro e w' ⟨rfl, rfl⟩))
  go_ret2
  exact ⟨ret_int2 (by rw [FreqF, if_pos h1, if_pos ⟨h2, by omega, by omega⟩]; try (congr 2; omega)) (by rw [FreqF, if_pos h1, if_pos ⟨h2, by omega, by omega⟩]), by repeat (first | exact Below.refl _ _ | refine Below.alloc ?_ (by simp <;> omega) _ | refine below_drewN ?_ _)⟩

theorem law_FnExactFrequencyIncrement (n d r : Int) (w : World) (_ : (Lit.int .i64 n).wf = true) (_ : (Lit.int .i64 d).wf = true) (_ : (Lit.int .i64 r).wf = true) :
    Calls Try.prog 7 #[.agg #[.int .i64 n, .int .i64 d], .int .i64 r] w fun e w' => e = .returned (.bool true) ∧ Below w.heap.size w w' := by
  go_enter Try.func7, Try.ntmps7
  go_wp2_with fail
  refine (toFrac_any _ _ _).mono ?_; rintro e w1 ⟨rfl, b1⟩
  go_wp2_with fail
  refine (specFreq_any _ _ _ _).mono ?_; rintro e w2 ⟨rfl, b2⟩
  have hc1 := b1.cell (p := ⟨w.heap.size, 0, none⟩) (by simp)
  have hc2 := b1.cell (p := ⟨w.heap.size, 1, none⟩) (by simp)
  have hs1 := b1.size
  have hc3 := b2.cell (p := ⟨w.heap.size, 0, none⟩) (by simp at hs1; simp; omega)
  have hc4 := b2.cell (p := ⟨w.heap.size, 1, none⟩) (by simp at hs1; simp; omega)
  have hs2 := b2.size
  rw [hc1] at hc3; rw [hc2] at hc4; clear hc1 hc2
  go_wp2_with fail
  refine (toFrac_any _ _ _).mono ?_; rintro e w3 ⟨rfl, b3⟩
  go_wp2_with fail
  refine (implFreq_any _ _ _ _).mono ?_; rintro e w4 ⟨rfl, b4⟩
  go_wp2_with fail
  go_ret
  refine ⟨rfl, ?_⟩
  have hs3 := b3.size
  exact ((((Below.refl _ _).alloc (Nat.le_refl _) _).trans (b1.mono (by simp))).trans (b2.mono (by simp at hs1; omega))).trans ((b3.mono (by simp at hs1; omega)).trans (b4.mono (by simp at hs1; omega)))

end Go.Proofs.Ytbahhkpfbmlcjaa
