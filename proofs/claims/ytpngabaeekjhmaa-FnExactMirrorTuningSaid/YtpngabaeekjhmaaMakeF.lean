/-
  Contracts: MakeFrac of both sides.
-/
import Derived.Test.YtpngabaeekjhmaaFrac
import Derived.Test.YtpngabaeekjhmaaBoxU
namespace Go.Proofs.Ytpngabaeekjhmaa
open Go.RowKit

/-- The fraction of two numbers, and a code. -/
def mkF (n d : Int) : (Int × Int) × Int :=
  if d = 0 then ((0, 0), 1)
  else if 1000000000 < n.natAbs / Nat.gcd n.natAbs d.natAbs ∨ 1000000 < d.natAbs / Nat.gcd n.natAbs d.natAbs then ((0, 0), 2)
  else ((if decide (n < 0) != decide (d < 0) then -((n.natAbs / Nat.gcd n.natAbs d.natAbs : Nat) : Int) else ((n.natAbs / Nat.gcd n.natAbs d.natAbs : Nat) : Int), ((d.natAbs / Nat.gcd n.natAbs d.natAbs : Nat) : Int)), 0)

theorem ret_fi {k : IntKind} {a b a' b' c c' : Int} (h1 : a = a') (h2 : b = b') (h3 : c = c') : Ending.returned (.tuple #[.agg #[.int k a, .int k b], .int k c]) = .returned (.tuple #[.agg #[.int k a', .int k b'], .int k c']) := by rw [h1, h2, h3]

theorem l02GcdD_any (x y : Nat) (w : World) (hx : x < 18446744073709551616) (hy : y < 18446744073709551616) :
    Calls Try.prog 61 #[.int .u64 x, .int .u64 y] w fun e w' => e = .returned (.int .u64 (Nat.gcd x y)) ∧ ∃ n, w' = w.drewN n :=
  (l02Gcd_any x y w hx hy).mono fun _ _ ⟨h1, h2⟩ => ⟨h1, 0, h2.symm⟩

set_option maxHeartbeats 1000000 in
theorem implMake_any (n d : Int) (w : World) (hn : -9223372036854775808 ≤ n ∧ n ≤ 9223372036854775807) (hd : -9223372036854775808 ≤ d ∧ d ≤ 9223372036854775807) :
    Calls Try.prog 72 #[.int .i64 n, .int .i64 d] w fun e w' => e = .returned (.tuple #[.agg #[.int .i64 (mkF n d).1.1, .int .i64 (mkF n d).1.2], .int .i64 (mkF n d).2]) ∧ Below w.heap.size w w' := by
  have fin : ∀ w', Below w.heap.size w w' → Below w.heap.size w w' := fun _ h => h
  by_cases d0 : d = 0
  · subst d0
    go_enter Try.func72, Try.ntmps72
    go_wp2
    refine bodyPost_ret (v := .tuple #[.agg #[.int .i64 0, .int .i64 0], .int .i64 1]) (by simp [results, Try.results72, go_sem]) rfl ⟨by simp [mkF], ?_⟩
    repeat (first | exact Below.refl _ _ | refine Below.alloc ?_ (by simp <;> omega) _ | refine Below.setCell ?_ (by simp) _)
  have e0 : (d == 0) = false := by simpa using d0
  obtain ⟨X, hX⟩ : ∃ X, X = n.natAbs := ⟨_, rfl⟩
  obtain ⟨Y, hY⟩ : ∃ Y, Y = d.natAbs := ⟨_, rfl⟩
  obtain ⟨G, hG⟩ : ∃ G, G = Nat.gcd X Y := ⟨_, rfl⟩
  obtain ⟨P, hP⟩ : ∃ P, P = X / G := ⟨_, rfl⟩
  obtain ⟨Q, hQ⟩ : ∃ Q, Q = Y / G := ⟨_, rfl⟩
  have hG0 : 0 < G := by rw [hG]; exact Nat.gcd_pos_of_pos_right _ (by omega)
  have hM : mkF n d = if 1000000000 < P ∨ 1000000 < Q then ((0, 0), 2) else ((if decide (n < 0) != decide (d < 0) then -(P : Int) else (P : Int), (Q : Int)), 0) := by
    rw [hP, hQ, hG, hX, hY]; unfold mkF; rw [if_neg d0]
  have hPX : P ≤ X := by rw [hP]; exact Nat.div_le_self _ _
  have hQY : Q ≤ Y := by rw [hQ]; exact Nat.div_le_self _ _
  have eP : (X : Int) / (G : Int) = (P : Int) := by rw [hP]; rfl
  have eQ : (Y : Int) / (G : Int) = (Q : Int) := by rw [hQ]; rfl
  have hXb : X < 18446744073709551616 := by omega
  have hYb : Y < 18446744073709551616 := by omega
  have g1 : (G : Int) ≠ 0 := by omega
  have g2 : ((G : Int) == 0) = false := by simpa using g1
  have CX := Lib.hid (fun w => magnitude_any n w hn)
  have CY := Lib.hid (fun w => magnitude_any d w hd)
  have CG := Lib.hid (fun w => gcd_any X Y w hXb hYb)
  rw [← hX] at CX; rw [← hY] at CY; rw [← hG] at CG
  have HM := Lib.hid hM
  clear hM hP hQ hX hY hG hn hd
  go_enter Try.func72, Try.ntmps72
  go_wp2_with fail
  refine (CX.out _).mono ?_; rintro e w1 ⟨rfl, rfl⟩
  go_wp2_with fail
  refine (CY.out _).mono ?_; rintro e w1 ⟨rfl, rfl⟩
  go_wp2_with fail
  refine (CG.out _).mono ?_; rintro e w1 ⟨rfl, kk, rfl⟩
  go_wp2
  go_quiet (fail)
  clear CX CY CG
  by_cases hA : 1000000000 < P
  · have HR : Hid (mkF n d = ((0, 0), 2)) := by unfold Hid; rw [HM.out, if_pos (.inl hA)]
    have hA' : (1000000000 : Int) < (P : Int) := by omega
    have hA2 : decide ((1000000000 : Int) < (P : Int)) = true := decide_eq_true hA'
    clear HM hA
    go_wp2
    refine bodyPost_ret (v := .tuple #[.agg #[.int .i64 0, .int .i64 0], .int .i64 2]) (by simp [results, Try.results72, go_sem]) rfl ⟨by rw [HR.out], ?_⟩
    repeat (first | exact Below.refl _ _ | refine Below.alloc ?_ (by simp <;> omega) _ | refine Below.setCell ?_ (by simp) _ | refine below_drewN ?_ _)
  by_cases hB : 1000000 < Q
  · have HR : Hid (mkF n d = ((0, 0), 2)) := by unfold Hid; rw [HM.out, if_pos (.inr hB)]
    have hA2 : decide ((1000000000 : Int) < (P : Int)) = false := decide_eq_false (by omega)
    have hB2 : decide ((1000000 : Int) < (Q : Int)) = true := decide_eq_true (by omega)
    clear HM hA hB
    go_wp2
    refine bodyPost_ret (v := .tuple #[.agg #[.int .i64 0, .int .i64 0], .int .i64 2]) (by simp [results, Try.results72, go_sem]) rfl ⟨by rw [HR.out], ?_⟩
    repeat (first | exact Below.refl _ _ | refine Below.alloc ?_ (by simp <;> omega) _ | refine Below.setCell ?_ (by simp) _ | refine below_drewN ?_ _)
  have hP1 : (P : Int) ≤ 1000000000 := by omega
  have hQ1 : (Q : Int) ≤ 1000000 := by omega
  have hA2 : decide ((1000000000 : Int) < (P : Int)) = false := decide_eq_false (by omega)
  have hB2 : decide ((1000000 : Int) < (Q : Int)) = false := decide_eq_false (by omega)
  rw [if_neg (by omega)] at HM
  clear hA hB
  by_cases hn0 : n < 0 <;> by_cases hd0 : d < 0
  · have HR : Hid (mkF n d = (((P : Int), (Q : Int)), 0)) := by unfold Hid; rw [HM.out]; simp [hn0, hd0]
    have dn : decide (n < 0) = true := decide_eq_true (by omega)
    have dd : decide (d < 0) = true := decide_eq_true (by omega)
    clear HM hn0 hd0
    go_wp2
    refine bodyPost_ret (v := .tuple #[.agg #[.int .i64 P, .int .i64 Q], .int .i64 0]) (by simp [results, Try.results72, go_sem]) rfl ⟨by rw [HR.out], ?_⟩
    repeat (first | exact Below.refl _ _ | refine Below.alloc ?_ (by simp <;> omega) _ | refine Below.setCell ?_ (by simp) _ | refine below_drewN ?_ _)
  · have HR : Hid (mkF n d = (((-(P : Int)), (Q : Int)), 0)) := by unfold Hid; rw [HM.out]; simp [hn0, hd0]
    have dn : decide (n < 0) = true := decide_eq_true (by omega)
    have dd : decide (d < 0) = false := decide_eq_false (by omega)
    clear HM hn0 hd0
    go_wp2
    refine bodyPost_ret (v := .tuple #[.agg #[.int .i64 (-(P : Int)), .int .i64 Q], .int .i64 0]) (by simp [results, Try.results72, go_sem]) rfl ⟨by rw [HR.out], ?_⟩
    repeat (first | exact Below.refl _ _ | refine Below.alloc ?_ (by simp <;> omega) _ | refine Below.setCell ?_ (by simp) _ | refine below_drewN ?_ _)
  · have HR : Hid (mkF n d = (((-(P : Int)), (Q : Int)), 0)) := by unfold Hid; rw [HM.out]; simp [hn0, hd0]
    have dn : decide (n < 0) = false := decide_eq_false (by omega)
    have dd : decide (d < 0) = true := decide_eq_true (by omega)
    clear HM hn0 hd0
    go_wp2
    refine bodyPost_ret (v := .tuple #[.agg #[.int .i64 (-(P : Int)), .int .i64 Q], .int .i64 0]) (by simp [results, Try.results72, go_sem]) rfl ⟨by rw [HR.out], ?_⟩
    repeat (first | exact Below.refl _ _ | refine Below.alloc ?_ (by simp <;> omega) _ | refine Below.setCell ?_ (by simp) _ | refine below_drewN ?_ _)
  · have HR : Hid (mkF n d = (((P : Int), (Q : Int)), 0)) := by unfold Hid; rw [HM.out]; simp [hn0, hd0]
    have dn : decide (n < 0) = false := decide_eq_false (by omega)
    have dd : decide (d < 0) = false := decide_eq_false (by omega)
    clear HM hn0 hd0
    go_wp2
    refine bodyPost_ret (v := .tuple #[.agg #[.int .i64 P, .int .i64 Q], .int .i64 0]) (by simp [results, Try.results72, go_sem]) rfl ⟨by rw [HR.out], ?_⟩
    repeat (first | exact Below.refl _ _ | refine Below.alloc ?_ (by simp <;> omega) _ | refine Below.setCell ?_ (by simp) _ | refine below_drewN ?_ _)
set_option maxHeartbeats 1000000 in
theorem specMake_any (n d : Int) (w : World) (hn : -9223372036854775808 ≤ n ∧ n ≤ 9223372036854775807) (hd : -9223372036854775808 ≤ d ∧ d ≤ 9223372036854775807) :
    Calls Try.prog 71 #[.int .i64 n, .int .i64 d] w fun e w' => e = .returned (.tuple #[.agg #[.int .i64 (mkF n d).1.1, .int .i64 (mkF n d).1.2], .int .i64 (mkF n d).2]) ∧ Below w.heap.size w w' := by
  have fin : ∀ w', Below w.heap.size w w' → Below w.heap.size w w' := fun _ h => h
  by_cases d0 : d = 0
  · subst d0
    go_enter Try.func71, Try.ntmps71
    go_wp2
    refine bodyPost_ret (v := .tuple #[.agg #[.int .i64 0, .int .i64 0], .int .i64 1]) (by simp [results, Try.results71, go_sem]) rfl ⟨by simp [mkF], ?_⟩
    repeat (first | exact Below.refl _ _ | refine Below.alloc ?_ (by simp <;> omega) _ | refine Below.setCell ?_ (by simp) _)
  have e0 : (d == 0) = false := by simpa using d0
  obtain ⟨X, hX⟩ : ∃ X, X = n.natAbs := ⟨_, rfl⟩
  obtain ⟨Y, hY⟩ : ∃ Y, Y = d.natAbs := ⟨_, rfl⟩
  obtain ⟨G, hG⟩ : ∃ G, G = Nat.gcd X Y := ⟨_, rfl⟩
  obtain ⟨P, hP⟩ : ∃ P, P = X / G := ⟨_, rfl⟩
  obtain ⟨Q, hQ⟩ : ∃ Q, Q = Y / G := ⟨_, rfl⟩
  have hG0 : 0 < G := by rw [hG]; exact Nat.gcd_pos_of_pos_right _ (by omega)
  have hM : mkF n d = if 1000000000 < P ∨ 1000000 < Q then ((0, 0), 2) else ((if decide (n < 0) != decide (d < 0) then -(P : Int) else (P : Int), (Q : Int)), 0) := by
    rw [hP, hQ, hG, hX, hY]; unfold mkF; rw [if_neg d0]
  have hPX : P ≤ X := by rw [hP]; exact Nat.div_le_self _ _
  have hQY : Q ≤ Y := by rw [hQ]; exact Nat.div_le_self _ _
  have eP : (X : Int) / (G : Int) = (P : Int) := by rw [hP]; rfl
  have eQ : (Y : Int) / (G : Int) = (Q : Int) := by rw [hQ]; rfl
  have hXb : X < 18446744073709551616 := by omega
  have hYb : Y < 18446744073709551616 := by omega
  have g1 : (G : Int) ≠ 0 := by omega
  have g2 : ((G : Int) == 0) = false := by simpa using g1
  have CX := Lib.hid (fun w => l02Size_any n w hn)
  have CY := Lib.hid (fun w => l02Size_any d w hd)
  have CG := Lib.hid (fun w => l02GcdD_any X Y w hXb hYb)
  rw [← hX] at CX; rw [← hY] at CY; rw [← hG] at CG
  have HM := Lib.hid hM
  clear hM hP hQ hX hY hG hn hd
  go_enter Try.func71, Try.ntmps71
  go_wp2_with fail
  refine (CX.out _).mono ?_; rintro e w1 ⟨rfl, rfl⟩
  go_wp2_with fail
  refine (CY.out _).mono ?_; rintro e w1 ⟨rfl, rfl⟩
  go_wp2_with fail
  refine (CG.out _).mono ?_; rintro e w1 ⟨rfl, kk, rfl⟩
  skip
  clear CX CY CG
  by_cases hA : 1000000000 < P
  · have HR : Hid (mkF n d = ((0, 0), 2)) := by unfold Hid; rw [HM.out, if_pos (.inl hA)]
    have hA' : (1000000000 : Int) < (P : Int) := by omega
    have hA2 : decide ((1000000000 : Int) < (P : Int)) = true := decide_eq_true hA'
    clear HM hA
    go_wp2
    refine bodyPost_ret (v := .tuple #[.agg #[.int .i64 0, .int .i64 0], .int .i64 2]) (by simp [results, Try.results71, go_sem]) rfl ⟨by rw [HR.out], ?_⟩
    repeat (first | exact Below.refl _ _ | refine Below.alloc ?_ (by simp <;> omega) _ | refine Below.setCell ?_ (by simp) _ | refine below_drewN ?_ _)
  by_cases hB : 1000000 < Q
  · have HR : Hid (mkF n d = ((0, 0), 2)) := by unfold Hid; rw [HM.out, if_pos (.inr hB)]
    have hA2 : decide ((1000000000 : Int) < (P : Int)) = false := decide_eq_false (by omega)
    have hB2 : decide ((1000000 : Int) < (Q : Int)) = true := decide_eq_true (by omega)
    clear HM hA hB
    go_wp2
    refine bodyPost_ret (v := .tuple #[.agg #[.int .i64 0, .int .i64 0], .int .i64 2]) (by simp [results, Try.results71, go_sem]) rfl ⟨by rw [HR.out], ?_⟩
    repeat (first | exact Below.refl _ _ | refine Below.alloc ?_ (by simp <;> omega) _ | refine Below.setCell ?_ (by simp) _ | refine below_drewN ?_ _)
  have hP1 : (P : Int) ≤ 1000000000 := by omega
  have hQ1 : (Q : Int) ≤ 1000000 := by omega
  have hA2 : decide ((1000000000 : Int) < (P : Int)) = false := decide_eq_false (by omega)
  have hB2 : decide ((1000000 : Int) < (Q : Int)) = false := decide_eq_false (by omega)
  rw [if_neg (by omega)] at HM
  clear hA hB
  by_cases hn0 : n < 0 <;> by_cases hd0 : d < 0
  · have HR : Hid (mkF n d = (((P : Int), (Q : Int)), 0)) := by unfold Hid; rw [HM.out]; simp [hn0, hd0]
    have dn : decide (n < 0) = true := decide_eq_true (by omega)
    have dd : decide (d < 0) = true := decide_eq_true (by omega)
    clear HM hn0 hd0
    go_wp2
    refine bodyPost_ret (v := .tuple #[.agg #[.int .i64 P, .int .i64 Q], .int .i64 0]) (by simp [results, Try.results71, go_sem]) rfl ⟨by rw [HR.out], ?_⟩
    repeat (first | exact Below.refl _ _ | refine Below.alloc ?_ (by simp <;> omega) _ | refine Below.setCell ?_ (by simp) _ | refine below_drewN ?_ _)
  · have HR : Hid (mkF n d = (((-(P : Int)), (Q : Int)), 0)) := by unfold Hid; rw [HM.out]; simp [hn0, hd0]
    have dn : decide (n < 0) = true := decide_eq_true (by omega)
    have dd : decide (d < 0) = false := decide_eq_false (by omega)
    clear HM hn0 hd0
    go_wp2
    refine bodyPost_ret (v := .tuple #[.agg #[.int .i64 (-(P : Int)), .int .i64 Q], .int .i64 0]) (by simp [results, Try.results71, go_sem]) rfl ⟨by rw [HR.out], ?_⟩
    repeat (first | exact Below.refl _ _ | refine Below.alloc ?_ (by simp <;> omega) _ | refine Below.setCell ?_ (by simp) _ | refine below_drewN ?_ _)
  · have HR : Hid (mkF n d = (((-(P : Int)), (Q : Int)), 0)) := by unfold Hid; rw [HM.out]; simp [hn0, hd0]
    have dn : decide (n < 0) = false := decide_eq_false (by omega)
    have dd : decide (d < 0) = true := decide_eq_true (by omega)
    clear HM hn0 hd0
    go_wp2
    refine bodyPost_ret (v := .tuple #[.agg #[.int .i64 (-(P : Int)), .int .i64 Q], .int .i64 0]) (by simp [results, Try.results71, go_sem]) rfl ⟨by rw [HR.out], ?_⟩
    repeat (first | exact Below.refl _ _ | refine Below.alloc ?_ (by simp <;> omega) _ | refine Below.setCell ?_ (by simp) _ | refine below_drewN ?_ _)
  · have HR : Hid (mkF n d = (((P : Int), (Q : Int)), 0)) := by unfold Hid; rw [HM.out]; simp [hn0, hd0]
    have dn : decide (n < 0) = false := decide_eq_false (by omega)
    have dd : decide (d < 0) = false := decide_eq_false (by omega)
    clear HM hn0 hd0
    go_wp2
    refine bodyPost_ret (v := .tuple #[.agg #[.int .i64 P, .int .i64 Q], .int .i64 0]) (by simp [results, Try.results71, go_sem]) rfl ⟨by rw [HR.out], ?_⟩
    repeat (first | exact Below.refl _ _ | refine Below.alloc ?_ (by simp <;> omega) _ | refine Below.setCell ?_ (by simp) _ | refine below_drewN ?_ _)

end Go.Proofs.Ytpngabaeekjhmaa
