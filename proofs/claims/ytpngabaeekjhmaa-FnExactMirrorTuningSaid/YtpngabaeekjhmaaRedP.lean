/-
  Plain facts on ratios brought into an octave.
-/
import Derived.Test.YtpngabaeekjhmaaFracOp
namespace Go.Proofs.Ytpngabaeekjhmaa
open Go.RowKit

theorem mkF_good {p q : Int} (hp : 0 < p) (hq : 0 < q) (h : (mkF p q).2 = 0) :
    frB (mkF p q).1.1 (mkF p q).1.2 = true ∧ 0 < (mkF p q).1.1 ∧ (mkF p q).1.1 * q = (mkF p q).1.2 * p := by
  obtain ⟨X, rfl⟩ := Int.eq_ofNat_of_zero_le (Int.le_of_lt hp)
  obtain ⟨Y, rfl⟩ := Int.eq_ofNat_of_zero_le (Int.le_of_lt hq)
  have hX : 0 < X := by omega
  have hY : 0 < Y := by omega
  have hG : 0 < Nat.gcd X Y := Nat.gcd_pos_of_pos_left _ hX
  have dx := Nat.gcd_dvd_left X Y
  have dy := Nat.gcd_dvd_right X Y
  have hg1 : Nat.gcd (X / Nat.gcd X Y) (Y / Nat.gcd X Y) = 1 := by rw [Nat.gcd_div dx dy, Nat.div_self hG]
  have px : 0 < X / Nat.gcd X Y := Nat.div_pos (Nat.le_of_dvd hX dx) hG
  have py : 0 < Y / Nat.gcd X Y := Nat.div_pos (Nat.le_of_dvd hY dy) hG
  have cr : X / Nat.gcd X Y * Y = Y / Nat.gcd X Y * X := by
    rw [Nat.div_mul_right_comm dx, Nat.div_mul_right_comm dy, Nat.mul_comm]
  have e0 : ¬ ((Y : Int) = 0) := by omega
  generalize hG' : Nat.gcd X Y = G at *
  generalize hP : X / G = P at *
  generalize hQ : Y / G = Q at *
  have hm : mkF (X : Int) (Y : Int) = if 1000000000 < P ∨ 1000000 < Q then ((0, 0), 2) else (((P : Int), (Q : Int)), 0) := by
    unfold mkF
    rw [if_neg e0]
    simp only [Int.natAbs_natCast, hG', hP, hQ]
    have d1 : decide ((X : Int) < 0) = false := decide_eq_false (by omega)
    have d2 : decide ((Y : Int) < 0) = false := decide_eq_false (by omega)
    rw [d1, d2]
    rfl
  by_cases hb : 1000000000 < P ∨ 1000000 < Q
  · rw [hm, if_pos hb] at h
    cases h
  · rw [hm, if_neg hb]
    refine ⟨?_, by show (0 : Int) < (P : Int); omega, ?_⟩
    · simp only [frB, Int.natAbs_natCast, hg1, Bool.and_eq_true, inB_true, beq_self_eq_true, and_true]
      omega
    · show (P : Int) * (Y : Int) = (Q : Int) * (X : Int)
      exact_mod_cast cr
theorem mkF_codes {p q : Int} (hq : q ≠ 0) (h : (mkF p q).2 ≠ 0) : mkF p q = ((0, 0), 2) := by
  unfold mkF at *
  rw [if_neg hq] at *
  split at h
  · rename_i hb; rw [if_pos hb]
  · exact absurd rfl h

theorem mul_pos' {a b : Int} (ha : 0 < a) (hb : 0 < b) : 0 < a * b := Int.mul_pos ha hb
theorem divF_mk {n e c d : Int} (h1 : frB n e = true) (h2 : frB c d = true) (hc : 0 < c) : divF n e c d = mkF (n * d) (e * c) := by
  unfold divF; rw [if_pos ⟨h1, h2⟩, if_neg (by omega)]
theorem mulF_mk {n e c d : Int} (h1 : frB n e = true) (h2 : frB c d = true) : mulF n e c d = mkF (n * c) (e * d) := by
  unfold mulF; rw [if_pos ⟨h1, h2⟩]

/-- How far a ratio has to go. -/
def measR (n e : Int) : Nat := (1000000000000 * n / e).toNat
theorem measR_lt {n e x y : Int} (he : 1 ≤ e ∧ e ≤ 1000000) (hx : 0 < x) (hy : 1 ≤ y ∧ y ≤ 1000000) (h : x * e < n * y) : measR x y < measR n e := by
  unfold measR
  have hq := Int.ediv_mul_le (1000000000000 * x) (show y ≠ 0 by omega)
  have hq0 : 0 ≤ 1000000000000 * x / y := Int.ediv_nonneg (by omega) (by omega)
  generalize 1000000000000 * x / y = q at *
  have h2 : q + 1 ≤ 1000000000000 * n / e := by
    rw [Int.le_ediv_iff_mul_le (by omega)]
    apply Int.not_lt.1
    intro hlt
    have k1 := Int.mul_lt_mul_of_pos_right hlt (show 0 < y by omega)
    have k2 := Int.mul_le_mul_of_nonneg_right hq (show 0 ≤ e by omega)
    have k3 := (mul_range (a := e) (b := y) (A := 1000000) (B := 1000000) (by omega) (by omega)).2
    rw [Int.mul_assoc, Int.add_mul, Int.one_mul, Int.add_mul, Int.mul_right_comm q e y] at k1
    rw [Int.mul_assoc 1000000000000 x e] at k2
    generalize q * y * e = t1 at *
    generalize e * y = t2 at *
    generalize x * e = t3 at *
    generalize n * y = t4 at *
    omega
  omega
theorem step_down {n e c d x y : Int} (hn : 0 < n) (hy : 0 < y) (hc : 0 < c) (h1 : d < c) (h : x * (e * c) = y * (n * d)) : x * e < n * y := by
  apply Int.not_le.1
  intro hle
  have k1 := Int.mul_le_mul_of_nonneg_right hle (Int.le_of_lt hc)
  have k2 := Int.mul_lt_mul_of_pos_left h1 (mul_pos' hn hy)
  have e1 : x * e * c = n * y * d := by rw [Int.mul_assoc, h, Int.mul_left_comm, ← Int.mul_assoc]
  omega
theorem step_up {n e c d x y : Int} (hn : 0 < n) (hy : 0 < y) (hd : 0 < d) (h1 : d < c) (h : x * (e * d) = y * (n * c)) : n * y < x * e := by
  apply Int.not_le.1
  intro hle
  have k1 := Int.mul_le_mul_of_nonneg_right hle (Int.le_of_lt hd)
  have k2 := Int.mul_lt_mul_of_pos_left h1 (mul_pos' hn hy)
  have e1 : x * e * d = n * y * c := by rw [Int.mul_assoc, h, Int.mul_left_comm, ← Int.mul_assoc]
  omega
theorem measR_low {n e : Int} (he : 1 ≤ e) (hn : 0 < n) (h : n < e) : measR n e ≤ 1000000000000 := by
  unfold measR
  have : 1000000000000 * n / e ≤ 1000000000000 := by
    apply Int.ediv_le_of_le_mul (by omega)
    exact Int.mul_le_mul_of_nonneg_left (Int.le_of_lt h) (by omega)
  omega

/-- Divided by an octave until it lies below. -/
inductive Red1 (c d : Int) : Int → Int → Int → Option (Int × Int × Int) → Prop
  | stop {n e k : Int} : cmpF n e c d < 0 → Red1 c d n e k (some (n, e, k))
  | fail {n e k : Int} : ¬ cmpF n e c d < 0 → (divF n e c d).2 ≠ 0 → Red1 c d n e k none
  | step {n e k : Int} {R : Option (Int × Int × Int)} : ¬ cmpF n e c d < 0 → (divF n e c d).2 = 0 → Red1 c d (divF n e c d).1.1 (divF n e c d).1.2 (wrap64 (k + 1)) R → Red1 c d n e k R
/-- Multiplied by an octave until it is not below 1. -/
inductive Red2 (c d : Int) : Int → Int → Int → Option (Int × Int × Int) → Prop
  | stop {n e k : Int} : ¬ cmpF n e 1 1 < 0 → Red2 c d n e k (some (n, e, k))
  | fail {n e k : Int} : cmpF n e 1 1 < 0 → (mulF n e c d).2 ≠ 0 → Red2 c d n e k none
  | step {n e k : Int} {R : Option (Int × Int × Int)} : cmpF n e 1 1 < 0 → (mulF n e c d).2 = 0 → Red2 c d (mulF n e c d).1.1 (mulF n e c d).1.2 (wrap64 (k - 1)) R → Red2 c d n e k R
theorem Red1.det {c d n e k : Int} {R S : Option (Int × Int × Int)} (h : Red1 c d n e k R) : Red1 c d n e k S → R = S := by
  induction h with
  | stop h1 => intro h2; cases h2 with
    | stop _ => rfl
    | fail h3 => exact absurd h1 h3
    | step h3 => exact absurd h1 h3
  | fail h1 h3 => intro h2; cases h2 with
    | stop h4 => exact absurd h4 h1
    | fail _ _ => rfl
    | step _ h4 _ => exact absurd h4 h3
  | step h1 h3 _ ih => intro h2; cases h2 with
    | stop h4 => exact absurd h4 h1
    | fail _ h4 => exact absurd h3 h4
    | step _ _ h4 => exact ih h4
theorem Red2.det {c d n e k : Int} {R S : Option (Int × Int × Int)} (h : Red2 c d n e k R) : Red2 c d n e k S → R = S := by
  induction h with
  | stop h1 => intro h2; cases h2 with
    | stop _ => rfl
    | fail h3 => exact absurd h3 h1
    | step h3 => exact absurd h3 h1
  | fail h1 h3 => intro h2; cases h2 with
    | stop h4 => exact absurd h1 h4
    | fail _ _ => rfl
    | step _ h4 _ => exact absurd h4 h3
  | step h1 h3 _ ih => intro h2; cases h2 with
    | stop h4 => exact absurd h1 h4
    | fail _ h4 => exact absurd h3 h4
    | step _ _ h4 => exact ih h4
/-- A ratio brought into an octave. -/
def RedR (a b c d : Int) (R : (Int × Int) × Int × Int) : Prop :=
  (Red1 c d a b 0 none ∧ R = ((0, 0), 0, 2)) ∨ ∃ n e k, Red1 c d a b 0 (some (n, e, k)) ∧ ((Red2 c d n e k none ∧ R = ((0, 0), 0, 2)) ∨ ∃ n' e' k', Red2 c d n e k (some (n', e', k')) ∧ R = ((n', e'), k', 0))
theorem RedR.det {a b c d : Int} {R S : (Int × Int) × Int × Int} (h : RedR a b c d R) (h' : RedR a b c d S) : R = S := by
  rcases h with ⟨h1, rfl⟩ | ⟨n, e, k, h1, h2⟩
  · rcases h' with ⟨_, rfl⟩ | ⟨n', e', k', h3, _⟩
    · rfl
    · cases h1.det h3
  · rcases h' with ⟨h3, _⟩ | ⟨n', e', k', h3, h4⟩
    · cases h1.det h3
    · cases h1.det h3
      rcases h2 with ⟨h5, rfl⟩ | ⟨n1, e1, k1, h5, rfl⟩
      · rcases h4 with ⟨_, rfl⟩ | ⟨n2, e2, k2, h6, _⟩
        · rfl
        · cases h5.det h6
      · rcases h4 with ⟨h6, _⟩ | ⟨n2, e2, k2, h6, rfl⟩
        · cases h5.det h6
        · cases h5.det h6; rfl

end Go.Proofs.Ytpngabaeekjhmaa
