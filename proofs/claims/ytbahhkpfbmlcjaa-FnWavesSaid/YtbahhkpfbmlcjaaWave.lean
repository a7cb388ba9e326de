/-
  Contracts: elements of waves, WaveTable of both sides.
-/
import Derived.Test.YtbahhkpfbmlcjaaSeq2
import Derived.Test.YtbahhkpfbmlcjaaPick
namespace Go.Proofs.Ytbahhkpfbmlcjaa
open Go.RowKit

/-- The element i of the table of a wave. -/
def elemF (kind n p i : Int) : Int :=
  if kind = 1 then (if i < n / 2 then p else -p)
  else if kind = 2 then -p + 2 * p * i / (n - 1)
  else if kind = 3 then (if n / 2 < i then -p + 4 * p * (n - i) / n else -p + 4 * p * i / n)
  else if i < n / 2 then 16 * p * i * (n / 2 - i) / (n * n) else -(16 * p * (i - n / 2) * (n / 2 - (i - n / 2)) / (n * n))

theorem quo_bd {a b A : Int} (hb : 0 < b) (ha : 0 ≤ a ∧ a ≤ A) : 0 ≤ a / b ∧ a / b ≤ A :=
  ⟨Int.ediv_nonneg ha.1 (by omega), by have := Int.ediv_le_self b ha.1; omega⟩

theorem implElemLo (n p i : Int) (w : World) (hs : szB n = true) (hp : 0 ≤ p ∧ p ≤ 2147483647) (hi : 0 ≤ i ∧ i < n / 2) :
    Calls Try.prog 73 #[.int .i64 4, .int .i64 n, .int .i64 p, .int .i64 i] w fun e w' => e = .returned (.int .i64 (16 * p * i * (n / 2 - i) / (n * n))) ∧ w = w' := by
  have hn := szB_true.1 hs
  have hb : 2 ≤ n ∧ n ≤ 16 := by omega
  have m1 := mul_range (a := 16 * p) (b := i) (A := 34359738352) (B := 16) (by omega) (by omega)
  have m2 := mul_range (a := 16 * p * i) (b := n / 2 - i) (A := 34359738352 * 16) (B := 16) (by omega) (by omega)
  have m3 := mul_range (a := n) (b := n) (A := 16) (B := 16) (by omega) (by omega)
  have m4 : 0 < n * n := Int.mul_pos (by omega) (by omega)
  clear hn hs
  by_cases hx : n / 2 < i
  · omega
  go_enter Try.func73, Try.ntmps73
  go_wp2_with (go_at_call 69; refine (floorDiv_any _ _ _ (by omega) (by omega)).mono ?_; rintro e w' ⟨rfl, rfl⟩)
  go_ret
  exact ⟨rfl, rfl⟩

theorem implElem_any (kind n p i : Int) (w : World) (hk : 1 ≤ kind ∧ kind ≤ 4) (hs : szB n = true) (hp : 0 ≤ p ∧ p ≤ 2147483647) (hi : 0 ≤ i ∧ i < n) :
    Calls Try.prog 73 #[.int .i64 kind, .int .i64 n, .int .i64 p, .int .i64 i] w fun e w' => e = .returned (.int .i64 (elemF kind n p i)) ∧ w = w' := by
  have hn := szB_true.1 hs
  have hb : 2 ≤ n ∧ n ≤ 16 := by omega
  have he : n = 2 * (n / 2) := by omega
  have HE := Lib.hid he
  have hh : 2 * (n / 2) ≤ n := by omega
  have hh' : n ≤ 2 * (n / 2) := by omega
  clear hn he
  have hk' : kind = 1 ∨ kind = 2 ∨ kind = 3 ∨ kind = 4 := by omega
  have h3 : i < n / 2 ∨ (i ≤ n / 2 ∧ n / 2 ≤ i) ∨ n / 2 < i := by omega
  rcases hk' with rfl | rfl | rfl | rfl
  · rcases h3 with h | ⟨h, h'⟩ | h
    all_goals
      go_enter Try.func73, Try.ntmps73
      go_wp2
      go_ret
      exact ⟨ret_int (by unfold elemF; simp; try omega), rfl⟩
  · have m1 := mul_range (a := 2 * p) (b := i) (A := 4294967294) (B := 16) (by omega) (by omega)
    have m2 := quo_bd (a := 2 * p * i) (b := n - 1) (A := 4294967294 * 16) (by omega) (by omega)
    rcases h3 with h | ⟨h, h'⟩ | h
    all_goals
      go_enter Try.func73, Try.ntmps73
      go_wp2_with (go_at_call 69; refine (floorDiv_any _ _ _ (by omega) (by omega)).mono ?_; rintro e w' ⟨rfl, rfl⟩)
      go_ret
      exact ⟨ret_int (by simp [elemF]), rfl⟩
  · by_cases h2 : n / 2 < i
    · have m1 := mul_range (a := 4 * p) (b := n - i) (A := 8589934588) (B := 16) (by omega) (by omega)
      have m2 := quo_bd (a := 4 * p * (n - i)) (b := n) (A := 8589934588 * 16) (by omega) (by omega)
      clear h3
      go_enter Try.func73, Try.ntmps73
      go_wp2_with (go_at_call 69; refine (floorDiv_any _ _ _ (by omega) (by omega)).mono ?_; rintro e w' ⟨rfl, rfl⟩)
      go_ret
      exact ⟨ret_int (by simp [elemF, h2]), rfl⟩
    · have h2' : i ≤ n / 2 := by omega
      have m1 := mul_range (a := 4 * p) (b := i) (A := 8589934588) (B := 16) (by omega) (by omega)
      have m2 := quo_bd (a := 4 * p * i) (b := n) (A := 8589934588 * 16) (by omega) (by omega)
      clear h3
      go_enter Try.func73, Try.ntmps73
      go_wp2_with (go_at_call 69; refine (floorDiv_any _ _ _ (by omega) (by omega)).mono ?_; rintro e w' ⟨rfl, rfl⟩)
      go_ret
      exact ⟨ret_int (by simp [elemF]; intro; omega), rfl⟩
  · by_cases h : i < n / 2
    · refine (implElemLo n p i w hs hp ⟨hi.1, h⟩).mono ?_
      rintro e w' ⟨rfl, rfl⟩
      exact ⟨ret_int (by simp [elemF, h]), rfl⟩
    · have hi2 : 0 ≤ i - n / 2 ∧ i - n / 2 < n / 2 := by omega
      have m1 := mul_range (a := 16 * p) (b := i - n / 2) (A := 34359738352) (B := 16) (by omega) (by omega)
      have m2 := mul_range (a := 16 * p * (i - n / 2)) (b := n / 2 - (i - n / 2)) (A := 34359738352 * 16) (B := 16) (by omega) (by omega)
      have m4 : 0 < n * n := Int.mul_pos (by omega) (by omega)
      have m5 := quo_bd (a := 16 * p * (i - n / 2) * (n / 2 - (i - n / 2))) (b := n * n) (A := 34359738352 * 16 * 16) (by omega) (by omega)
      have e1 : elemF 4 n p i = -(16 * p * (i - n / 2) * (n / 2 - (i - n / 2)) / (n * n)) := by simp [elemF, h]
      rw [e1]; clear e1
      rcases h3 with h | ⟨h', h''⟩ | h'
      · omega
      all_goals
        go_enter Try.func73, Try.ntmps73
        go_wp2_with (go_at_call 73; refine (implElemLo n p (i - n / 2) _ hs hp hi2).mono ?_; rintro e w' ⟨rfl, rfl⟩)
        go_ret
        exact ⟨rfl, rfl⟩



/-- The first k elements of a wave. -/
def waveTo (kind n p : Int) (k : Nat) : List Int := (List.range k).map fun (i : Nat) => elemF kind n p (i : Int)
theorem waveTo_succ (kind n p : Int) (k : Nat) : waveTo kind n p (k + 1) = waveTo kind n p k ++ [elemF kind n p (k : Int)] := by simp [waveTo, List.range_succ]
@[simp] theorem waveTo_length (kind n p : Int) (k : Nat) : (waveTo kind n p k).length = k := by simp [waveTo]
def WaveF (kind n p : Int) : List Int × Int :=
  if inB kind 1 4 = true then (if (szB n && inB p 0 2147483647) = true then (waveTo kind n p n.toNat, 0) else ([], 2)) else ([], 1)

theorem implWave_any (kind n p : Int) (w : World) :
    Calls Try.prog 29 #[.int .i64 kind, .int .i64 n, .int .i64 p] w fun e w' =>
      ∃ v', e = .returned (.tuple #[v', .int .i64 (WaveF kind n p).2]) ∧ Own w' w.heap.size v' (WaveF kind n p).1 ∧ Below w.heap.size w w' := by
  cases h1 : inB kind 1 4
  · go_enter Try.func29, Try.ntmps29
    go_wp2_with (go_at_call 63; refine (within_any _ _ _ _).mono ?_; rintro e w' ⟨rfl, rfl⟩)
    go_ret2
    exact ⟨_, ret_li (by simp [WaveF, h1]), by simp only [WaveF, h1]; exact Own.nil _ _, Below.refl _ _⟩
  cases h2 : szB n
  · go_enter Try.func29, Try.ntmps29
    go_wp2_with (first | (go_at_call 63; refine (within_any _ _ _ _).mono ?_; rintro e w' ⟨rfl, rfl⟩) | (go_at_call 53; refine (isSize_any _ _).mono ?_; rintro e w' ⟨rfl, rfl⟩))
    go_ret2
    exact ⟨_, ret_li (by simp [WaveF, h1, h2]), by simp only [WaveF, h1, h2]; exact Own.nil _ _, Below.refl _ _⟩
  cases h3 : inB p 0 2147483647
  · go_enter Try.func29, Try.ntmps29
    go_wp2_with (first | (go_at_call 63; refine (within_any _ _ _ _).mono ?_; rintro e w' ⟨rfl, rfl⟩) | (go_at_call 53; refine (isSize_any _ _).mono ?_; rintro e w' ⟨rfl, rfl⟩))
    go_ret2
    exact ⟨_, ret_li (by simp [WaveF, h1, h2, h3]), by simp only [WaveF, h1, h2, h3]; exact Own.nil _ _, Below.refl _ _⟩
  have hkk := inB_true.1 h1
  have hp := inB_true.1 h3
  have hn : 2 ≤ n ∧ n ≤ 16 := by have := szB_true.1 h2; omega
  obtain ⟨N, rfl⟩ := Int.eq_ofNat_of_zero_le (by omega : 0 ≤ n)
  have e1 : WaveF kind (N : Int) p = (waveTo kind (N : Int) p N, 0) := by simp [WaveF, h1, h2, h3]
  rw [e1]; clear e1
  go_enter Try.func29, Try.ntmps29
  go_wp2_with (first | (go_at_call 63; refine (within_any _ _ _ _).mono ?_; rintro e w' ⟨rfl, rfl⟩) | (go_at_call 53; refine (isSize_any _ _).mono ?_; rintro e w' ⟨rfl, rfl⟩))
  go_loopw [8, 23] (fun out i wr => ∃ k : Nat, k ≤ N ∧ i = .int .i64 k ∧ Own wr w.heap.size out (waveTo kind N p k) ∧ Below w.heap.size w wr) (fun _ i _ => N - (intOf i).toNat)
  case atStart => exact ⟨0, Nat.zero_le _, rfl, Own.made, (Below.refl _ _).alloc (Nat.le_refl _) _⟩
  case round =>
    obtain ⟨k, hk, rfl, hown, hbel⟩ := hrel
    by_cases hlt : k < N
    · have hsucc := waveTo_succ kind N p k
      have HS := Lib.hid hsucc; clear hsucc
      go_wp2_with (first
        | (go_at_call 73; refine (implElem_any _ _ _ _ _ hkk h2 hp (by omega)).mono ?_; rintro e w' ⟨rfl, rfl⟩)
        | (at_builtin; refine append_one rfl _ _ rfl _ _ _ rfl hown hbel rfl (by simp; omega) ?_; intro v' w1 hown1 hbel1))
      go_roundw
      case rel => exact ⟨k + 1, by omega, by go_num, by rw [HS.out]; exact hown1, hbel1⟩
      case measure => simp [intOf]; omega
    · have e : k = N := by omega
      subst e
      go_wp2
      go_ret2
      exact ⟨_, rfl, hown, hbel⟩

end Go.Proofs.Ytbahhkpfbmlcjaa
