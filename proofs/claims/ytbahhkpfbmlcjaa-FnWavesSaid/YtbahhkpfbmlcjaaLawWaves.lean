/-
  What a wave's elements are like, and the law FnWaves, walked.
-/
import Derived.Test.YtbahhkpfbmlcjaaDrawWave
import Derived.Test.YtbahhkpfbmlcjaaWave
import Derived.BigQuiet
namespace Go.Proofs.Ytbahhkpfbmlcjaa
open Go.RowKit

/-- All that the law asks of the element i. -/
def WaveOk (kind n p i : Int) : Prop :=
  (-p ≤ elemF kind n p i ∧ elemF kind n p i ≤ p) ∧ (kind = 2 → 0 < i → elemF kind n p (i - 1) ≤ elemF kind n p i) ∧ (kind = 3 → 0 < i → elemF kind n p (n - i) = elemF kind n p i) ∧
    (kind = 1 ∨ kind = 4 → i < n / 2 → elemF kind n p (i + n / 2) = -elemF kind n p i)

set_option maxHeartbeats 4000000 in
theorem waveOk (kind p : Int) (n i : Nat) (hk : 1 ≤ kind ∧ kind ≤ 4) (hn : n = 2 ∨ n = 4 ∨ n = 8 ∨ n = 16) (hp : 0 ≤ p) (hi : i < n) : WaveOk kind (n : Int) p (i : Int) := by
  have hk' : kind = 1 ∨ kind = 2 ∨ kind = 3 ∨ kind = 4 := by omega
  have hi' : i = 0 ∨ i = 1 ∨ i = 2 ∨ i = 3 ∨ i = 4 ∨ i = 5 ∨ i = 6 ∨ i = 7 ∨ i = 8 ∨ i = 9 ∨ i = 10 ∨ i = 11 ∨ i = 12 ∨ i = 13 ∨ i = 14 ∨ i = 15 := by omega
  rcases hn with rfl | rfl | rfl | rfl <;> rcases hk' with rfl | rfl | rfl | rfl <;> rcases hi' with rfl | rfl | rfl | rfl | rfl | rfl | rfl | rfl | rfl | rfl | rfl | rfl | rfl | rfl | rfl | rfl <;>
    first
    | (exfalso; omega)
    | (unfold WaveOk elemF; simp; try omega)

theorem bytes_of_row {w : World} {a : Option Addr} {len cap : Nat} {zs : List Int} (h : IsRow .u8 w a len cap zs) : ∀ x ∈ zs.take len, 0 ≤ x ∧ x ≤ 255 := by
  rcases h with ⟨rfl, rfl, rfl, rfl⟩ | ⟨x, rfl, hl, hm, hz, hc, hw⟩
  · intro x hx; simp at hx
  · intro y hy
    have := hw y (List.mem_of_mem_take hy)
    simp [Lit.wf, IntKind.min, IntKind.max, IntKind.bits, IntKind.signed] at this
    omega

theorem a2Long_yes (a b : Option Addr) (la ca lb cb : Nat) (w : World) (h : 3000 < la ∨ 3000 < lb) : Calls Try.prog 27 #[.slice a la ca, .slice b lb cb] w fun e w' => e = .returned (.bool true) ∧ w = w' := by
  by_cases h1 : 3000 < la
  · have h1' : (3000 : Int) < (la : Int) := by omega
    clear h
    go_enter Try.func27, Try.ntmps27
    go_wp2
    go_ret
    exact ⟨rfl, rfl⟩
  · have h1' : (la : Int) ≤ 3000 := by omega
    have h2 : (3000 : Int) < (lb : Int) := by omega
    clear h
    go_enter Try.func27, Try.ntmps27
    go_wp2
    go_ret
    exact ⟨rfl, rfl⟩
theorem a2Long_no (a b : Option Addr) (la ca lb cb : Nat) (w : World) (h : la ≤ 3000 ∧ lb ≤ 3000) : Calls Try.prog 27 #[.slice a la ca, .slice b lb cb] w fun e w' => e = .returned (.bool false) ∧ w = w' := by
  have h1 : (la : Int) ≤ 3000 := by omega
  have h2 : (lb : Int) ≤ 3000 := by omega
  go_enter Try.func27, Try.ntmps27
  go_wp2
  go_ret
  exact ⟨ret_bool (by simp; omega), rfl⟩

theorem waveTo_getD (kind n p : Int) {k N : Nat} (h : k < N) : (waveTo kind n p N).getD k 0 = elemF kind n p (k : Int) := by simp [waveTo, List.getD, h]
theorem waveTo_ok (kind p : Int) (N : Nat) (hk : 1 ≤ kind ∧ kind ≤ 4) (hn : N = 2 ∨ N = 4 ∨ N = 8 ∨ N = 16) (hp : 0 ≤ p ∧ p ≤ 2147483647) : waveB (waveTo kind (N : Int) p N) = true := by
  simp only [waveB, Bool.and_eq_true, waveTo_length]
  refine ⟨szB_true.2 (by omega), List.all_eq_true.2 fun x hx => ?_⟩
  simp only [waveTo, List.mem_map, List.mem_range] at hx
  obtain ⟨i, hi, rfl⟩ := hx
  have := (waveOk kind p N i hk hn hp.1 hi).1
  exact inB_of (by omega)

set_option maxRecDepth 100000 in
set_option maxHeartbeats 4000000 in
theorem law_FnWaves (a : Option Addr) (len cap : Nat) (zs : List Int) (w : World) (hrow : IsRow .u8 w a len cap zs) :
    Calls Try.prog 8 #[.slice a len cap] w fun e w' => e = .returned (.bool true) ∧ Below w.heap.size w w' := by
  have hx := Nums.of_row hrow; have hb := bytes_of_row hrow
  have HX := Lib.hid hx; have HB := Lib.hid hb; clear hx hb hrow
  by_cases hlong : 3000 < len
  · go_enter Try.func8, Try.ntmps8
    go_wp2_with (go_at_call 27; refine (a2Long_yes a none len cap 0 0 _ (.inl hlong)).mono ?_; rintro e w' ⟨rfl, rfl⟩)
    go_ret
    exact ⟨rfl, Below.refl _ _⟩
  go_enter Try.func8, Try.ntmps8
  go_wp2_with fail
  refine (a2Long_no a none len cap 0 0 _ ⟨by omega, by omega⟩).mono ?_; rintro e w' ⟨rfl, rfl⟩
  go_wp2_with fail
  refine (drawWave_any _ _ _ HX.out HB.out).mono ?_; rintro e w1 ⟨kind, n, p, rfl, hk, hn, hp, b1⟩
  clear HX HB hlong
  by_cases ok : inB kind 1 4 = true ∧ szB n = true ∧ inB p 0 2147483647 = true
  case neg =>
    have hc : (WaveF kind n p).2 = 1 ∨ (WaveF kind n p).2 = 2 := by
      unfold WaveF
      split
      · split
        · simp_all
        · exact .inr rfl
      · exact .inl rfl
    clear ok
    go_wp2_with fail
    refine (implWave_any kind n p _).mono ?_; rintro e w2 ⟨v2, rfl, o2, b2⟩
    have B2 := b1.trans (b2.mono b1.size)
    clear o2 b2 b1
    generalize (WaveF kind n p).2 = c at *
    rcases hc with rfl | rfl
    · go_wp2
      go_ret
      exact ⟨rfl, B2⟩
    · go_wp2
      go_ret
      exact ⟨rfl, B2⟩
  obtain ⟨ok1, ok2, ok3⟩ := ok
  have q1 := inB_true.1 ok1
  have q2 := szB_true.1 ok2
  have q3 := inB_true.1 ok3
  obtain ⟨N, rfl⟩ := Int.eq_ofNat_of_zero_le (by omega : 0 ≤ n)
  have hN : N = 2 ∨ N = 4 ∨ N = 8 ∨ N = 16 := by omega
  have eW : WaveF kind (N : Int) p = (waveTo kind (N : Int) p N, 0) := by simp [WaveF, ok1, ok2, ok3]
  have hOk := fun i (hi : i < N) => waveOk kind p N i q1 hN q3.1 hi
  have hV := waveTo_ok kind p N q1 hN q3
  have EW := Lib.hid eW; have HO := Lib.hid hOk; have HV := Lib.hid hV
  clear eW hOk ok1 ok2 ok3 hk hn hp hV q2
  go_wp2_with fail
  refine (implWave_any kind N p _).mono ?_; rintro e w2 ⟨v2, rfl, o2, b2⟩
  have B2 := b1.trans (b2.mono b1.size)
  clear b2 b1
  rw [EW.out] at o2 ⊢
  simp only at o2 ⊢
  obtain ⟨ad, cap2, rfl, ha, hown⟩ := o2.shape1
  rw [waveTo_length] at ha
  obtain ⟨g, rfl⟩ := ha (by omega)
  rw [waveTo_length] at o2 ⊢
  have O2 := Lib.hid o2
  clear hown o2
  have V2 := Lib.hid (specValidTable_any _ _ w2 O2.out.ints)
  have hVV := HV.out
  go_wp2_with fail
  refine V2.out.mono ?_; rintro e w' ⟨rfl, rfl⟩
  rw [HV.out]
  clear hVV V2
  obtain ⟨H, hH⟩ : ∃ H : Nat, (N : Int) / 2 = H := ⟨N / 2, by omega⟩
  have HH := Lib.hid hH; clear hH
  have hN2 : 2 ≤ N ∧ N ≤ 16 := by omega
  have HN := Lib.hid hN; clear hN
  go_wp2
  go_loopw [8] (fun i wr => ∃ k : Nat, k ≤ N ∧ i = .int .i64 k ∧ ∃ q, wr = w2.drewN q) (fun i _ => N - (intOf i).toNat)
  case atStart => exact ⟨0, Nat.zero_le _, rfl, 0, rfl⟩
  case round =>
    obtain ⟨k, hk, rfl, q, rfl⟩ := hrel
    have hkk : kind = 1 ∨ kind = 2 ∨ kind = 3 ∨ kind = 4 := by omega
    by_cases hlt : k < N
    · obtain ⟨wb, wk2, wk3, wk4⟩ := HO.out k hlt
      have c0 := O2.out.cell k (by rw [waveTo_length]; exact hlt)
      rw [waveTo_getD _ _ _ hlt] at c0
      have j1 : (k : Int) < (N : Int) := by omega
      obtain ⟨wb1, wb2⟩ := wb
      rcases hkk with rfl | rfl | rfl | rfl
      · skip
        have hH := HH.out
        clear wk2 wk3
        by_cases hh : k < H
        · have c1 := O2.out.cell (k + H) (by rw [waveTo_length]; omega)
          rw [waveTo_getD _ _ _ (by omega)] at c1
          have e := wk4 (.inl rfl) (by omega)
          have e' : elemF 1 (N : Int) p ((k + H : Nat) : Int) = -elemF 1 (N : Int) p (k : Int) := by rw [← e, hH]; simp
          rw [e'] at c1
          clear e e' wk4
          have hh' : (k : Int) < (H : Int) := by omega
          generalize elemF 1 (N : Int) p (k : Int) = z at *
          go_wp2
          go_quiet (fail)
          go_wp2
          go_quiet (fail)
          go_wp2
          go_roundw
          case rel => exact ⟨k + 1, by omega, by go_num, _, rfl⟩
          case measure => (simp [intOf] <;> omega)
        · have hh' : (H : Int) ≤ (k : Int) := by omega
          clear wk4
          generalize elemF 1 (N : Int) p (k : Int) = z at *
          go_wp2
          go_quiet (fail)
          go_wp2
          go_quiet (fail)
          go_wp2
          go_roundw
          case rel => exact ⟨k + 1, by omega, by go_num, _, rfl⟩
          case measure => (simp [intOf] <;> omega)
      · skip
        clear wk3 wk4
        cases k with
        | zero =>
          clear wk2
          generalize elemF 2 (N : Int) p ((0 : Nat) : Int) = z at *
          go_wp2
          go_quiet (fail)
          go_wp2
          go_quiet (fail)
          go_wp2
          go_roundw
          case rel => exact ⟨1, by omega, by go_num, _, rfl⟩
          case measure => (simp [intOf] <;> omega)
        | succ m =>
          have c1 := O2.out.cell m (by rw [waveTo_length]; omega)
          rw [waveTo_getD _ _ _ (by omega)] at c1
          have e := wk2 rfl (by omega)
          rw [show ((m + 1 : Nat) : Int) - 1 = (m : Int) by omega] at e
          have em : ((m + 1 : Nat) : Int) - 1 = (m : Int) := by omega
          have pos : (0 : Int) < ((m + 1 : Nat) : Int) := by omega
          have j1' : (m : Int) + 1 < (N : Int) := by omega
          have j2' : (m : Int) < (N : Int) := by omega
          clear wk2
          generalize elemF 2 (N : Int) p ((m + 1 : Nat) : Int) = z at *
          generalize elemF 2 (N : Int) p (m : Int) = y at *
          have dd : decide (z < y) = false := decide_eq_false (by omega)
          have dp : decide ((0 : Int) < (m : Int) + 1) = true := decide_eq_true (by omega)
          go_wp2
          go_quiet (fail)
          go_wp2
          go_quiet (fail)
          go_wp2
          go_roundw
          case rel => first | exact ⟨m + 1 + 1, by omega, by go_num, _, rfl⟩ | ((repeat apply Exists.intro); exact ⟨⟨m + 1 + 1, by omega, by go_num, _, rfl⟩, rfl⟩)
          case measure => (simp [intOf] <;> omega)
      · skip
        clear wk2 wk4
        by_cases k0 : k = 0
        · subst k0
          clear wk3
          generalize elemF 3 (N : Int) p ((0 : Nat) : Int) = z at *
          go_wp2
          go_quiet (fail)
          go_wp2
          go_quiet (fail)
          go_wp2
          go_roundw
          case rel => exact ⟨1, by omega, by go_num, _, rfl⟩
          case measure => (simp [intOf] <;> omega)
        · obtain ⟨m, rfl⟩ : ∃ m : Nat, k = m + 1 := ⟨k - 1, by omega⟩
          obtain ⟨j, rfl⟩ : ∃ j : Nat, N = j + (m + 1) := ⟨N - (m + 1), by omega⟩
          have c1 := O2.out.cell j (by rw [waveTo_length]; omega)
          rw [waveTo_getD _ _ _ (by omega)] at c1
          have e := wk3 rfl (by omega)
          have ej : ((j + (m + 1) : Nat) : Int) - ((m + 1 : Nat) : Int) = (j : Int) := by omega
          rw [ej] at e
          rw [e] at c1
          have pos : (0 : Int) < (m : Int) + 1 := by omega
          have jN : (j : Int) < (j : Int) + ((m : Int) + 1) := by omega
          have jK : (m : Int) + 1 < (j : Int) + ((m : Int) + 1) := by omega
          have eq : (j : Int) + ((m : Int) + 1) - ((m : Int) + 1) = (j : Int) := by omega
          have dp : decide ((0 : Int) < (m : Int) + 1) = true := decide_eq_true (by omega)
          clear wk3 e ej
          generalize elemF 3 ((j + (m + 1) : Nat) : Int) p ((m + 1 : Nat) : Int) = z at *
          go_wp2
          go_quiet (fail)
          go_wp2
          go_quiet (fail)
          go_wp2
          go_roundw
          case rel => first | exact ⟨m + 1 + 1, by omega, by go_num, _, rfl⟩ | ((repeat apply Exists.intro); exact ⟨⟨m + 1 + 1, by omega, by go_num, _, rfl⟩, rfl⟩)
          case measure => (simp [intOf] <;> omega)
      · skip
        have hH := HH.out
        clear wk2 wk3
        by_cases hh : k < H
        · have c1 := O2.out.cell (k + H) (by rw [waveTo_length]; omega)
          rw [waveTo_getD _ _ _ (by omega)] at c1
          have e := wk4 (.inr rfl) (by omega)
          have e' : elemF 4 (N : Int) p ((k + H : Nat) : Int) = -elemF 4 (N : Int) p (k : Int) := by rw [← e, hH]; simp
          rw [e'] at c1
          clear e e' wk4
          have hh' : (k : Int) < (H : Int) := by omega
          generalize elemF 4 (N : Int) p (k : Int) = z at *
          go_wp2
          go_quiet (fail)
          go_wp2
          go_quiet (fail)
          go_wp2
          go_roundw
          case rel => exact ⟨k + 1, by omega, by go_num, _, rfl⟩
          case measure => (simp [intOf] <;> omega)
        · have hh' : (H : Int) ≤ (k : Int) := by omega
          clear wk4
          generalize elemF 4 (N : Int) p (k : Int) = z at *
          go_wp2
          go_quiet (fail)
          go_wp2
          go_quiet (fail)
          go_wp2
          go_roundw
          case rel => exact ⟨k + 1, by omega, by go_num, _, rfl⟩
          case measure => (simp [intOf] <;> omega)
    · have j1 : (N : Int) ≤ (k : Int) := by omega
      rcases hkk with rfl | rfl | rfl | rfl
      · go_wp2
        go_ret
        exact ⟨rfl, below_drewN B2 _⟩
      · have c0 := O2.out.cell 0 (by rw [waveTo_length]; omega)
        rw [waveTo_getD _ _ _ (by omega)] at c0
        have c1 := O2.out.cell (N - 1) (by rw [waveTo_length]; omega)
        rw [waveTo_getD _ _ _ (by omega)] at c1
        have e0 : elemF 2 (N : Int) p ((0 : Nat) : Int) = -p := by simp [elemF]
        have e1 : elemF 2 (N : Int) p ((N - 1 : Nat) : Int) = p := by
          have : ((N - 1 : Nat) : Int) = (N : Int) - 1 := by omega
          simp only [elemF, this]
          simp
          rw [Int.mul_ediv_cancel _ (by omega)]
          omega
        rw [e0] at c0
        rw [e1] at c1
        have ej : (N : Int) - 1 = ((N - 1 : Nat) : Int) := by omega
        have jn : N - 1 < N := by omega
        clear e0 e1
        generalize N - 1 = j at *
        go_wp2
        go_ret
        exact ⟨rfl, below_drewN B2 _⟩
      · go_wp2
        go_ret
        exact ⟨rfl, below_drewN B2 _⟩
      · go_wp2
        go_ret
        exact ⟨rfl, below_drewN B2 _⟩

end Go.Proofs.Ytbahhkpfbmlcjaa
