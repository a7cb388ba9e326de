/-
  RotateTable and HarmonicTable of both sides.
-/
import Derived.Test.YtfpbnhghceoleaaSeq2
import Derived.Test.YtfpbnhghceoleaaPick
namespace Go.Proofs.Ytfpbnhghceoleaa
open Go.RowKit

theorem modulo_any (n s : Int) (w : World) (hs : 0 < s ∧ s ≤ 16) (hn : -4611686018427387904 ≤ n ∧ n ≤ 4611686018427387904) :
    Calls Try.prog 130 #[.int .i64 n, .int .i64 s] w fun e w' => e = .returned (.int .i64 (n % s)) ∧ w = w' := by
  have e := Int.mul_ediv_add_emod n s
  have e1 := Int.emod_nonneg n (by omega : s ≠ 0)
  have e2 := Int.emod_lt_of_pos n hs.1
  have e3 : n - s * (n / s) = n % s := by omega
  have E := Lib.hid e3; clear e3 e
  have b : -4611686018427387920 ≤ s * (n / s) ∧ s * (n / s) ≤ 4611686018427387920 := by have := E.out; omega
  have b2 : 0 ≤ n - s * (n / s) ∧ n - s * (n / s) ≤ 16 := by have := E.out; omega
  go_enter Try.func130, Try.ntmps130
  go_wp2_with (go_at_call 95; refine (floorDiv_any _ _ _ (by omega) (by omega)).mono ?_; rintro e w' ⟨rfl, rfl⟩)
  go_ret
  exact ⟨ret_int E.out, rfl⟩

theorem and_low (n : Int) (s : Int) (h : szB s = true) : bits .and .i64 n (s - 1) = n % s := by
  have key : ∀ k : Nat, k ≤ 4 → bits .and .i64 n ((2 : Int) ^ k - 1) = n % 2 ^ k := by
    intro k hk
    have hp : 0 < 2 ^ k := Nat.two_pow_pos k
    have hc : ((2 : Int) ^ k - 1) = ((2 ^ k - 1 : Nat) : Int) := by rw [Int.natCast_sub hp]; simp
    rw [hc]
    unfold bits
    simp only [BitVec.ofInt_natCast, BitVec.toNat_and]
    have e : (BitVec.ofInt IntKind.i64.bits n).toNat = (n % 18446744073709551616).toNat := by simp [BitVec.toNat_ofInt, IntKind.bits]
    have hk2 : 2 ^ k ≤ 2 ^ 4 := Nat.pow_le_pow_right (by decide) hk
    have e2 : (BitVec.ofNat IntKind.i64.bits (2 ^ k - 1)).toNat = 2 ^ k - 1 := by
      simp only [IntKind.bits, BitVec.toNat_ofNat]
      exact Nat.mod_eq_of_lt (by omega)
    rw [e, e2, Nat.and_two_pow_sub_one_eq_mod]
    have hm := Nat.mod_lt (n % 18446744073709551616).toNat hp
    rw [IntWalk.i64_in _ (by omega)]
    match k, hk with
    | 0, _ => simp
    | 1, _ => simp; omega
    | 2, _ => simp; omega
    | 3, _ => simp; omega
    | 4, _ => simp; omega
  rcases szB_true.1 h with rfl | rfl | rfl | rfl
  · exact key 1 (by omega)
  · exact key 2 (by omega)
  · exact key 3 (by omega)
  · exact key 4 (by omega)



theorem rot1_any (i r : Int) (b o : Nat) (w : World) (h : w.cell? ⟨b, o, none⟩ = some (.int .i64 r)) (hb : -4611686018427387904 ≤ i + r ∧ i + r ≤ 4611686018427387904) :
    Calls Try.prog 86 #[.int .i64 i, .pointer (some ⟨b, o, none⟩)] w fun e w' => e = .returned (.int .i64 (i + r)) ∧ w = w' := by
  go_enter Try.func86, Try.ntmps86
  go_wp2
  go_ret
  exact ⟨rfl, rfl⟩
theorem har1_any (i r : Int) (b o : Nat) (w : World) (h : w.cell? ⟨b, o, none⟩ = some (.int .i64 r)) (hb : -4611686018427387904 ≤ r * i ∧ r * i ≤ 4611686018427387904) :
    Calls Try.prog 87 #[.int .i64 i, .pointer (some ⟨b, o, none⟩)] w fun e w' => e = .returned (.int .i64 (r * i)) ∧ w = w' := by
  go_enter Try.func87, Try.ntmps87
  go_wp2
  go_ret
  exact ⟨rfl, rfl⟩

/-- The first k elements of the table that is read by another index. -/
def pickTo (xs : List Int) (f : Nat → Int) (k : Nat) : List Int := (List.range k).map fun i => xs.getD (f i % (xs.length : Int)).toNat 0
theorem pickTo_succ (xs : List Int) (f : Nat → Int) (k : Nat) : pickTo xs f (k + 1) = pickTo xs f k ++ [xs.getD (f k % (xs.length : Int)).toNat 0] := by simp [pickTo, List.range_succ]
@[simp] theorem pickTo_length (xs : List Int) (f : Nat → Int) (k : Nat) : (pickTo xs f k).length = k := by simp [pickTo]
def pickF (xs : List Int) (by_ : Int) (f : Nat → Int) : List Int × Int :=
  if waveB xs = true then (if inB by_ (-2147483648) 2147483647 = true then (pickTo xs f xs.length, 0) else ([], 2)) else ([], 1)

theorem modulo_val {n s j : Int} (hj : n % s = j) (w : World) (hs : 0 < s ∧ s ≤ 16) (hn : -4611686018427387904 ≤ n ∧ n ≤ 4611686018427387904) :
    Calls Try.prog 130 #[.int .i64 n, .int .i64 s] w fun e w' => e = .returned (.int .i64 j) ∧ w = w' := by
  subst hj; exact modulo_any n s w hs hn

theorem picked_any (v : Value) (xs : List Int) (r : Int) (b o : Nat) (w : World) (h : Ints w v xs) (hcl : w.cell? ⟨b, o, none⟩ = some (.int .i64 r)) :
    Calls Try.prog 85 #[v, .int .i64 r, .func (.func 86) #[] #[.pointer (some ⟨b, o, none⟩)]] w fun e w' =>
      ∃ v', e = .returned (.tuple #[v', .int .i64 (pickF xs r fun (i : Nat) => (i : Int) + r).2]) ∧ Own w' w.heap.size v' (pickF xs r fun (i : Nat) => (i : Int) + r).1 ∧ Below w.heap.size w w' := by
  have h0 := h
  obtain ⟨hl, a, cap, rfl, hc⟩ := h
  cases h1 : waveB xs
  · go_enter Try.func85, Try.ntmps85
    go_wp2_with (go_at_call 71; refine (isWave_any _ _ _ h0).mono ?_; rintro e w' ⟨rfl, rfl⟩)
    go_ret2
    exact ⟨_, ret_li (by simp [pickF, h1]), by simp only [pickF, h1]; exact Own.nil _ _, Below.refl _ _⟩
  cases h2 : inB r (-2147483648) 2147483647
  · go_enter Try.func85, Try.ntmps85
    go_wp2_with (first | (go_at_call 71; refine (isWave_any _ _ _ h0).mono ?_; rintro e w' ⟨rfl, rfl⟩) | (go_at_call 72; refine (isSample_any _ _).mono ?_; rintro e w' ⟨rfl, rfl⟩))
    go_ret2
    exact ⟨_, ret_li (by simp [pickF, h1, h2]), by simp only [pickF, h1, h2]; exact Own.nil _ _, Below.refl _ _⟩
  have hr := inB_true.1 h2
  have hsz : szB xs.length = true := by have := h1; simp [waveB] at this; exact this.1
  have hs := szB_true.1 hsz
  have hs2 : 2 ≤ xs.length ∧ xs.length ≤ 16 := by omega
  obtain ⟨F, hF⟩ : ∃ F : Nat → Int, F = fun (i : Nat) => (i : Int) + r := ⟨_, rfl⟩
  have e1 : (pickF xs r fun (i : Nat) => (i : Int) + r) = (pickTo xs F xs.length, 0) := by simp [pickF, h1, h2, hF]
  rw [e1]
  have HF := Lib.hid hF
  clear e1 hs
  go_enter Try.func85, Try.ntmps85
  go_wp2_with (first | (go_at_call 71; refine (isWave_any _ _ _ h0).mono ?_; rintro e w' ⟨rfl, rfl⟩) | (go_at_call 72; refine (isSample_any _ _).mono ?_; rintro e w' ⟨rfl, rfl⟩) | (go_at_call 76; refine (size_any _ _ _ (h0.below ((Below.refl _ _).alloc (Nat.le_refl _) _))).mono ?_; rintro e w' ⟨rfl, rfl⟩))
  go_loopw [8, 19] (fun out i wr => ∃ k : Nat, k ≤ xs.length ∧ i = .int .i64 k ∧ Own wr w.heap.size out (pickTo xs F k) ∧ Below w.heap.size w wr) (fun _ i _ => xs.length - (intOf i).toNat)
  case atStart => exact ⟨0, Nat.zero_le _, rfl, by have := World.ownsRow_made (base := w.heap.size) (e := 2) (size := 1) w #[] 0 (Nat.le_refl _) (by unfold maxLen; omega) rfl; exact this, (Below.refl _ _).alloc (Nat.le_refl _) _⟩
  case round =>
    obtain ⟨k, hk, rfl, hown, hbel⟩ := hrel
    by_cases hlt : k < xs.length
    · have hcl' := (hbel.cell (p := ⟨b, o, none⟩) (World.block_lt_of_cell? w _ hcl)).trans hcl
      have h0' := h0.below hbel
      have hkb : -68719476736 ≤ (k : Int) + r ∧ (k : Int) + r ≤ 68719476736 := by first | omega | (have := mul_abs (a := r) (b := (k : Int)) (A := 2147483648) (B := 16) (by omega) (by omega); omega)
      have e1 := Int.emod_nonneg ((k : Int) + r) (by omega : (xs.length : Int) ≠ 0)
      have e2 := Int.emod_lt_of_pos ((k : Int) + r) (by omega : (0 : Int) < (xs.length : Int))
      obtain ⟨j, hj⟩ := Int.eq_ofNat_of_zero_le e1
      obtain ⟨hl', a', cap', hv', hc'⟩ := h0'
      obtain ⟨b2, o2, ha', hcell⟩ := hc' (by omega)
      obtain ⟨rfl, rfl⟩ : a = some ⟨b2, o2, none⟩ ∧ cap = cap' := by simp at hv'; exact ⟨hv'.1.trans ha', hv'.2⟩
      have d1 := hcell j (by omega)
      have hj2 : j < xs.length := by omega
      have hsucc := pickTo_succ xs F k
      rw [HF.out] at hsucc
      simp only [hj, Int.toNat_natCast] at hsucc
      clear hcell hc' hv' e1 e2 hc hF ha'
      generalize xs.getD j 0 = y at *
      have HS := Lib.hid hsucc; clear hsucc
      have HJ := Lib.hid hj; clear hj
      have h0' := h0.below hbel
      go_wp2_with (first
        | (go_at_call 86; refine (rot1_any _ _ _ _ _ hcl' (by omega)).mono ?_; rintro e w' ⟨rfl, rfl⟩)
        | (go_at_call 76; refine (size_any _ _ _ h0').mono ?_; rintro e w' ⟨rfl, rfl⟩)
        | (go_at_call 130; refine (modulo_val HJ.out _ (by omega) (by omega)).mono ?_; rintro e w' ⟨rfl, rfl⟩)
        | (at_builtin; refine append_one rfl _ _ rfl _ _ _ rfl hown hbel rfl (by simp; omega) ?_; intro v' w1 hown1 hbel1))
      go_roundw
      case rel => exact ⟨k + 1, by omega, by go_num, by rw [HF.out, HS.out, ← HF.out]; exact hown1, hbel1⟩
      case measure => simp [intOf]; omega
    · have e : k = xs.length := by omega
      subst e
      go_wp2
      go_ret2
      exact ⟨_, rfl, hown, hbel⟩
theorem pickedH_any (v : Value) (xs : List Int) (r : Int) (b o : Nat) (w : World) (h : Ints w v xs) (hcl : w.cell? ⟨b, o, none⟩ = some (.int .i64 r)) :
    Calls Try.prog 85 #[v, .int .i64 r, .func (.func 87) #[] #[.pointer (some ⟨b, o, none⟩)]] w fun e w' =>
      ∃ v', e = .returned (.tuple #[v', .int .i64 (pickF xs r fun (i : Nat) => r * (i : Int)).2]) ∧ Own w' w.heap.size v' (pickF xs r fun (i : Nat) => r * (i : Int)).1 ∧ Below w.heap.size w w' := by
  have h0 := h
  obtain ⟨hl, a, cap, rfl, hc⟩ := h
  cases h1 : waveB xs
  · go_enter Try.func85, Try.ntmps85
    go_wp2_with (go_at_call 71; refine (isWave_any _ _ _ h0).mono ?_; rintro e w' ⟨rfl, rfl⟩)
    go_ret2
    exact ⟨_, ret_li (by simp [pickF, h1]), by simp only [pickF, h1]; exact Own.nil _ _, Below.refl _ _⟩
  cases h2 : inB r (-2147483648) 2147483647
  · go_enter Try.func85, Try.ntmps85
    go_wp2_with (first | (go_at_call 71; refine (isWave_any _ _ _ h0).mono ?_; rintro e w' ⟨rfl, rfl⟩) | (go_at_call 72; refine (isSample_any _ _).mono ?_; rintro e w' ⟨rfl, rfl⟩))
    go_ret2
    exact ⟨_, ret_li (by simp [pickF, h1, h2]), by simp only [pickF, h1, h2]; exact Own.nil _ _, Below.refl _ _⟩
  have hr := inB_true.1 h2
  have hsz : szB xs.length = true := by have := h1; simp [waveB] at this; exact this.1
  have hs := szB_true.1 hsz
  have hs2 : 2 ≤ xs.length ∧ xs.length ≤ 16 := by omega
  obtain ⟨F, hF⟩ : ∃ F : Nat → Int, F = fun (i : Nat) => r * (i : Int) := ⟨_, rfl⟩
  have e1 : (pickF xs r fun (i : Nat) => r * (i : Int)) = (pickTo xs F xs.length, 0) := by simp [pickF, h1, h2, hF]
  rw [e1]
  have HF := Lib.hid hF
  clear e1 hs
  go_enter Try.func85, Try.ntmps85
  go_wp2_with (first | (go_at_call 71; refine (isWave_any _ _ _ h0).mono ?_; rintro e w' ⟨rfl, rfl⟩) | (go_at_call 72; refine (isSample_any _ _).mono ?_; rintro e w' ⟨rfl, rfl⟩) | (go_at_call 76; refine (size_any _ _ _ (h0.below ((Below.refl _ _).alloc (Nat.le_refl _) _))).mono ?_; rintro e w' ⟨rfl, rfl⟩))
  go_loopw [8, 19] (fun out i wr => ∃ k : Nat, k ≤ xs.length ∧ i = .int .i64 k ∧ Own wr w.heap.size out (pickTo xs F k) ∧ Below w.heap.size w wr) (fun _ i _ => xs.length - (intOf i).toNat)
  case atStart => exact ⟨0, Nat.zero_le _, rfl, by have := World.ownsRow_made (base := w.heap.size) (e := 2) (size := 1) w #[] 0 (Nat.le_refl _) (by unfold maxLen; omega) rfl; exact this, (Below.refl _ _).alloc (Nat.le_refl _) _⟩
  case round =>
    obtain ⟨k, hk, rfl, hown, hbel⟩ := hrel
    by_cases hlt : k < xs.length
    · have hcl' := (hbel.cell (p := ⟨b, o, none⟩) (World.block_lt_of_cell? w _ hcl)).trans hcl
      have h0' := h0.below hbel
      have hkb : -68719476736 ≤ r * (k : Int) ∧ r * (k : Int) ≤ 68719476736 := by first | omega | (have := mul_abs (a := r) (b := (k : Int)) (A := 2147483648) (B := 16) (by omega) (by omega); omega)
      have e1 := Int.emod_nonneg (r * (k : Int)) (by omega : (xs.length : Int) ≠ 0)
      have e2 := Int.emod_lt_of_pos (r * (k : Int)) (by omega : (0 : Int) < (xs.length : Int))
      obtain ⟨j, hj⟩ := Int.eq_ofNat_of_zero_le e1
      obtain ⟨hl', a', cap', hv', hc'⟩ := h0'
      obtain ⟨b2, o2, ha', hcell⟩ := hc' (by omega)
      obtain ⟨rfl, rfl⟩ : a = some ⟨b2, o2, none⟩ ∧ cap = cap' := by simp at hv'; exact ⟨hv'.1.trans ha', hv'.2⟩
      have d1 := hcell j (by omega)
      have hj2 : j < xs.length := by omega
      have hsucc := pickTo_succ xs F k
      rw [HF.out] at hsucc
      simp only [hj, Int.toNat_natCast] at hsucc
      clear hcell hc' hv' e1 e2 hc hF ha'
      generalize xs.getD j 0 = y at *
      have HS := Lib.hid hsucc; clear hsucc
      have HJ := Lib.hid hj; clear hj
      have h0' := h0.below hbel
      go_wp2_with (first
        | (go_at_call 87; refine (har1_any _ _ _ _ _ hcl' (by omega)).mono ?_; rintro e w' ⟨rfl, rfl⟩)
        | (go_at_call 76; refine (size_any _ _ _ h0').mono ?_; rintro e w' ⟨rfl, rfl⟩)
        | (go_at_call 130; refine (modulo_val HJ.out _ (by omega) (by omega)).mono ?_; rintro e w' ⟨rfl, rfl⟩)
        | (at_builtin; refine append_one rfl _ _ rfl _ _ _ rfl hown hbel rfl (by simp; omega) ?_; intro v' w1 hown1 hbel1))
      go_roundw
      case rel => exact ⟨k + 1, by omega, by go_num, by rw [HF.out, HS.out, ← HF.out]; exact hown1, hbel1⟩
      case measure => simp [intOf]; omega
    · have e : k = xs.length := by omega
      subst e
      go_wp2
      go_ret2
      exact ⟨_, rfl, hown, hbel⟩

theorem implRotate_any (v : Value) (xs : List Int) (r : Int) (w : World) (h : Ints w v xs) :
    Calls Try.prog 31 #[v, .int .i64 r] w fun e w' =>
      ∃ v', e = .returned (.tuple #[v', .int .i64 (pickF xs r fun (i : Nat) => (i : Int) + r).2]) ∧ Own w' w.heap.size v' (pickF xs r fun (i : Nat) => (i : Int) + r).1 ∧ Below w.heap.size w w' := by
  have hmf : ∀ (fn : Fn) (first cap : Array Value) (w : World), (Instr.makeFunc fn first cap).run Try.prog w = .ok (.func fn first cap) w := fun _ _ _ _ => rfl
  go_enter Try.func31, Try.ntmps31
  go_wp2_with fail
  have b1 : Below w.heap.size w (w.alloc (.cells #[.int .i64 r] 2)) := (Below.refl _ _).alloc (Nat.le_refl _) _
  refine (picked_any v xs r _ _ _ (h.below b1) (by simp [go_sem])).mono ?_; rintro e w1 ⟨v', rfl, o1, b2⟩
  go_wp2_with fail
  go_ret2
  exact ⟨_, rfl, o1.mono (by simp), b1.trans (b2.mono (by simp))⟩
theorem implHarmonic_any (v : Value) (xs : List Int) (r : Int) (w : World) (h : Ints w v xs) :
    Calls Try.prog 32 #[v, .int .i64 r] w fun e w' =>
      ∃ v', e = .returned (.tuple #[v', .int .i64 (pickF xs r fun (i : Nat) => r * (i : Int)).2]) ∧ Own w' w.heap.size v' (pickF xs r fun (i : Nat) => r * (i : Int)).1 ∧ Below w.heap.size w w' := by
  have hmf : ∀ (fn : Fn) (first cap : Array Value) (w : World), (Instr.makeFunc fn first cap).run Try.prog w = .ok (.func fn first cap) w := fun _ _ _ _ => rfl
  go_enter Try.func32, Try.ntmps32
  go_wp2_with fail
  have b1 : Below w.heap.size w (w.alloc (.cells #[.int .i64 r] 2)) := (Below.refl _ _).alloc (Nat.le_refl _) _
  refine (pickedH_any v xs r _ _ _ (h.below b1) (by simp [go_sem])).mono ?_; rintro e w1 ⟨v', rfl, o1, b2⟩
  go_wp2_with fail
  go_ret2
  exact ⟨_, rfl, o1.mono (by simp), b1.trans (b2.mono (by simp))⟩



end Go.Proofs.Ytfpbnhghceoleaa
