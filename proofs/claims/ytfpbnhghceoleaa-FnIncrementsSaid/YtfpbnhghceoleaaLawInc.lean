/-
  The law FnIncrements, walked.
-/
import Derived.Test.YtfpbnhghceoleaaDrawF
import Derived.Test.YtfpbnhghceoleaaFreq
import Derived.Test.YtfpbnhghceoleaaLong
import Derived.Test.YtfpbnhghceoleaaSeq
import Derived.BigQuiet
namespace Go.Proofs.Ytfpbnhghceoleaa
open Go.RowKit

theorem validSample_val {n : Int} {b : Bool} (h : inB n (-2147483648) 2147483647 = b) (w : World) : Calls Try.prog 36 #[.int .i64 n] w fun e w' => e = .returned (.bool b) ∧ w = w' := by
  subst h
  go_enter Try.func36, Try.ntmps36
  go_wp2_with (go_at_call 67; refine (l01Sample_any _ _).mono ?_; rintro e w' ⟨rfl, rfl⟩)
  go_ret
  exact ⟨rfl, rfl⟩
theorem a2Size_any (n : Int) (w : World) (hn : -4611686018427387904 ≤ n ∧ n ≤ 4611686018427387904) : Calls Try.prog 37 #[.int .i64 n] w fun e w' => e = .returned (.int .i64 (n.natAbs : Nat)) ∧ w = w' := by
  by_cases h : n < 0
  · go_enter Try.func37, Try.ntmps37
    go_wp2
    go_ret
    exact ⟨ret_int (by omega), rfl⟩
  · go_enter Try.func37, Try.ntmps37
    go_wp2
    go_ret
    exact ⟨ret_int (by omega), rfl⟩
theorem a2Size_val {n : Int} {m : Nat} (h : n.natAbs = m) (w : World) (hn : -4611686018427387904 ≤ n ∧ n ≤ 4611686018427387904) : Calls Try.prog 37 #[.int .i64 n] w fun e w' => e = .returned (.int .i64 m) ∧ w = w' := by
  subst h; exact a2Size_any n w hn

theorem near {a T q : Int} (hT : 1 ≤ T) (ha : 0 ≤ a) (h2 : 2 * a ≤ T) (hq : q = (8589934592 * a + T) / (2 * T)) : 0 ≤ q ∧ q ≤ 2147483648 ∧ 2 * (q * T - 4294967296 * a) ≤ T ∧ -T ≤ 2 * (q * T - 4294967296 * a) := by
  have e1 := Int.mul_ediv_add_emod (8589934592 * a + T) (2 * T)
  have e2 := Int.emod_nonneg (8589934592 * a + T) (by omega : 2 * T ≠ 0)
  have e3 := Int.emod_lt_of_pos (8589934592 * a + T) (by omega : 0 < 2 * T)
  rw [← hq] at e1
  have e4 : 2 * T * q = 2 * (q * T) := by rw [Int.mul_assoc, Int.mul_comm T q]
  rw [e4] at e1
  have h0 : 0 ≤ q := by rw [hq]; exact Int.ediv_nonneg (by omega) (by omega)
  refine ⟨h0, ?_, by omega, by omega⟩
  have h5 : q ≤ (2147483648 * (2 * T) + T) / (2 * T) := by rw [hq]; exact Int.ediv_le_ediv (by omega) (by omega)
  have h6 : (2147483648 * (2 * T) + T) / (2 * T) = 2147483648 := by
    have := Int.add_mul_ediv_right T 2147483648 (by omega : 2 * T ≠ 0)
    rw [Int.add_comm, this, Int.ediv_eq_zero_of_lt (by omega) (by omega)]
    rfl
  omega

theorem FreqF_ok {n d r : Int} (h : (FreqF n d r).2 = 0) : frB n d = true ∧ inB r 1 1000000 = true ∧ 0 ≤ n ∧ 2 * n ≤ r * d ∧ (FreqF n d r).1 = wrap32 ((8589934592 * n + r * d) / (2 * (r * d))) := by
  unfold FreqF at h ⊢
  split at h
  · rename_i h1
    split at h
    · rename_i h2
      rw [if_pos h1, if_pos h2]
      exact ⟨h1, h2.1, h2.2.1, h2.2.2, rfl⟩
    · simp at h
  · simp at h

set_option maxRecDepth 100000 in
set_option maxHeartbeats 2000000 in
theorem law_FnIncrements (a0 : Option Addr) (len cap : Nat) (zs : List Int) (w : World) (hrow : IsRow .u8 w a0 len cap zs) :
    Calls Try.prog 7 #[.slice a0 len cap] w fun e w' => e = .returned (.bool true) ∧ Below w.heap.size w w' := by
  have HX := Lib.hid (Nums.of_row hrow); have HB := Lib.hid (bytes_of_row hrow)
  clear hrow
  by_cases hlong : 3000 < len
  · go_enter Try.func7, Try.ntmps7
    go_wp2_with (go_at_call 28; refine (a2Long_yes a0 none len cap 0 0 _ (.inl hlong)).mono ?_; rintro e w' ⟨rfl, rfl⟩)
    go_ret
    exact ⟨rfl, Below.refl _ _⟩
  go_enter Try.func7, Try.ntmps7
  go_wp2_with fail
  refine (a2Long_no a0 none len cap 0 0 _ ⟨by omega, by omega⟩).mono ?_; rintro e w' ⟨rfl, rfl⟩
  go_wp2_with fail
  refine (drawFreq_any _ _ _ HX.out HB.out).mono ?_; rintro e w1 ⟨a, b, r, rfl, b1⟩
  have A1 : Below w1.heap.size w1 (w1.alloc (.cells #[.int .i64 a, .int .i64 b] 46)) := (Below.refl _ _).alloc (Nat.le_refl _) _
  have x1 := BoxU.newAt w1 [.int .i64 a, .int .i64 b] 46 rfl
  have BB1 := Lib.hid (b1.trans (A1.mono b1.size)); have X1 := Lib.hid x1
  clear HX HB hlong b1 A1 x1
  go_wp2_with fail
  refine (implFreq_any a b r _).mono ?_; rintro e w2 ⟨rfl, b2⟩
  have B2 := Lib.hid (BB1.out.trans (b2.mono BB1.out.size)); have x2 := X1.out.below b2
  have hok := fun h => FreqF_ok (n := a) (d := b) (r := r) h
  have hxb : -2147483648 ≤ (FreqF a b r).1 ∧ (FreqF a b r).1 ≤ 2147483647 := by
    unfold FreqF; split
    · split
      · exact wrap32_bd _
      · simp
    · simp
  generalize FreqF a b r = R at *
  obtain ⟨x, c⟩ := R
  simp only at hok hxb ⊢
  clear BB1 X1 b2
  by_cases hc : c = 0
  · subst hc
    obtain ⟨h1, h2, h3, h4, h5⟩ := hok rfl
    have H5 := Lib.hid h5; clear h5
    have hf := frB_bd h1
    have hr := inB_true.1 h2
    have j0 := x2.1.at 0 rfl; have j1 := x2.1.at 1 rfl
    have HV := Lib.hid (fun w => validSample_val (inB_of hxb) w)
    have hm := mul_range (a := r) (b := b) (A := 1000000) (B := 1000000) (by omega) (by omega)
    have hm1 : 1 ≤ r * b := by have := Int.mul_le_mul hr.1 hf.1 (by omega) (by omega); omega
    clear hok x2 h1 h2
    by_cases hb1 : 50000000 < r * b
    · have hb1' : decide (50000000 < r * b) = true := decide_eq_true hb1
      go_wp2_with fail
      refine (HV.out _).mono ?_; rintro e w' ⟨rfl, rfl⟩
      go_wp2
      go_ret
      exact ⟨rfl, B2.out⟩
    have hb1' : decide (50000000 < r * b) = false := decide_eq_false hb1
    by_cases hb2 : 1000000 < a
    · have hb2' : decide (1000000 < a) = true := decide_eq_true hb2
      go_wp2_with fail
      refine (HV.out _).mono ?_; rintro e w' ⟨rfl, rfl⟩
      go_wp2
      go_ret
      exact ⟨rfl, B2.out⟩
    have hb2' : decide (1000000 < a) = false := decide_eq_false hb2
    obtain ⟨q, hq⟩ : ∃ q, q = (8589934592 * a + r * b) / (2 * (r * b)) := ⟨_, rfl⟩
    obtain ⟨n1, n2, n3, n4⟩ := near hm1 h3 h4 hq
    have hx5 : Hid (x = wrap32 q) := by unfold Hid; rw [hq]; exact H5.out
    clear H5
    have p1 := mul_range (a := q) (b := r) (A := 2147483648) (B := 1000000) (by omega) (by omega)
    have p2 := mul_range (a := q) (b := r * b) (A := 2147483648) (B := 50000000) (by omega) (by omega)
    have ea : q * r * b = q * (r * b) := Int.mul_assoc _ _ _
    have W1 : IntKind.i64.wrap (q * r) = q * r := IntWalk.i64_in _ (by omega)
    have W2 : IntKind.i64.wrap (q * r * b) = q * r * b := IntWalk.i64_in _ (by omega)
    have W3 : IntKind.i64.wrap (4294967296 * a) = 4294967296 * a := IntWalk.i64_in _ (by omega)
    have W4 : IntKind.i64.wrap (q * r * b - 4294967296 * a) = q * r * b - 4294967296 * a := IntWalk.i64_in _ (by omega)
    have W5 : IntKind.i64.wrap (r * b) = r * b := IntWalk.i64_in _ (by omega)
    obtain ⟨m, hmm⟩ : ∃ m, (q * r * b - 4294967296 * a).natAbs = m := ⟨_, rfl⟩
    have HM := Lib.hid (fun w => a2Size_val hmm w (by omega))
    have W6 : IntKind.i64.wrap (2 * (m : Int)) = 2 * (m : Int) := IntWalk.i64_in _ (by omega)
    have W7 : 2 * (m : Int) ≤ r * b := by omega
    clear hq ea n3 n4 hb1 hb2 hmm
    by_cases hx0 : q = 2147483648
    · subst hx0
      have hxe : x = -2147483648 := by rw [hx5.out]; unfold wrap32; omega
      subst hxe
      clear hx5
      go_wp2_with fail
      refine (HV.out _).mono ?_; rintro e w' ⟨rfl, rfl⟩
      go_wp2
      go_quiet ((go_at_call 37; exact quietS (HM.out _)))
      go_wp2
      go_ret
      exact ⟨rfl, below_drewN B2.out _⟩
    · have hxe : q = x := by rw [hx5.out]; unfold wrap32; omega
      subst hxe
      clear hx5
      have hx1 : ¬ q < 0 := by omega
      go_wp2_with fail
      refine (HV.out _).mono ?_; rintro e w' ⟨rfl, rfl⟩
      go_wp2
      go_quiet ((go_at_call 37; exact quietS (HM.out _)))
      go_wp2
      go_ret
      exact ⟨rfl, below_drewN B2.out _⟩
  · have hc' : (c != 0) = true := by simpa using hc
    clear hok hxb
    go_wp2
    go_ret
    exact ⟨rfl, B2.out⟩

end Go.Proofs.Ytfpbnhghceoleaa
