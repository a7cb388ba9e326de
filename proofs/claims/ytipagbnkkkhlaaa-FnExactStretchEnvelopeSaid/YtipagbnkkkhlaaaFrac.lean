/-
  Contracts: valid fractions, on both sides; toFrac.
-/
import Derived.Test.YtipagbnkkkhlaaaNum
namespace Go.Proofs.Ytipagbnkkkhlaaa
open Go.RowKit

/-- A valid fraction. -/
def frB (n d : Int) : Bool := inB d 1 1000000 && (inB n (-1000000000) 1000000000 && (Nat.gcd n.natAbs d.natAbs == 1))
theorem frB_bd {n d : Int} (h : frB n d = true) : 1 ≤ d ∧ d ≤ 1000000 ∧ -1000000000 ≤ n ∧ n ≤ 1000000000 ∧ Nat.gcd n.natAbs d.natAbs = 1 := by
  simp [frB, inB_true] at h; omega

theorem l02Gcd_any (x y : Nat) (w : World) (hx : x < 18446744073709551616) (hy : y < 18446744073709551616) :
    Calls Try.prog 27 #[.int .u64 x, .int .u64 y] w fun e w' => e = .returned (.int .u64 (Nat.gcd x y)) ∧ w = w' := by
  obtain ⟨g, hg⟩ : ∃ g, g = Nat.gcd x y := ⟨_, rfl⟩
  rw [← hg]
  have HG := Lib.hid hg; clear hg
  go_enter Try.func27, Try.ntmps27
  go_wp2
  go_loop [0, 1] (fun a b => ∃ p q : Nat, p < 18446744073709551616 ∧ q < 18446744073709551616 ∧ a = .int .u64 p ∧ b = .int .u64 q ∧ Hid (Nat.gcd p q = g)) (fun _ b => (intOf b).toNat)
  case atStart => exact ⟨x, y, hx, hy, rfl, rfl, HG.out.symm⟩
  case round =>
    obtain ⟨p, q, hp, hq, rfl, rfl, hpq⟩ := hrel
    by_cases h0 : q = 0
    · subst h0
      go_wp2
      go_ret
      exact ⟨ret_int (by have := hpq.out; simp at this; omega), rfl⟩
    · have h1 : (0 : Int) < (q : Int) := by omega
      have hlt := Nat.mod_lt p (by omega : q > 0)
      go_wp2
      go_round
      case rel => exact ⟨q, p % q, hq, by omega, rfl, by go_num, by have := hpq.out; rw [Nat.gcd_comm, ← Nat.gcd_rec] ; rwa [Nat.gcd_comm]⟩
      case measure => simp [intOf]; omega

theorem isFrac_any (n d : Int) (w : World) :
    Calls Try.prog 18 #[.agg #[.int .i64 n, .int .i64 d]] w fun e w' => e = .returned (.bool (frB n d)) ∧ ∃ k, w' = (w.alloc (.cells #[.int .i64 n, .int .i64 d] 34)).drewN k := by
  cases h1 : inB d 1 1000000
  · go_enter Try.func18, Try.ntmps18
    go_wp2_with fail
    go_quiet ((first | (go_at_call 32; exact quietS (within_val h1 _))))
    go_wp2
    go_ret
    exact ⟨ret_bool (by simp [frB, h1]), _, rfl⟩
  cases h2 : inB n (-1000000000) 1000000000
  · go_enter Try.func18, Try.ntmps18
    go_wp2_with fail
    go_quiet ((first | (go_at_call 32; first | with_reducible exact quietS (within_val h1 _) | with_reducible exact quietS (within_val h2 _))))
    go_wp2
    go_ret
    exact ⟨ret_bool (by simp [frB, h2]), _, rfl⟩
  have b1 := inB_true.1 h1
  have b2 := inB_true.1 h2
  obtain ⟨D, rfl⟩ := Int.eq_ofNat_of_zero_le (by omega : 0 ≤ d)
  have u1 : IntKind.u64.wrap (D : Int) = D := IntWalk.u64_in _ (by omega)
  go_enter Try.func18, Try.ntmps18
  go_wp2_with fail
  go_quiet ((first
    | (go_at_call 32; first | with_reducible exact quietS (within_val h1 _) | with_reducible exact quietS (within_val h2 _))
    | (go_at_call 34; exact quietS (magnitude_any _ _ (by omega)))
    | (go_at_call 33; exact Calls.quiet_of (gcd_any _ _ _ (by omega) (by omega)))))
  go_wp2
  go_ret
  exact ⟨ret_bool (by simp [frB, h1, h2]; rw [Bool.eq_iff_iff]; simp; omega), _, rfl⟩

theorem l02Ok_any (n d : Int) (w : World) :
    Calls Try.prog 14 #[.agg #[.int .i64 n, .int .i64 d]] w fun e w' => e = .returned (.bool (frB n d)) ∧ ∃ k, w' = (w.alloc (.cells #[.int .i64 n, .int .i64 d] 34)).drewN k := by
  cases h1 : inB d 1 1000000
  · go_enter Try.func14, Try.ntmps14
    go_wp2_with fail
    go_quiet ((first | (go_at_call 26; exact quietS (l00In_val h1 _))))
    go_wp2
    go_ret
    exact ⟨ret_bool (by simp [frB, h1]), _, rfl⟩
  cases h2 : inB n (-1000000000) 1000000000
  · go_enter Try.func14, Try.ntmps14
    go_wp2_with fail
    go_quiet ((first | (go_at_call 26; first | with_reducible exact quietS (l00In_val h1 _) | with_reducible exact quietS (l00In_val h2 _))))
    go_wp2
    go_ret
    exact ⟨ret_bool (by simp [frB, h2]), _, rfl⟩
  have b1 := inB_true.1 h1
  have b2 := inB_true.1 h2
  obtain ⟨D, rfl⟩ := Int.eq_ofNat_of_zero_le (by omega : 0 ≤ d)
  have u1 : IntKind.u64.wrap (D : Int) = D := IntWalk.u64_in _ (by omega)
  go_enter Try.func14, Try.ntmps14
  go_wp2_with fail
  go_quiet ((first
    | (go_at_call 26; first | with_reducible exact quietS (l00In_val h1 _) | with_reducible exact quietS (l00In_val h2 _))
    | (go_at_call 28; exact quietS (l02Size_any _ _ (by omega)))
    | (go_at_call 27; exact quietS (l02Gcd_any _ _ _ (by omega) (by omega)))))
  go_wp2
  go_ret
  exact ⟨ret_bool (by simp [frB, h1, h2]; rw [Bool.eq_iff_iff]; simp; omega), _, rfl⟩

theorem toFrac_any (n d : Int) (w : World) :
    Calls Try.prog 7 #[.agg #[.int .i64 n, .int .i64 d]] w fun e w' => e = .returned (.agg #[.int .i64 n, .int .i64 d]) ∧ Below w.heap.size w w' := by
  go_enter Try.func7, Try.ntmps7
  go_wp2
  refine bodyPost_ret (v := .agg #[.int .i64 n, .int .i64 d]) (by simp [results, Try.results7, go_sem]) rfl ⟨rfl, ?_⟩
  repeat (first | exact Below.refl _ _ | refine Below.alloc ?_ (by simp <;> omega) _ | refine Below.setCell ?_ (by simp) _)

end Go.Proofs.Ytipagbnkkkhlaaa
