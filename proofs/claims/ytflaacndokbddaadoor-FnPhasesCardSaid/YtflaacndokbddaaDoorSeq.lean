/-
 Contracts of the small functions over []int64 that the laws use: areSamples and its kin, l13Ok, isWave, eqInt64S, toInt64S, markInt64S, heldInt64S.
-/
import Derived.Test.YtflaacndokbddaaDoorMem
import Derived.Test.YtflaacndokbddaaDoorNum
namespace Go.Proofs.YtflaacndokbddaaDoor
open Go.RowKit

theorem isSample_any (n : Int) (w : World) : Calls Tryd.prog 22 #[.int .i64 n] w fun e w' => e = .returned (.bool (inB n (-2147483648) 2147483647)) ∧ w = w' := by
 go_enter Tryd.func22, Tryd.ntmps22
 go_wp2_with (go_at_call 33; refine (within_any _ _ _ _).mono ?_; rintro e w' ⟨rfl, rfl⟩)
 go_ret
 exact ⟨rfl, rfl⟩
theorem size_any (v : Value) (xs : List Int) (w : World) (h : Ints w v xs) : Calls Tryd.prog 24 #[v] w fun e w' => e = .returned (.int .i64 xs.length) ∧ w = w' := by
 obtain ⟨hl, a, cap, rfl, _⟩ := h
 go_enter Tryd.func24, Tryd.ntmps24
 go_wp2
 go_ret
 exact ⟨rfl, rfl⟩

def samB (xs : List Int) : Bool := xs.all fun x => inB x (-2147483648) 2147483647
theorem samB_take {xs : List Int} {k : Nat} (hk : k < xs.length) : samB (xs.take (k + 1)) = (samB (xs.take k) && inB (xs.getD k 0) (-2147483648) 2147483647) := by
 have e : xs.getD k 0 = xs[k] := by simp [List.getD, hk]
 rw [e]
 simp only [samB, List.take_succ_eq_append_getElem hk, List.all_append, List.all_cons, List.all_nil, Bool.and_true]
theorem samB_false {xs : List Int} {k : Nat} (hk : k < xs.length) (h : inB (xs.getD k 0) (-2147483648) 2147483647 = false) : samB xs = false := by
 have e : xs.getD k 0 = xs[k] := by simp [List.getD, hk]
 rw [e] at h
 rw [← Bool.not_eq_true]
 intro hs
 have := List.all_eq_true.1 hs _ (List.getElem_mem hk)
 simp [h] at this
theorem samB_getD {xs : List Int} (h : samB xs = true) (k : Nat) : -2147483648 ≤ xs.getD k 0 ∧ xs.getD k 0 ≤ 2147483647 := by
 by_cases hk : k < xs.length
 · have e : xs.getD k 0 = xs[k] := by simp [List.getD, hk]
   rw [e]; exact inB_true.1 (List.all_eq_true.1 h _ (List.getElem_mem hk))
 · have e : xs.getD k 0 = 0 := by simp [List.getD, List.getElem?_eq_none (Nat.le_of_not_lt hk)]
   rw [e]; omega

theorem areSamples_any (v : Value) (xs : List Int) (w : World) (h : Ints w v xs) : Calls Tryd.prog 32 #[v] w fun e w' => e = .returned (.bool (samB xs)) ∧ w = w' := by
 obtain ⟨hl, a, cap, rfl, hc⟩ := h
 go_enter Tryd.func32, Tryd.ntmps32
 go_wp2
 go_loop [7] (fun i => ∃ k : Nat, k ≤ xs.length ∧ i = .int .i64 k ∧ Hid (samB (xs.take k) = true)) (fun i => xs.length - (intOf i).toNat)
 case atStart => exact ⟨0, Nat.zero_le _, rfl, rfl⟩
 case round =>
  obtain ⟨k, hk, rfl, hs⟩ := hrel
  by_cases hlt : k < xs.length
  · obtain ⟨b, off, rfl, hcell⟩ := hc (by omega)
    have hc1 := hcell k hlt
    clear hcell hc
    have hst := samB_take hlt
    have hsf := samB_false hlt
    generalize hx : xs.getD k 0 = x at *
    have HX := Lib.hid hx; clear hx
    have HT := Lib.hid hst; clear hst
    have HF := Lib.hid hsf; clear hsf
    cases h1 : inB x (-2147483648) 2147483647
    · go_wp2_with (go_at_call 22; refine (isSample_any _ _).mono ?_; rintro e w' ⟨rfl, rfl⟩)
      go_ret
      exact ⟨ret_bool (HF.out h1).symm, rfl⟩
    · go_wp2_with (go_at_call 22; refine (isSample_any _ _).mono ?_; rintro e w' ⟨rfl, rfl⟩)
      go_round
      case rel => exact ⟨k + 1, by omega, by go_num, by unfold Hid; rw [HT.out, hs.out, h1]; rfl⟩
      case measure => simp [intOf]; omega
  · go_wp2
    go_ret
    exact ⟨ret_bool (by have := hs.out; rw [List.take_of_length_le (by omega)] at this; exact this.symm), rfl⟩

end Go.Proofs.YtflaacndokbddaaDoor
