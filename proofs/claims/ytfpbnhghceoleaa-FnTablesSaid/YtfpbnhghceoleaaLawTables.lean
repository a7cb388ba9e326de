/-
  The law FnTables, walked.
-/
import Derived.Test.YtfpbnhghceoleaaDrawT
import Derived.Test.YtfpbnhghceoleaaLong
import Derived.Test.YtfpbnhghceoleaaRot
import Derived.Test.YtfpbnhghceoleaaObj
namespace Go.Proofs.Ytfpbnhghceoleaa
open Go.RowKit

theorem pickTo_getD (xs : List Int) (f : Nat → Int) {n i : Nat} (h : i < n) : (pickTo xs f n).getD i 0 = xs.getD (f i % (xs.length : Int)).toNat 0 := by simp [pickTo, List.getD, h]
theorem pickTo_pickTo (xs : List Int) (f g h : Nat → Int) (hn : 0 < xs.length) (hh : ∀ i, f (g i % (xs.length : Int)).toNat % (xs.length : Int) = h i % (xs.length : Int)) :
    pickTo (pickTo xs f xs.length) g xs.length = pickTo xs h xs.length := by
  apply List.ext_getElem
  · simp
  · intro i h1 h2
    have e1 := Int.emod_nonneg (g i) (by omega : (xs.length : Int) ≠ 0)
    have e2 := Int.emod_lt_of_pos (g i) (by omega : (0 : Int) < (xs.length : Int))
    have := pickTo_getD xs f (n := xs.length) (i := (g i % (xs.length : Int)).toNat) (by omega)
    simp only [pickTo, List.getElem_map, List.getElem_range, List.length_map, List.length_range] at this ⊢
    rw [this, hh]
theorem rot_rot (xs : List Int) (s t : Int) (hn : 0 < xs.length) : pickTo (pickTo xs (fun (i : Nat) => (i : Int) + s) xs.length) (fun (i : Nat) => (i : Int) + t) xs.length = pickTo xs (fun (i : Nat) => (i : Int) + (s + t)) xs.length := by
  refine pickTo_pickTo xs _ _ _ hn fun i => ?_
  rw [Int.toNat_of_nonneg (Int.emod_nonneg _ (by omega)), Int.emod_add_emod]
  congr 1; omega
theorem har_har (xs : List Int) (s t : Int) (hn : 0 < xs.length) : pickTo (pickTo xs (fun (i : Nat) => s * (i : Int)) xs.length) (fun (i : Nat) => t * (i : Int)) xs.length = pickTo xs (fun (i : Nat) => (s * t) * (i : Int)) xs.length := by
  refine pickTo_pickTo xs _ _ _ hn fun i => ?_
  rw [Int.toNat_of_nonneg (Int.emod_nonneg _ (by omega)), Int.mul_emod s, Int.emod_emod, ← Int.mul_emod, Int.mul_assoc]
theorem samB_pickTo {xs : List Int} (h : samB xs = true) (f : Nat → Int) (n : Nat) : samB (pickTo xs f n) = true := by
  refine List.all_eq_true.2 fun x hx => ?_
  simp only [pickTo, List.mem_map, List.mem_range] at hx
  obtain ⟨i, _, rfl⟩ := hx
  exact inB_of (samB_getD h _)
theorem pickF_ok {xs : List Int} (hw : waveB xs = true) (s : Int) (hs : -1000 ≤ s ∧ s ≤ 1000) (f : Nat → Int) : pickF xs s f = (pickTo xs f xs.length, 0) := by
  have : inB s (-2147483648) 2147483647 = true := inB_of (by omega)
  simp [pickF, hw, this]

set_option maxRecDepth 100000 in
set_option maxHeartbeats 2000000 in
theorem law_FnTables (a0 : Option Addr) (len0 cap0 : Nat) (zs0 : List Int) (a1 : Option Addr) (len1 cap1 : Nat) (zs1 : List Int) (w : World) (hrow0 : IsRow .u8 w a0 len0 cap0 zs0) (hrow1 : IsRow .u8 w a1 len1 cap1 zs1) :
    Calls Try.prog 6 #[.slice a0 len0 cap0, .slice a1 len1 cap1] w fun e w' => e = .returned (.bool true) ∧ Below w.heap.size w w' := by
  have HX := Lib.hid (Nums.of_row hrow0); have HB := Lib.hid (bytes_of_row hrow0)
  have HY := Lib.hid (Nums.of_row hrow1); have HC := Lib.hid (bytes_of_row hrow1)
  clear hrow0 hrow1
  by_cases hlong : 3000 < len0 ∨ 3000 < len1
  · go_enter Try.func6, Try.ntmps6
    go_wp2_with (go_at_call 28; refine (a2Long_yes a0 a1 len0 cap0 len1 cap1 _ hlong).mono ?_; rintro e w' ⟨rfl, rfl⟩)
    go_ret
    exact ⟨rfl, Below.refl _ _⟩
  go_enter Try.func6, Try.ntmps6
  go_wp2_with fail
  refine (a2Long_no a0 a1 len0 cap0 len1 cap1 _ ⟨by omega, by omega⟩).mono ?_; rintro e w' ⟨rfl, rfl⟩
  go_wp2_with fail
  refine (a2Tables_any _ _ _ HX.out HB.out).mono ?_; rintro e w1 ⟨xs, ys, v1, v2, rfl, hl, hly, hs, hsy, o1, o2, B1⟩
  have hwv : waveB xs = true := by simp [waveB, hs, szB_true.2 (by omega : (xs.length : Int) = 2 ∨ (xs.length : Int) = 4 ∨ (xs.length : Int) = 8 ∨ (xs.length : Int) = 16)]
  have hl16 : 2 ≤ xs.length ∧ xs.length ≤ 16 := by omega
  obtain ⟨c1, k1, rfl, _, _⟩ := o1.shape1
  have ot_0 := o1.objR; have S := Lib.hid hs; have W := Lib.hid hwv
  have S2 : Hid (∀ f, waveB (pickTo xs f xs.length) = true) := fun f => by simp [waveB, samB_pickTo S.out, szB_true.2 (by omega : (xs.length : Int) = 2 ∨ (xs.length : Int) = 4 ∨ (xs.length : Int) = 8 ∨ (xs.length : Int) = 16)]
  clear o2 o1 hlong HX HB hsy hly hwv hs hl
  go_wp2_with fail
  refine (a2At_any _ _ 0 40 _ (HY.out.below B1) HC.out (by omega) (by omega)).mono ?_; rintro e w' ⟨i, rfl, hi, rfl⟩
  go_wp2_with fail
  refine (a2At_any _ _ 1 40 _ (HY.out.below B1) HC.out (by omega) (by omega)).mono ?_; rintro e w' ⟨k, rfl, hk, rfl⟩
  have hik : -1000 ≤ (i - 20) * k ∧ (i - 20) * k ≤ 1000 := by have := mul_abs (a := i - 20) (b := k) (A := 20) (B := 40) (by omega) (by omega); omega
  have e_rr := Lib.hid (rot_rot xs (i - 20) k (by omega)); have e_hh := Lib.hid (har_har xs (i - 20) k (by omega))
  clear HY HC
  go_wp2_with fail
  refine (implRotate_any _ xs (i - 20) _ ot_0.now.read).mono ?_; rintro e w2 ⟨v2, rfl, q2, b2⟩
  rw [pickF_ok W.out _ (by omega)] at q2 ⊢; simp only [pickTo_length] at q2 ⊢
  obtain ⟨c2, k2, rfl, _, _⟩ := q2.shape1; simp only [pickTo_length] at q2 ⊢
  have apt_a : Hid (w1.heap.size ≤ w1.heap.size) := ot_0.le
  have loa : Hid (w.heap.size ≤ w1.heap.size) := B1.size
  have B2 := B1.trans (b2.mono B1.size)
  have ot_2 := ot_0.below b2; clear ot_0
  have oa_2 := q2.objR; clear q2
  clear b2 B1
  go_wp2_with fail
  refine (implRotate_any _ (pickTo xs (fun (i' : Nat) => (i' : Int) + (i - 20)) xs.length) (k) _ oa_2.now.read).mono ?_; rintro e w3 ⟨v3, rfl, q3, b3⟩
  rw [pickF_ok (S2.out _) _ (by omega)] at q3 ⊢; simp only [pickTo_length] at q3 ⊢; rw [e_rr.out] at q3
  obtain ⟨c3, k3, rfl, _, _⟩ := q3.shape1; simp only [pickTo_length] at q3 ⊢
  have apt_b : Hid (w1.heap.size ≤ w2.heap.size) := ot_2.le
  have apa_b : Hid (w2.heap.size ≤ w2.heap.size) := oa_2.le
  have lob : Hid (w.heap.size ≤ w2.heap.size) := B2.size
  have B3 := B2.trans (b3.mono B2.size)
  have ot_3 := ot_2.below b3; clear ot_2
  have oa_3 := oa_2.below b3; clear oa_2
  have ob_3 := q3.objR; clear q3
  clear b3 B2
  go_wp2_with fail
  refine (implRotate_any _ xs ((i - 20) + k) _ ot_3.now.read).mono ?_; rintro e w4 ⟨v4, rfl, q4, b4⟩
  rw [pickF_ok W.out _ (by omega)] at q4 ⊢; simp only [pickTo_length] at q4 ⊢
  obtain ⟨c4, k4, rfl, _, _⟩ := q4.shape1; simp only [pickTo_length] at q4 ⊢
  have apt_c : Hid (w1.heap.size ≤ w3.heap.size) := ot_3.le
  have apa_c : Hid (w2.heap.size ≤ w3.heap.size) := oa_3.le
  have apb_c : Hid (w3.heap.size ≤ w3.heap.size) := ob_3.le
  have loc : Hid (w.heap.size ≤ w3.heap.size) := B3.size
  have B4 := B3.trans (b4.mono B3.size)
  have ot_4 := ot_3.below b4; clear ot_3
  have oa_4 := oa_3.below b4; clear oa_3
  have ob_4 := ob_3.below b4; clear ob_3
  have oc_4 := q4.objR; clear q4
  clear b4 B3
  go_wp2_with fail
  refine (implHarmonic_any _ xs (i - 20) _ ot_4.now.read).mono ?_; rintro e w5 ⟨v5, rfl, q5, b5⟩
  rw [pickF_ok W.out _ (by omega)] at q5 ⊢; simp only [pickTo_length] at q5 ⊢
  obtain ⟨c5, k5, rfl, _, _⟩ := q5.shape1; simp only [pickTo_length] at q5 ⊢
  have apt_x : Hid (w1.heap.size ≤ w4.heap.size) := ot_4.le
  have apa_x : Hid (w2.heap.size ≤ w4.heap.size) := oa_4.le
  have apb_x : Hid (w3.heap.size ≤ w4.heap.size) := ob_4.le
  have apc_x : Hid (w4.heap.size ≤ w4.heap.size) := oc_4.le
  have lox : Hid (w.heap.size ≤ w4.heap.size) := B4.size
  have B5 := B4.trans (b5.mono B4.size)
  have ot_5 := ot_4.below b5; clear ot_4
  have oa_5 := oa_4.below b5; clear oa_4
  have ob_5 := ob_4.below b5; clear ob_4
  have oc_5 := oc_4.below b5; clear oc_4
  have ox_5 := q5.objR; clear q5
  clear b5 B4
  go_wp2_with fail
  refine (implHarmonic_any _ (pickTo xs (fun (i' : Nat) => (i - 20) * (i' : Int)) xs.length) (k) _ ox_5.now.read).mono ?_; rintro e w6 ⟨v6, rfl, q6, b6⟩
  rw [pickF_ok (S2.out _) _ (by omega)] at q6 ⊢; simp only [pickTo_length] at q6 ⊢; rw [e_hh.out] at q6
  obtain ⟨c6, k6, rfl, _, _⟩ := q6.shape1; simp only [pickTo_length] at q6 ⊢
  have apt_y : Hid (w1.heap.size ≤ w5.heap.size) := ot_5.le
  have apa_y : Hid (w2.heap.size ≤ w5.heap.size) := oa_5.le
  have apb_y : Hid (w3.heap.size ≤ w5.heap.size) := ob_5.le
  have apc_y : Hid (w4.heap.size ≤ w5.heap.size) := oc_5.le
  have apx_y : Hid (w5.heap.size ≤ w5.heap.size) := ox_5.le
  have loy : Hid (w.heap.size ≤ w5.heap.size) := B5.size
  have B6 := B5.trans (b6.mono B5.size)
  have ot_6 := ot_5.below b6; clear ot_5
  have oa_6 := oa_5.below b6; clear oa_5
  have ob_6 := ob_5.below b6; clear ob_5
  have oc_6 := oc_5.below b6; clear oc_5
  have ox_6 := ox_5.below b6; clear ox_5
  have oy_6 := q6.objR; clear q6
  clear b6 B5
  go_wp2_with fail
  refine (implHarmonic_any _ xs ((i - 20) * k) _ ot_6.now.read).mono ?_; rintro e w7 ⟨v7, rfl, q7, b7⟩
  rw [pickF_ok W.out _ (by omega)] at q7 ⊢; simp only [pickTo_length] at q7 ⊢
  obtain ⟨c7, k7, rfl, _, _⟩ := q7.shape1; simp only [pickTo_length] at q7 ⊢
  have apt_z : Hid (w1.heap.size ≤ w6.heap.size) := ot_6.le
  have apa_z : Hid (w2.heap.size ≤ w6.heap.size) := oa_6.le
  have apb_z : Hid (w3.heap.size ≤ w6.heap.size) := ob_6.le
  have apc_z : Hid (w4.heap.size ≤ w6.heap.size) := oc_6.le
  have apx_z : Hid (w5.heap.size ≤ w6.heap.size) := ox_6.le
  have apy_z : Hid (w6.heap.size ≤ w6.heap.size) := oy_6.le
  have loz : Hid (w.heap.size ≤ w6.heap.size) := B6.size
  have B7 := B6.trans (b7.mono B6.size)
  have ot_7 := ot_6.below b7; clear ot_6
  have oa_7 := oa_6.below b7; clear oa_6
  have ob_7 := ob_6.below b7; clear ob_6
  have oc_7 := oc_6.below b7; clear oc_6
  have ox_7 := ox_6.below b7; clear ox_6
  have oy_7 := oy_6.below b7; clear oy_6
  have oz_7 := q7.objR; clear q7
  clear b7 B6
  clear ot_7
  clear oa_7
  clear ox_7
  go_wp2_with fail
  refine (a2Same_same _ _ _ _ ob_7.now.read oc_7.now.read).mono ?_; rintro e w' ⟨rfl, na, rfl⟩
  go_wp2_with fail
  have oy' := oy_7.below (below_drewN (Below.refl _ _) na); have oz' := oz_7.below (below_drewN (Below.refl _ _) na)
  refine (a2Same_same _ _ _ _ oy'.now.read oz'.now.read).mono ?_; rintro e w' ⟨rfl, nb, rfl⟩
  go_wp2_with fail
  go_ret
  exact ⟨rfl, below_drewN B7 _⟩


end Go.Proofs.Ytfpbnhghceoleaa
