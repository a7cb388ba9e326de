/-
  WalshOf of both sides; its law.
-/
import Derived.Test.YtfpbnhghceoleaaWalsh
import Derived.Test.YtfpbnhghceoleaaOnes
import Derived.Test.YtfpbnhghceoleaaPick
import Derived.Test.YtfpbnhghceoleaaWrap
import Derived.Test.YtfpbnhghceoleaaSeq2
namespace Go.Proofs.Ytfpbnhghceoleaa
open Go.RowKit

theorem own_any (v : Value) (xs : List Int) (w : World) (h : Ints w v xs) (hl : xs.length ≤ 1048576) :
    Calls Try.prog 96 #[v] w fun e w' => ∃ v', e = .returned v' ∧ Own w' w.heap.size v' xs ∧ Below w.heap.size w w' := by
  have h1 := h.below ((Below.refl _ _).alloc (Nat.le_refl _) (.cells #[] 2))
  have b1 := (Below.refl w.heap.size w).alloc (Nat.le_refl _) (.cells #[] 2)
  go_enter Try.func96, Try.ntmps96
  go_wp2_with (at_builtin; refine append_all rfl _ _ rfl _ [] v xs rfl Own.made (by simp) rfl h1 (by simp; omega) ?_; intro v' w1 o1 g1)
  go_ret
  exact ⟨_, rfl, by simpa using o1, b1.grown g1 (by simp) (fun k hk => by cases hk; exact Nat.le_refl _)⟩

theorem and_nat (a b : Nat) (ha : a < 16) : bits .and .i64 (a : Int) (b : Int) = ((a &&& b : Nat) : Int) := by
  have h1 : a &&& b ≤ a := Nat.and_le_left
  unfold bits
  simp only [BitVec.ofInt_natCast, BitVec.toNat_and]
  have e : (BitVec.ofNat IntKind.i64.bits a).toNat = a := by simp only [IntKind.bits, BitVec.toNat_ofNat]; exact Nat.mod_eq_of_lt (by omega)
  have e2 : a &&& b % 18446744073709551616 = a &&& b := by
    have : a = a % 2 ^ 64 := (Nat.mod_eq_of_lt (by omega)).symm
    have h2 : (a % 2 ^ 64) &&& (b % 2 ^ 64) = (a &&& b) % 2 ^ 64 := (Nat.and_mod_two_pow).symm
    rw [← this] at h2
    rw [show (18446744073709551616 : Nat) = 2 ^ 64 by decide, h2]
    exact Nat.mod_eq_of_lt (by omega)
  have e3 : (BitVec.ofNat IntKind.i64.bits b).toNat = b % 18446744073709551616 := by simp [IntKind.bits, BitVec.toNat_ofNat]
  rw [e, e3, e2, IntWalk.i64_in _ (by omega)]

def walR (xs : List Int) : List Int × Int := if waveB xs = true then (walTo xs xs.length, 0) else ([], 1)
@[simp] theorem walTo_length (xs : List Int) (n : Nat) : (walTo xs n).length = n := by simp [walTo]
theorem walTo_succ (xs : List Int) (n : Nat) : walTo xs (n + 1) = walTo xs n ++ [wsum xs n xs.length] := by simp [walTo, List.range_succ]
theorem wsum_bd (xs : List Int) (k i : Nat) : -2147483648 ≤ wsum xs k i ∧ wsum xs k i ≤ 2147483647 := by
  cases i with
  | zero => simp [wsum]
  | succ i => exact wrap32_bd _
theorem walR_len (xs : List Int) : (walR xs).1.length ≤ 1048576 := by
  unfold walR
  split
  · rename_i h
    have := h; simp [waveB] at this
    have := szB_true.1 this.1
    simp; omega
  · simp

set_option maxHeartbeats 1000000 in
theorem implWalsh_any (v : Value) (xs : List Int) (w : World) (h : Ints w v xs) :
    Calls Try.prog 39 #[v] w fun e w' => ∃ v', e = .returned (.tuple #[v', .int .i64 (walR xs).2]) ∧ Own w' w.heap.size v' (walR xs).1 ∧ Below w.heap.size w w' := by
  have h0 := h
  obtain ⟨hl, a, cap, rfl, hc⟩ := h
  cases h1 : waveB xs
  · go_enter Try.func39, Try.ntmps39
    go_wp2_with (go_at_call 71; refine (isWave_any _ _ _ h0).mono ?_; rintro e w' ⟨rfl, rfl⟩)
    go_ret2
    exact ⟨_, ret_li (by simp [walR, h1]), by simp only [walR, h1]; exact Own.nil _ _, Below.refl _ _⟩
  have hw := h1
  simp only [waveB, Bool.and_eq_true] at hw
  have hs := szB_true.1 hw.1
  have hs2 : 2 ≤ xs.length ∧ xs.length ≤ 16 := by omega
  have e1 : walR xs = (walTo xs xs.length, 0) := by simp [walR, h1]
  rw [e1]; clear e1
  have HS := Lib.hid hw.2
  obtain ⟨b, o, rfl, hcell⟩ := hc (by omega)
  have HC := Lib.hid hcell
  clear hw hs hc hcell
  go_enter Try.func39, Try.ntmps39
  go_wp2_with (go_at_call 71; refine (isWave_any _ _ _ h0).mono ?_; rintro e w' ⟨rfl, rfl⟩)
  go_loopw [4, 15] (fun out i wr => ∃ k : Nat, k ≤ xs.length ∧ i = .int .i64 k ∧ Own wr w.heap.size out (walTo xs k) ∧ Below w.heap.size w wr) (fun _ i _ => xs.length - (intOf i).toNat)
  case atStart => exact ⟨0, Nat.zero_le _, rfl, Own.made, (Below.refl _ _).alloc (Nat.le_refl _) _⟩
  case round =>
    obtain ⟨k, hk, rfl, hown, hbel⟩ := hrel
    have HO := Lib.hid hown; have HB := Lib.hid hbel; clear hown hbel
    by_cases hlt : k < xs.length
    · have j0 : (k : Int) < (xs.length : Int) := by omega
      go_wp2
      go_loop [6, 20] (fun t i => ∃ j : Nat, j ≤ xs.length ∧ i = .int .i64 j ∧ t = .int .i64 (wsum xs k j)) (fun _ i => xs.length - (intOf i).toNat)
      case atStart => exact ⟨0, Nat.zero_le _, rfl, rfl⟩
      case round =>
        obtain ⟨j, hj, rfl, rfl⟩ := hrel
        by_cases hlj : j < xs.length
        · have j1 : (j : Int) < (xs.length : Int) := by omega
          have d0 := HC.out j hlj
          have d := (HB.out.cell (p := ⟨b, o + j, none⟩) (World.block_lt_of_cell? w _ d0)).trans d0
          have hx := samB_getD HS.out j
          have hsb := wsum_bd xs k j
          have hst : wsum xs k (j + 1) = wrap32 (wsum xs k j + (if oddOnes (k &&& j) = true then -(xs.getD j 0) else xs.getD j 0)) := rfl
          have hand := and_nat k j (by omega)
          have hm : k &&& j < 16 := Nat.lt_of_le_of_lt Nat.and_le_left (by omega)
          have hon := ones_odd hm
          have hole := ones_le hm
          have hct := Lib.hid (fun w => onesCount_any (k &&& j) hm w)
          generalize k &&& j = m at *
          generalize xs.getD j 0 = x at *
          generalize wsum xs k j = t at *
          obtain ⟨hx1, hx2⟩ := hx; obtain ⟨hs3, hs4⟩ := hsb
          have hmi : (0 : Int) ≤ (m : Int) ∧ (m : Int) ≤ 15 := by omega
          have hu : IntKind.u64.wrap (m : Int) = (m : Int) := IntWalk.u64_in _ (by omega)
          have HST := Lib.hid hst
          have hob : (0 : Int) ≤ (ones m : Int) ∧ (ones m : Int) ≤ 4 := by omega
          generalize hog : (ones m : Int) = y at *
          have hy2 : (y % 2 == 1) = oddOnes m := by rw [← hon, Int.tmod_eq_emod_of_nonneg hob.1]
          have HON := Lib.hid hog
          clear d0 hst hm hole hog hon
          cases hodd : oddOnes m
          · rw [hodd] at hy2 HST
            have HT := Lib.hid HST.out; clear HST
            simp only [Bool.false_eq_true, if_false] at HT
            go_wp2_with fail
            refine (hct.out _).mono ?_; rintro e w' ⟨rfl, rfl⟩
            go_wp2_with fail
            refine (implWrap_any _ _).mono ?_; rintro e w' ⟨rfl, rfl⟩
            rw [← HT.out]
            go_wp2
            go_round
            case rel => exact ⟨j + 1, by omega, by go_num, rfl⟩
            case measure => simp [intOf]; omega
          · rw [hodd] at hy2 HST
            have HT := Lib.hid HST.out; clear HST
            simp only [if_true] at HT
            go_wp2_with fail
            refine (hct.out _).mono ?_; rintro e w' ⟨rfl, rfl⟩
            go_wp2_with fail
            refine (implWrap_any _ _).mono ?_; rintro e w' ⟨rfl, rfl⟩
            rw [← HT.out]
            go_wp2
            go_round
            case rel => exact ⟨j + 1, by omega, by go_num, rfl⟩
            case measure => simp [intOf]; omega
        · have e : j = xs.length := by omega
          subst e
          have hlen : (walTo xs k).length ≤ 17592186000000 := by simp; omega
          have HSU := Lib.hid (walTo_succ xs k)
          generalize wsum xs k xs.length = y at *
          clear hj hlj
          go_wp2_with (at_builtin; refine append_one rfl _ _ rfl _ _ _ rfl HO.out HB.out rfl hlen ?_; intro v' w1 hown1 hbel1)
          have HO1 := Lib.hid hown1; have HB1 := Lib.hid hbel1; clear hown1 hbel1
          go_roundw
          case rel => exact ⟨k + 1, by omega, by go_num, by rw [HSU.out]; exact HO1.out, HB1.out⟩
          case measure => simp [intOf]; omega
    · have e : k = xs.length := by omega
      subst e
      go_wp2
      go_ret2
      exact ⟨_, rfl, HO.out, HB.out⟩

theorem fly_in {i s S : Nat} (hs : s < S) (hS : S ≤ 4) (hi : i < 2 ^ S) (h : i &&& 2 ^ s = 0) : i + 2 ^ s < 2 ^ S := by
  have key : ((List.range 5).all fun S => (List.range 4).all fun s => (List.range 16).all fun i => !(decide (s < S) && decide (i < 2 ^ S) && (i &&& 2 ^ s == 0)) || decide (i + 2 ^ s < 2 ^ S)) = true := by decide
  have h16 : 2 ^ S ≤ 2 ^ 4 := Nat.pow_le_pow_right (by decide) hS
  have k1 := List.all_eq_true.1 key S (by simp; omega)
  have k2 := List.all_eq_true.1 k1 s (by simp; omega)
  have k3 := List.all_eq_true.1 k2 i (by simp; omega)
  simp only [decide_eq_true hs, decide_eq_true hi, h, Bool.and_self, beq_self_eq_true, Bool.not_true, Bool.false_or, decide_eq_true_eq] at k3
  exact k3
theorem walsh_all {xs : List Int} {S : Nat} (hS : 1 ≤ S ∧ S ≤ 4) (h : xs.length = 2 ^ S) : stages xs S = walTo xs xs.length := by
  have : S = 1 ∨ S = 2 ∨ S = 3 ∨ S = 4 := by omega
  rcases this with rfl | rfl | rfl | rfl
  · exact walsh2 xs h
  · exact walsh4 xs h
  · exact walsh8 xs h
  · exact walsh16 xs h

set_option maxHeartbeats 2000000 in
theorem specWalsh_any (v : Value) (xs : List Int) (w : World) (h : Ints w v xs) :
    Calls Try.prog 38 #[v] w fun e w' => ∃ v', e = .returned (.tuple #[v', .int .i64 (walR xs).2]) ∧ Own w' w.heap.size v' (walR xs).1 ∧ Below w.heap.size w w' := by
  have h0 := h
  obtain ⟨hl, a, cap, rfl, hc⟩ := h
  cases h1 : waveB xs
  · go_enter Try.func38, Try.ntmps38
    go_wp2_with (go_at_call 66; refine (l13Ok_any _ _ _ h0).mono ?_; rintro e w' ⟨rfl, rfl⟩)
    go_ret2
    exact ⟨_, ret_li (by simp [walR, h1]), by simp only [walR, h1]; exact Own.nil _ _, Below.refl _ _⟩
  have hw := h1
  simp only [waveB, Bool.and_eq_true] at hw
  have hs := szB_true.1 hw.1
  obtain ⟨S, hS, hn⟩ : ∃ S, (1 ≤ S ∧ S ≤ 4) ∧ xs.length = 2 ^ S := by
    rcases hs with h | h | h | h
    · exact ⟨1, by omega, by omega⟩
    · exact ⟨2, by omega, by omega⟩
    · exact ⟨3, by omega, by omega⟩
    · exact ⟨4, by omega, by omega⟩
  have hs2 : 2 ≤ xs.length ∧ xs.length ≤ 16 := by omega
  have e1 : walR xs = (stages xs S, 0) := by simp [walR, h1, walsh_all hS hn]
  rw [e1]; clear e1
  have HLE : Hid (xs.length ≤ 1048576) := by unfold Hid; omega
  obtain ⟨N, hNN⟩ : ∃ N, N = xs.length := ⟨_, rfl⟩
  rw [← hNN] at h0 hs2 hn ⊢
  have HNN := Lib.hid hNN; have HN := Lib.hid hn; have H0 := Lib.hid h0
  clear hw hs hc hn hNN h0 hl
  go_enter Try.func38, Try.ntmps38
  go_wp2_with fail
  refine (l13Ok_any _ xs _ H0.out).mono ?_; rintro e w' ⟨rfl, rfl⟩
  go_wp2_with fail
  refine (own_any _ xs _ H0.out HLE.out).mono ?_; rintro e w1 ⟨v1, rfl, o1, b1⟩
  obtain ⟨a1, cap1, rfl, ha1, _⟩ := o1.shape1
  rw [← HNN.out] at o1 ha1 ⊢
  obtain ⟨g, rfl⟩ := ha1 (by omega)
  have O1 := Lib.hid o1; have B1 := Lib.hid b1
  clear o1 b1 ha1 H0
  go_wp2
  go_loopw [5] (fun hv wr => ∃ s H : Nat, s ≤ S ∧ Hid (H = 2 ^ s) ∧ hv = .int .i64 H ∧ Own wr w.heap.size (.slice (some ⟨g, 0, none⟩) N cap1) (stages xs s) ∧ Below w.heap.size w wr) (fun hv _ => 16 - (intOf hv).toNat)
  case atStart => exact ⟨0, 1, by omega, rfl, rfl, O1.out, B1.out⟩
  case round =>
    obtain ⟨s, H, hsS, hH, rfl, hown, hbel⟩ := hrel
    have HO := Lib.hid hown; have HB := Lib.hid hbel; clear hown hbel
    by_cases hlt : s < S
    · have hHN : H < N := by rw [hH.out, HN.out]; exact Nat.pow_lt_pow_right (by decide) hlt
      have hH1 : 1 ≤ H := by rw [hH.out]; exact Nat.one_le_two_pow
      have j0 : (H : Int) < (N : Int) := by omega
      obtain ⟨wo, rfl⟩ : ∃ wo : World, wo = wr := ⟨_, rfl⟩
      go_wp2
      go_loopw [6] (fun iv wr => ∃ i : Nat, i ≤ N ∧ iv = .int .i64 i ∧ Own wr w.heap.size (.slice (some ⟨g, 0, none⟩) N cap1) (bfly H i (stages xs s)) ∧ Below w.heap.size w wr) (fun iv _ => N - (intOf iv).toNat)
      case atStart => exact ⟨0, Nat.zero_le _, rfl, HO.out, HB.out⟩
      case round =>
        obtain ⟨i, hi, rfl, hown, hbel⟩ := hrel
        by_cases hli : i < N
        · have j1 : (i : Int) < (N : Int) := by omega
          have hand := and_nat i H (by omega)
          have hst : bfly H (i + 1) (stages xs s) = if i &&& H = 0 then ((bfly H i (stages xs s)).set i (wrap32 ((bfly H i (stages xs s)).getD i 0 + (bfly H i (stages xs s)).getD (i + H) 0))).set (i + H) (wrap32 ((bfly H i (stages xs s)).getD i 0 - (bfly H i (stages xs s)).getD (i + H) 0)) else bfly H i (stages xs s) := rfl
          have hin := fun e => fly_in (i := i) hlt hS.2 (by rw [← HN.out]; exact hli)  e
          rw [← hH.out, ← HN.out] at hin
          have hle : (bfly H i (stages xs s)).length = N := by rw [bfly_length, stages_length]; exact HNN.out.symm
          generalize hm : i &&& H = m at *
          clear hm
          cases m with
          | zero =>
            rw [if_pos rfl] at hst
            have hih := hin rfl
            have d1 := hown.cell i (by omega)
            have d2 := hown.cell (i + H) (by omega)
            have f1 := hown.unfrozen i
            have f2 := hown.unfrozen (i + H)
            have j2 : (i : Int) + (H : Int) < (N : Int) := by omega
            have hdis : ¬ i + H = i := by omega
            have hdis2 : ¬ i = i + H := by omega
            have HST := Lib.hid hst
            have hgb := (hown.base_le).1
            have o3 := (hown.set i (wrap32 ((bfly H i (stages xs s)).getD i 0 + (bfly H i (stages xs s)).getD (i + H) 0))).set (i + H) (wrap32 ((bfly H i (stages xs s)).getD i 0 - (bfly H i (stages xs s)).getD (i + H) 0))
            have b3 := (hbel.setCell (p := ⟨g, i, none⟩) hgb (.int .i64 (wrap32 ((bfly H i (stages xs s)).getD i 0 + (bfly H i (stages xs s)).getD (i + H) 0)))).setCell (p := ⟨g, i + H, none⟩) hgb (.int .i64 (wrap32 ((bfly H i (stages xs s)).getD i 0 - (bfly H i (stages xs s)).getD (i + H) 0)))
            rw [← HST.out] at o3
            have O3 := Lib.hid o3; have B3 := Lib.hid b3
            generalize (bfly H i (stages xs s)).getD i 0 = x at *
            generalize (bfly H i (stages xs s)).getD (i + H) 0 = y at *
            clear hst hin HST hown hbel o3 b3 hgb hle
            go_wp2_with (first | (go_at_call 97; refine (specAdd_any _ _ _).mono ?_; rintro e w' ⟨rfl, rfl⟩) | (go_at_call 98; refine (specSub_any _ _ _).mono ?_; rintro e w' ⟨rfl, rfl⟩))
            go_roundw
            case rel => exact ⟨i + 1, by omega, by go_num, O3.out, B3.out⟩
            case measure => simp [intOf]; omega
          | succ m =>
            rw [if_neg (by omega)] at hst
            have HST := Lib.hid hst
            have O3 := Lib.hid hown; have B3 := Lib.hid hbel
            have hne : (((m + 1 : Nat) : Int) != 0) = true := by simp; omega
            have hne2 : ((m : Int) + 1 != 0) = true := by simp; omega
            have hne3 : ¬ (m : Int) + 1 = 0 := by omega
            clear hst hin hown hbel hle
            go_wp2
            go_roundw
            case rel => exact ⟨i + 1, by omega, by go_num, by rw [HST.out]; exact O3.out, B3.out⟩
            case measure => simp [intOf]; omega
        · have e : i = N := by omega
          subst e
          have O3 := Lib.hid hown; have B3 := Lib.hid hbel
          have hst : stages xs (s + 1) = bfly H i (stages xs s) := by rw [hH.out, HNN.out]; rfl
          have HST := Lib.hid hst
          have hHH : H * 2 = 2 ^ (s + 1) := by rw [hH.out, Nat.pow_succ]
          have HHH := Lib.hid hHH
          clear hst hown hbel hHH
          go_wp2
          go_roundw
          case rel => exact ⟨s + 1, H * 2, by omega, HHH.out, by go_num, by rw [HST.out]; exact O3.out, B3.out⟩
          case measure => simp [intOf]; omega
    · have e : s = S := by omega
      subst e
      have j0 : (N : Int) ≤ (H : Int) := by have := hH.out; have := HN.out; omega
      go_wp2
      go_ret2
      exact ⟨_, rfl, HO.out, HB.out⟩

theorem law_FnExactWalshOf (a : Option Addr) (len cap : Nat) (zs : List Int) (w : World) (hrow : IsRow .i64 w a len cap zs) :
    Calls Try.prog 8 #[.slice a len cap] w fun e w' => e = .returned (.bool true) ∧ Below w.heap.size w w' := by
  have hx := Nums.of_row hrow
  have hr := InR.of_row hrow
  have hlen : (zs.take len).length = len := by
    obtain ⟨_, a', cap', hv, _⟩ := hx; simp at hv; simp; omega
  have hl := hx.1
  generalize zs.take len = xs at *
  clear hrow
  by_cases hb : 1048576 < len
  · go_enter Try.func8, Try.ntmps8
    go_wp2
    go_ret
    exact ⟨rfl, Below.refl _ _⟩
  obtain ⟨R, hR⟩ : ∃ R, R = walR xs := ⟨_, rfl⟩
  have hRl : R.1.length ≤ 1048576 := by rw [hR]; exact walR_len xs
  have HR := Lib.hid hR; clear hR
  have B0 : Below w.heap.size w w := Below.refl _ _
  go_enter Try.func8, Try.ntmps8
  go_wp2_with fail
  refine (toInt64S_any _ xs _ hx (by omega)).mono ?_; rintro e w1 ⟨v_oa, rfl, oa1, b1⟩
  have B1 := B0.trans (b1.mono B0.size)
  have hb_oa : w.heap.size ≤ w.heap.size := B0.size
  clear  b1 B0
  go_wp2_with fail
  refine (specWalsh_any _ xs  _ oa1.ints).mono ?_; rintro e w2 ⟨v_ow, rfl, ow2, b2⟩
  rw [← HR.out] at ow2 ⊢
  have B2 := B1.trans (b2.mono B1.size)
  have hb_ow : w.heap.size ≤ w1.heap.size := B1.size
  have oa2 := oa1.below b2
  have ap_oa_ow := oa1.apart ow2 (Nat.le_refl _)
  clear oa1 b2 B1
  clear oa2
  go_wp2_with fail
  refine (toInt64S_any _ xs _ (hx.below B2) (by omega)).mono ?_; rintro e w3 ⟨v_ox, rfl, ox3, b3⟩
  have B3 := B2.trans (b3.mono B2.size)
  have hb_ox : w.heap.size ≤ w2.heap.size := B2.size
  have ow3 := ow2.below b3
  have ap_ow_ox := ow2.apart ox3 (Nat.le_refl _)
  clear ow2 b3 B2
  go_wp2_with fail
  refine (implWalsh_any _ xs  _ ox3.ints).mono ?_; rintro e w4 ⟨v_og, rfl, og4, b4⟩
  rw [← HR.out] at og4 ⊢
  have B4 := B3.trans (b4.mono B3.size)
  have hb_og : w.heap.size ≤ w3.heap.size := B3.size
  have ow4 := ow3.below b4
  have ox4 := ox3.below b4
  have ap_ow_og := ow3.apart og4 (Nat.le_refl _)
  have ap_ox_og := ox3.apart og4 (Nat.le_refl _)
  clear ow3 ox3 b4 B3
  go_wp2_with fail
  refine (eqInt64S_same _ _ _ _ og4.ints ow4.ints).mono ?_; rintro e w5 ⟨rfl, b5⟩
  have B5 := B4.trans (b5.mono B4.size)
  have ow5 := ow4.below b5
  have ox5 := ox4.below b5
  have og5 := og4.below b5
  clear ow4 ox4 og4 b5 B4
  go_wp2_with fail
  refine (toInt64S_any _ xs _ (hx.below B5) (by omega)).mono ?_; rintro e w6 ⟨v_oy, rfl, oy6, b6⟩
  have B6 := B5.trans (b6.mono B5.size)
  have hb_oy : w.heap.size ≤ w5.heap.size := B5.size
  have ow6 := ow5.below b6
  have ox6 := ox5.below b6
  have og6 := og5.below b6
  have ap_ow_oy := ow5.apart oy6 (Nat.le_refl _)
  have ap_ox_oy := ox5.apart oy6 (Nat.le_refl _)
  have ap_og_oy := og5.apart oy6 (Nat.le_refl _)
  clear ow5 ox5 og5 b6 B5
  go_wp2_with fail
  refine (eqInt64S_same _ _ _ _ ox6.ints oy6.ints).mono ?_; rintro e w7 ⟨rfl, b7⟩
  have B7 := B6.trans (b7.mono B6.size)
  have ow7 := ow6.below b7
  have ox7 := ox6.below b7
  have og7 := og6.below b7
  have oy7 := oy6.below b7
  clear ow6 ox6 og6 oy6 b7 B6
  clear oy7
  go_wp2_with fail
  refine (markInt64S_any _ xs _ 1 _ ox7 (by omega) (by omega)).mono ?_; rintro e w8 ⟨rfl, ox8, g8⟩
  have B8 := below_marked B7 g8 ox7 hb_ox
  have ow8 := ow7.keep g8 (fun g hg hh => ap_ow_ox g hg hh)
  have og8 := og7.keep g8 (fun g hg hh => ap_ox_og g hh hg)
  clear ow7 ox7 og7 g8 B7
  clear ox8
  go_wp2_with fail
  refine (eqInt64S_same _ _ _ _ og8.ints ow8.ints).mono ?_; rintro e w9 ⟨rfl, b9⟩
  have B9 := B8.trans (b9.mono B8.size)
  have ow9 := ow8.below b9
  have og9 := og8.below b9
  clear ow8 og8 b9 B8
  go_wp2_with fail
  refine (markInt64S_any _ R.1 _ 1 _ og9 (by omega) (by omega)).mono ?_; rintro e w10 ⟨rfl, og10, g10⟩
  have B10 := below_marked B9 g10 og9 hb_og
  have ow10 := ow9.keep g10 (fun g hg hh => ap_ow_og g hg hh)
  clear ow9 og9 g10 B9
  go_wp2_with fail
  refine (heldInt64S_b _ _ 1 _ og10.ints (by omega) (by omega)).mono ?_; rintro e w11 ⟨rfl, b11⟩
  have B11 := B10.trans (b11.mono B10.size)
  have ow11 := ow10.below b11
  have og11 := og10.below b11
  clear ow10 og10 b11 B10
  go_wp2_with fail
  refine (toInt64S_any _ xs _ (hx.below B11) (by omega)).mono ?_; rintro e w12 ⟨v_oz, rfl, oz12, b12⟩
  have B12 := B11.trans (b12.mono B11.size)
  have hb_oz : w.heap.size ≤ w11.heap.size := B11.size
  have ow12 := ow11.below b12
  have og12 := og11.below b12
  have ap_ow_oz := ow11.apart oz12 (Nat.le_refl _)
  have ap_og_oz := og11.apart oz12 (Nat.le_refl _)
  clear ow11 og11 b12 B11
  go_wp2_with fail
  refine (implWalsh_any _ xs  _ oz12.ints).mono ?_; rintro e w13 ⟨v_oh, rfl, oh13, b13⟩
  rw [← HR.out] at oh13 ⊢
  have B13 := B12.trans (b13.mono B12.size)
  have hb_oh : w.heap.size ≤ w12.heap.size := B12.size
  have ow13 := ow12.below b13
  have og13 := og12.below b13
  have oz13 := oz12.below b13
  have ap_ow_oh := ow12.apart oh13 (Nat.le_refl _)
  have ap_og_oh := og12.apart oh13 (Nat.le_refl _)
  have ap_oz_oh := oz12.apart oh13 (Nat.le_refl _)
  clear ow12 og12 oz12 b13 B12
  clear oz13
  go_wp2_with fail
  refine (eqInt64S_same _ _ _ _ oh13.ints ow13.ints).mono ?_; rintro e w14 ⟨rfl, b14⟩
  have B14 := B13.trans (b14.mono B13.size)
  have ow14 := ow13.below b14
  have og14 := og13.below b14
  have oh14 := oh13.below b14
  clear ow13 og13 oh13 b14 B13
  clear oh14
  go_wp2_with fail
  refine (heldInt64S_b _ _ 1 _ og14.ints (by omega) (by omega)).mono ?_; rintro e w15 ⟨rfl, b15⟩
  have B15 := B14.trans (b15.mono B14.size)
  have ow15 := ow14.below b15
  have og15 := og14.below b15
  clear ow14 og14 b15 B14
  go_wp2_with fail
  go_ret
  exact ⟨rfl, B15⟩


end Go.Proofs.Ytfpbnhghceoleaa
