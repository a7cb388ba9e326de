/-
 The law FnPhases, walked.
-/
import Derived.BigQuiet
import Derived.Test.YtflaacndokbddaaDoorDrawP
import Derived.Test.YtflaacndokbddaaDoorPhaseP
import Derived.Test.YtflaacndokbddaaDoorLong
import Derived.Test.YtflaacndokbddaaDoorObj
namespace Go.Proofs.YtflaacndokbddaaDoor
open Go.RowKit

theorem pa_val {a b c r : Int} (h : wrap32 (a + b * c) = r) (w : World) : Calls Tryd.prog 7 #[.int .i64 a, .int .i64 b, .int .i64 c] w fun e w' => e = .returned (.int .i64 r) ∧ w = w' := by
 subst h; exact implPhaseAfter_any a b c w
theorem sa_val {a b c r : Int} (h : wrap32 (a + b * c) = r) (w : World) : Calls Tryd.prog 13 #[.int .i64 a, .int .i64 b, .int .i64 c] w fun e w' => e = .returned (.int .i64 r) ∧ w = w' := by
 subst h; exact specPhaseAfter_any a b c w
theorem wr_any (n : Int) (w : World) : Calls Tryd.prog 9 #[.int .i64 n] w fun e w' => e = .returned (.int .i64 (wrap32 n)) ∧ w = w' := by
 go_enter Tryd.func9, Tryd.ntmps9
 go_wp2_with (go_at_call 18; refine (specWrap_any _ _).mono ?_; rintro e w' ⟨rfl, rfl⟩)
 go_ret
 exact ⟨rfl, rfl⟩
theorem wr_val {n r : Int} (h : wrap32 n = r) (w : World) : Calls Tryd.prog 9 #[.int .i64 n] w fun e w' => e = .returned (.int .i64 r) ∧ w = w' := by
 subst h; exact wr_any n w
theorem per_val {b P : Int} (h : perF b = P) (w : World) (hb : big b) (hT : TabD w) : Calls Tryd.prog 8 #[.int .i64 b] w fun e w' => e = .returned (.int .i64 P) ∧ w = w' := by
 subst h; exact implPeriod_any b w hb hT
theorem TabD.below {w w' : World} (h : TabD w) (hb : Below w.heap.size w w') : TabD w' := fun j hj =>
 have hl := World.block_lt_of_cell? w _ (h j hj)
 (World.cell?_of_block (w := w) (a := ⟨0, j, none⟩) (hb.block _ hl)).trans (h j hj)

set_option maxRecDepth 100000 in
set_option maxHeartbeats 4000000 in
theorem law_FnPhases (a0 : Option Addr) (len0 cap0 : Nat) (zs0 : List Int) (a1 : Option Addr) (len1 cap1 : Nat) (zs1 : List Int) (w : World) (hrow0 : IsRow .u8 w a0 len0 cap0 zs0) (hrow1 : IsRow .u8 w a1 len1 cap1 zs1) (hT : TabD w) :
 Calls Tryd.prog 3 #[.slice a0 len0 cap0, .slice a1 len1 cap1] w fun e w' => e = .returned (.bool true) ∧ Below w.heap.size w w' := by
 have HX := Lib.hid (Nums.of_row hrow0); have HB := Lib.hid (bytes_of_row hrow0)
 have HY := Lib.hid (Nums.of_row hrow1); have HC := Lib.hid (bytes_of_row hrow1)
 have HT := Lib.hid hT
 clear hrow0 hrow1 hT
 by_cases hlong : 3000 < len0 ∨ 3000 < len1
 · go_enter Tryd.func3, Tryd.ntmps3
   go_wp2_with (go_at_call 4; refine (a2Long_yes a0 a1 len0 cap0 len1 cap1 _ hlong).mono ?_; rintro e w' ⟨rfl, rfl⟩)
   go_ret
   exact ⟨rfl, Below.refl _ _⟩
 have HL : Hid (len0 ≤ 3000 ∧ len1 ≤ 3000) := ⟨by omega, by omega⟩
 clear hlong
 go_enter Tryd.func3, Tryd.ntmps3
 go_wp2_with fail
 refine (a2Long_no a0 a1 len0 cap0 len1 cap1 _ HL.out).mono ?_; rintro e w' ⟨rfl, rfl⟩
 go_wp2_with fail
 refine (drawPhase_any _ _ _ HX.out HB.out).mono ?_; rintro e w1 ⟨a, b, n, rfl, ha, hb, hn, b1⟩
 have B1 := Lib.hid b1; have HBG := Lib.hid hb; clear b1 ha hb hn
 go_wp2_with fail
 refine (a2At_any _ _ 0 200 _ (HY.out.below B1.out) HC.out (by omega) (by omega)).mono ?_; rintro e w' ⟨m, rfl, hm, rfl⟩
 clear hm
 obtain ⟨Y, hY⟩ : ∃ Y, Y = wrap32 (a + b * n) := ⟨_, rfl⟩
 obtain ⟨X, hX⟩ : ∃ X, X = wrap32 (a + b * wrap64 (n + m)) := ⟨_, rfl⟩
 have E1 : Hid (wrap32 (a + b * n) = Y) := hY.symm
 have E2 : Hid (wrap32 (Y + b * m) = X) := by unfold Hid; rw [hX, hY]; exact phase_add a b n m
 have E3 : Hid (wrap32 (a + b * wrap64 (n + m)) = X) := hX.symm
 clear hY hX
 obtain ⟨P, hP, hP2, hP3, hP4, hP5⟩ := per_at b
 obtain ⟨A, hA⟩ : ∃ A, A = wrap32 a := ⟨_, rfl⟩
 have E4 : Hid (perF b = (P : Int)) := hP
 have E5 : Hid (wrap32 (a + b * (P : Int)) = A) := by unfold Hid; rw [hA]; exact phase_back hP5
 have E6 : Hid (wrap32 a = A) := hA.symm
 have E7 := Lib.hid hP5
 have hAb : -2147483648 ≤ A ∧ A ≤ 2147483647 := by rw [hA]; exact wrap32_bd a
 have HPB : Hid (P = 1 ∨ ∃ H : Nat, P = 2 * H ∧ 0 < H ∧ wrap32 (a + b * (H : Int)) ≠ A) := by
  rcases hP2 with h | ⟨H, h1, h2, h3⟩
  · exact .inl h
  · exact .inr ⟨H, h1, h2, by rw [hA]; exact phase_not h3⟩
 clear hP hP2 hP5 hA
 obtain ⟨D, hD⟩ : ∃ D, D = wrap32 b := ⟨_, rfl⟩
 have E8 : Hid (wrap32 b = D) := hD.symm
 have E9 : Hid ((D * (P : Int)) % 4294967296 = 0) := by unfold Hid; rw [hD]; exact wrap_mul0 E7.out
 have hDb : -2147483648 ≤ D ∧ D ≤ 2147483647 := by rw [hD]; exact wrap32_bd b
 clear hD
 have jP : (1 : Int) ≤ (P : Int) := by omega
 by_cases h1 : 1 < P
 case' pos =>
  obtain ⟨H, e1, Z, E10, hne⟩ : ∃ H : Nat, (P : Int) / 2 = (H : Int) ∧ ∃ Z, Hid (wrap32 (a + b * (H : Int)) = Z) ∧ (Z == A) = false := by
   rcases HPB.out with h | ⟨H, h2, h3, h4⟩
   · omega
   · exact ⟨H, by omega, _, rfl, by simpa using h4⟩
  have j1 : (1 : Int) < (P : Int) := by omega
  go_wp2_with (first
  | (go_at_call 7; (first | with_reducible refine (pa_val E1.out _).mono ?_ | with_reducible refine (pa_val E2.out _).mono ?_ | with_reducible refine (pa_val E3.out _).mono ?_ | with_reducible refine (pa_val E5.out _).mono ?_ | with_reducible refine (pa_val E10.out _).mono ?_); rintro e w' ⟨rfl, rfl⟩)
  | (go_at_call 8; refine (per_val E4.out _ HBG.out (HT.out.below B1.out)).mono ?_; rintro e w' ⟨rfl, rfl⟩)
  | (go_at_call 9; refine (wr_val E6.out _).mono ?_; rintro e w' ⟨rfl, rfl⟩))
  clear e1 E10 hne j1
 case' neg =>
  have j1 : (P : Int) ≤ 1 := by omega
  go_wp2_with (first
  | (go_at_call 7; (first | with_reducible refine (pa_val E1.out _).mono ?_ | with_reducible refine (pa_val E2.out _).mono ?_ | with_reducible refine (pa_val E3.out _).mono ?_ | with_reducible refine (pa_val E5.out _).mono ?_); rintro e w' ⟨rfl, rfl⟩)
  | (go_at_call 8; refine (per_val E4.out _ HBG.out (HT.out.below B1.out)).mono ?_; rintro e w' ⟨rfl, rfl⟩)
  | (go_at_call 9; refine (wr_val E6.out _).mono ?_; rintro e w' ⟨rfl, rfl⟩))
  clear j1
 all_goals
  clear h1 jP HPB E1 E2 E3 E4 E5
  refine (a2Tables_any _ _ _ (HX.out.below B1.out) HB.out).mono ?_; rintro e w2 ⟨xs, ys, v1, v2, rfl, hl, hly, hs, hsy, o1, o2, b2⟩
  have hwv : waveB xs = true := by simp [waveB, hs, szB_true.2 (by omega : (xs.length : Int) = 2 ∨ (xs.length : Int) = 4 ∨ (xs.length : Int) = 8 ∨ (xs.length : Int) = 16)]
  have hsz : szB xs.length = true := szB_true.2 (by omega)
  obtain ⟨c1, k1, rfl, _, _⟩ := o1.shape1
  have B2 := Lib.hid (belTrans B1.out b2)
  have O1 := Lib.hid o1.objR; have W := Lib.hid hwv; have SZ := Lib.hid hsz
  have hl1 : 2 ≤ xs.length ∧ xs.length ≤ 16 := by omega
  clear o1 o2 hly hsy hwv hs hl b2 hsz
  by_cases h64 : 64 < P
  · have j64 : (64 : Int) < (P : Int) := by omega
    have SUM : Hid ((268435456 * (16 : Int)) % 4294967296 = 0) := by unfold Hid; decide
    have RE : Hid (RendF xs A 268435456 32 = (rendTo xs A 268435456 32, 0)) := by
     unfold Hid RendF
     rw [if_pos W.out, if_pos (by rw [inB_of hAb]; decide)]; rfl
    clear E9 h64
    have o0 := O1.out.now.1
    go_wp2_with (first
     | (go_at_call 9; (first | with_reducible refine (wr_val E8.out _).mono ?_ | with_reducible refine (wr_val E6.out _).mono ?_); rintro e w' ⟨rfl, rfl⟩)
     | (go_at_call 11; refine (implRend_any _ xs A 268435456 32 _ O1.out.now.read).mono ?_; refine Hid.out ?_))
    refine Lib.hid ?_
    rintro e w3 ⟨v3, rfl, o3, b3⟩
    rw [RE.out] at o3 ⊢; dsimp only at o3 ⊢
    have ox := o0.below b3
    have B3 := Lib.hid (belTrans B2.out b3)
    obtain ⟨c3, k3, rfl, ha3, _⟩ := o3.shape1
    simp only [rendTo_length] at o3 ha3 ⊢
    obtain ⟨g3, rfl⟩ := ha3 (by omega)
    obtain ⟨c1', k1', hv1, ha1, _⟩ := ox.shape1
    obtain ⟨g1, rfl⟩ := ha1 (by omega)
    obtain ⟨rfl, rfl⟩ : c1 = some ⟨g1, 0, none⟩ ∧ k1 = k1' := by simpa using hv1
    have CX : Hid (∀ j, j < xs.length → w3.cell? ⟨g1, j, none⟩ = some (.int .i64 (xs.getD j 0))) := fun j hj => ox.cell j hj
    have CY : Hid (∀ j, j < 32 → w3.cell? ⟨g3, j, none⟩ = some (.int .i64 (xs.getD (idxF (wrap32 (A + 268435456 * (j : Int))) xs.length).toNat 0))) := fun j hj => by
     have := o3.cell j (by rw [rendTo_length]; exact hj)
     rwa [rendTo_at hj] at this
    clear ox o3 b3 o0 hv1 ha1 ha3 O1 B2
    go_wp2
    go_loopw [16] (fun i wr => ∃ k : Nat, k ≤ 16 ∧ i = .int .i64 k ∧ ∃ n, wr = w3.drewN n) (fun i _ => 16 - (intOf i).toNat)
    case atStart => exact ⟨0, Nat.zero_le _, rfl, 0, rfl⟩
    case round =>
     obtain ⟨k, hk, rfl, n, rfl⟩ := hrel
     by_cases hlt : k < 16
     · obtain ⟨F, HF⟩ : ∃ F, Hid (wrap32 (a + 268435456 * (k : Int)) = F) := ⟨_, rfl⟩
       have hb := idxF_bd (p := F) SZ.out
       obtain ⟨j, hj⟩ := Int.eq_ofNat_of_zero_le hb.1
       have HJ := Lib.hid hj
       have e1 : wrap32 (A + 268435456 * (k : Int)) = F := by rw [← E6.out, phase_w]; exact HF.out
       have e2 : wrap32 (A + 268435456 * ((k + 16 : Nat) : Int)) = F := by
        rw [← e1, Int.natCast_add]; exact phase_next SUM.out
       have d1 := CX.out j (by omega)
       have d2 := CY.out k (by omega)
       have d3 := CY.out (k + 16) (by omega)
       rw [e1, hj, Int.toNat_natCast] at d2
       rw [e2, hj, Int.toNat_natCast] at d3
       generalize xs.getD j 0 = z at *
       have j1 : (k : Int) < 16 := by omega
       have j2 : decide ((j : Int) < 0) = false := decide_eq_false (by omega)
       have j3 : decide ((xs.length : Int) ≤ (j : Int)) = false := decide_eq_false (by omega)
       have j3a : j < xs.length := by omega
       have j3b : decide (xs.length ≤ j) = false := decide_eq_false (by omega)
       have j4 : IntKind.i64.wrap ((k : Int) + 16) = (k : Int) + 16 := IntWalk.i64_in _ (by omega)
       have j10 : 0 ≤ (k : Int) + 16 := by omega
       have j11 : ((k : Int) + 16).toNat = k + 16 := by omega
       have j5 : (j : Int) < (xs.length : Int) := by omega
       have j6 : (k : Int) < 32 := by omega
       have j7 : ((k + 16 : Nat) : Int) < 32 := by omega
       have j9 : (k : Int) + 16 < 32 := by omega
       clear e1 e2 hj hb hlt
       go_wp2_with (first
        | (go_at_call 13; refine (sa_val HF.out _).mono ?_; rintro e w' ⟨rfl, rfl⟩)
        | (go_at_call 12; refine (implIndex_val HJ.out SZ.out _).mono ?_; rintro e w' ⟨rfl, rfl⟩))
       go_quiet (fail)
       go_wp2
       go_roundw
       case rel => exact ⟨k + 1, by omega, by go_num, n + nq, by simp⟩
       case measure => simp [intOf]; omega
     · have j1 : 16 ≤ (k : Int) := by omega
       go_wp2
       all_goals (go_ret; exact ⟨rfl, below_drewN B3.out n⟩)
  · have j64 : (P : Int) ≤ 64 := by omega
    have SUM := E9
    have e2P : ((2 * P : Nat) : Int) = 2 * (P : Int) := by omega
    have RE : Hid (RendF xs A D (2 * (P : Int)) = (rendTo xs A D (2 * P), 0)) := by
     unfold Hid RendF
     rw [if_pos W.out, if_pos (by rw [inB_of hAb, inB_of hDb, inB_of (show 0 ≤ 2 * (P : Int) ∧ 2 * (P : Int) ≤ 4000 by omega)]; rfl), show (2 * (P : Int)).toNat = 2 * P by omega]
    clear E9 h64
    have o0 := O1.out.now.1
    go_wp2_with (first
     | (go_at_call 9; (first | with_reducible refine (wr_val E8.out _).mono ?_ | with_reducible refine (wr_val E6.out _).mono ?_); rintro e w' ⟨rfl, rfl⟩)
     | (go_at_call 11; refine (implRend_any _ xs A D (2 * (P : Int)) _ O1.out.now.read).mono ?_; refine Hid.out ?_))
    refine Lib.hid ?_
    rintro e w3 ⟨v3, rfl, o3, b3⟩
    rw [RE.out] at o3 ⊢; dsimp only at o3 ⊢
    have ox := o0.below b3
    have B3 := Lib.hid (belTrans B2.out b3)
    obtain ⟨c3, k3, rfl, ha3, _⟩ := o3.shape1
    simp only [rendTo_length] at o3 ha3 ⊢
    obtain ⟨g3, rfl⟩ := ha3 (by omega)
    obtain ⟨c1', k1', hv1, ha1, _⟩ := ox.shape1
    obtain ⟨g1, rfl⟩ := ha1 (by omega)
    obtain ⟨rfl, rfl⟩ : c1 = some ⟨g1, 0, none⟩ ∧ k1 = k1' := by simpa using hv1
    have CX : Hid (∀ j, j < xs.length → w3.cell? ⟨g1, j, none⟩ = some (.int .i64 (xs.getD j 0))) := fun j hj => ox.cell j hj
    have CY : Hid (∀ j, j < (2 * P) → w3.cell? ⟨g3, j, none⟩ = some (.int .i64 (xs.getD (idxF (wrap32 (A + D * (j : Int))) xs.length).toNat 0))) := fun j hj => by
     have := o3.cell j (by rw [rendTo_length]; exact hj)
     rwa [rendTo_at hj] at this
    clear ox o3 b3 o0 hv1 ha1 ha3 O1 B2
    go_wp2
    go_loopw [16] (fun i wr => ∃ k : Nat, k ≤ P ∧ i = .int .i64 k ∧ ∃ n, wr = w3.drewN n) (fun i _ => P - (intOf i).toNat)
    case atStart => exact ⟨0, Nat.zero_le _, rfl, 0, rfl⟩
    case round =>
     obtain ⟨k, hk, rfl, n, rfl⟩ := hrel
     by_cases hlt : k < P
     · obtain ⟨F, HF⟩ : ∃ F, Hid (wrap32 (a + D * (k : Int)) = F) := ⟨_, rfl⟩
       have hb := idxF_bd (p := F) SZ.out
       obtain ⟨j, hj⟩ := Int.eq_ofNat_of_zero_le hb.1
       have HJ := Lib.hid hj
       have e1 : wrap32 (A + D * (k : Int)) = F := by rw [← E6.out, phase_w]; exact HF.out
       have e2 : wrap32 (A + D * ((k + P : Nat) : Int)) = F := by
        rw [← e1, Int.natCast_add]; exact phase_next SUM.out
       have d1 := CX.out j (by omega)
       have d2 := CY.out k (by omega)
       have d3 := CY.out (k + P) (by omega)
       rw [e1, hj, Int.toNat_natCast] at d2
       rw [e2, hj, Int.toNat_natCast] at d3
       generalize xs.getD j 0 = z at *
       have j1 : (k : Int) < (P : Int) := by omega
       have j2 : decide ((j : Int) < 0) = false := decide_eq_false (by omega)
       have j3 : decide ((xs.length : Int) ≤ (j : Int)) = false := decide_eq_false (by omega)
       have j3a : j < xs.length := by omega
       have j3b : decide (xs.length ≤ j) = false := decide_eq_false (by omega)
       have j4 : IntKind.i64.wrap ((k : Int) + (P : Int)) = (k : Int) + (P : Int) := IntWalk.i64_in _ (by omega)
       have j10 : 0 ≤ (k : Int) + (P : Int) := by omega
       have j11 : ((k : Int) + (P : Int)).toNat = k + P := by omega
       have j5 : (j : Int) < (xs.length : Int) := by omega
       have j6 : (k : Int) < ((2 * P : Nat) : Int) := by omega
       have j7 : ((k + P : Nat) : Int) < ((2 * P : Nat) : Int) := by omega
       have j8 : (k : Int) < 2 * (P : Int) := by omega
       have j9 : (k : Int) + (P : Int) < 2 * (P : Int) := by omega
       clear e1 e2 hj hb hlt
       go_wp2_with (first
        | (go_at_call 13; refine (sa_val HF.out _).mono ?_; rintro e w' ⟨rfl, rfl⟩)
        | (go_at_call 12; refine (implIndex_val HJ.out SZ.out _).mono ?_; rintro e w' ⟨rfl, rfl⟩))
       go_quiet (fail)
       go_wp2
       go_roundw
       case rel => exact ⟨k + 1, by omega, by go_num, n + nq, by simp⟩
       case measure => simp [intOf]; omega
     · have j1 : (P : Int) ≤ (k : Int) := by omega
       go_wp2
       all_goals (go_ret; exact ⟨rfl, below_drewN B3.out n⟩)

end Go.Proofs.YtflaacndokbddaaDoor
