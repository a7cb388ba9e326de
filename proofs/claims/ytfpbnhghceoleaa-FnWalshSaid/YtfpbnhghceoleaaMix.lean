/-
  MixTables of both sides.
-/
import Derived.Test.YtfpbnhghceoleaaLists
import Derived.Test.YtfpbnhghceoleaaSum
import Derived.Deep.RegionHeld3
namespace Go.Proofs.Ytfpbnhghceoleaa
open Go.RowKit

/-- The sum of the first k tables. -/
def mixS (xss : List (List Int)) (gs : List Int) (L : Nat) : Nat → List Int
  | 0 => List.replicate L 0
  | k + 1 => addT (mixS xss gs L k) (xss.getD k []) (gs.getD k 0)
theorem mixS_len {xss : List (List Int)} {gs : List Int} {L k : Nat} (h : ∀ j, j < k → (xss.getD j []).length = L) : (mixS xss gs L k).length = L := by
  induction k with
  | zero => simp [mixS]
  | succ k ih =>
    have h1 := ih (fun j hj => h j (by omega))
    have h2 := h k (by omega)
    simp only [mixS, addT, addTo_length]
    omega
/-- The tables that may be mixed. -/
def tabOk (L : Nat) (xss : List (List Int)) : Bool := xss.all fun t => waveB t && decide (t.length = L)
theorem tabOk_take {L : Nat} {xss : List (List Int)} {k : Nat} (hk : k < xss.length) : tabOk L (xss.take (k + 1)) = (tabOk L (xss.take k) && (waveB (xss.getD k []) && decide ((xss.getD k []).length = L))) := by
  have e : xss.getD k [] = xss[k] := by simp [List.getD, hk]
  rw [e]
  simp only [tabOk, List.take_succ_eq_append_getElem hk, List.all_append, List.all_cons, List.all_nil, Bool.and_true]
theorem tabOk_at {L : Nat} {xss : List (List Int)} {k j : Nat} (h : tabOk L (xss.take k) = true) (hj : j < k) (hk : k ≤ xss.length) : (xss.getD j []).length = L := by
  have hjl : j < xss.length := by omega
  have e : xss.getD j [] = xss[j] := by simp [List.getD, hjl]
  rw [e]
  have := List.all_eq_true.1 h xss[j] (List.mem_take_iff_getElem.2 ⟨j, by omega, rfl⟩)
  simp only [Bool.and_eq_true, decide_eq_true_eq] at this
  exact this.2
theorem tabOk_false {L : Nat} {xss : List (List Int)} {k : Nat} (hk : k < xss.length) (h : (waveB (xss.getD k []) && decide ((xss.getD k []).length = L)) = false) : tabOk L xss = false := by
  have e : xss.getD k [] = xss[k] := by simp [List.getD, hk]
  rw [e] at h
  rw [← Bool.not_eq_true]
  intro hh
  have := List.all_eq_true.1 hh xss[k] (List.getElem_mem hk)
  rw [h] at this
  cases this
def MixF (xss : List (List Int)) (gs : List Int) : List Int × Int :=
  if (decide (0 < xss.length) && decide (gs.length = xss.length) && samB gs && tabOk (xss.getD 0 []).length xss) = true then (mixS xss gs (xss.getD 0 []).length xss.length, 0) else ([], 1)
theorem mixF_bad {xss : List (List Int)} {gs : List Int} (h : (decide (0 < xss.length) && decide (gs.length = xss.length) && samB gs && tabOk (xss.getD 0 []).length xss) = false) : MixF xss gs = ([], 1) := by
  unfold MixF; rw [if_neg (by rw [h]; simp)]
theorem mixF_len (xss : List (List Int)) (gs : List Int) (h : ∀ i, (xss.getD i []).length ≤ 1048576) : (MixF xss gs).1.length ≤ 1048576 := by
  unfold MixF
  split
  · rename_i hh
    simp only [Bool.and_eq_true, decide_eq_true_eq] at hh
    rw [mixS_len fun j hj => tabOk_at (k := xss.length) (by rw [List.take_length]; exact hh.2) hj (Nat.le_refl _)]
    exact h 0
  · simp

set_option maxHeartbeats 2000000 in
theorem implMix_any (v gv : Value) (xss : List (List Int)) (gs : List Int) (w : World) (h : Lists w v xss) (hg : Ints w gv gs) (hbe : ∀ i, (xss.getD i []).length ≤ 1048576) :
    Calls Try.prog 49 #[v, gv] w fun e w' => ∃ v', e = .returned (.tuple #[v', .int .i64 (MixF xss gs).2]) ∧ Own w' w.heap.size v' (MixF xss gs).1 ∧ Below w.heap.size w w' := by
  have H0 := Lib.hid h
  have G0 := Lib.hid hg
  obtain ⟨hl, a, cap, rfl, hc⟩ := h
  obtain ⟨hgl, ga, gcap, rfl, hgc⟩ := hg
  have HGC := Lib.hid hgc
  have HC := Lib.hid hc
  have HBE := Lib.hid hbe
  obtain ⟨R, hR⟩ : ∃ R, R = MixF xss gs := ⟨_, rfl⟩
  rw [← hR]
  have HR := Lib.hid hR
  clear hR hgc hbe
  by_cases h0 : xss.length = 0
  · have e : R = ([], 1) := by rw [HR.out]; exact mixF_bad (by simp [h0])
    subst e
    clear hc
    have j0 : (xss.length : Int) = 0 := by omega
    go_enter Try.func49, Try.ntmps49
    go_wp2
    go_ret2
    exact ⟨_, rfl, Own.nil _ _, Below.refl _ _⟩
  by_cases h1 : gs.length = xss.length
  case neg =>
    have e : R = ([], 1) := by rw [HR.out]; exact mixF_bad (by simp [h1])
    subst e
    clear hc
    have j0 : ¬ (xss.length : Int) = 0 := by omega
    have j1 : ¬ (gs.length : Int) = (xss.length : Int) := by omega
    go_enter Try.func49, Try.ntmps49
    go_wp2
    go_ret2
    exact ⟨_, rfl, Own.nil _ _, Below.refl _ _⟩
  have CA := Lib.hid (areSamples_any _ gs w G0.out)
  rw [h1] at CA
  cases h2 : samB gs
  · have e : R = ([], 1) := by rw [HR.out]; exact mixF_bad (by simp [h2])
    subst e
    rw [h2] at CA
    clear hc
    have j0 : ¬ (xss.length : Int) = 0 := by omega
    have j1 : (gs.length : Int) = (xss.length : Int) := by omega
    go_enter Try.func49, Try.ntmps49
    go_wp2_with (go_at_call 112; refine CA.out.mono ?_; rintro e w' ⟨rfl, rfl⟩)
    go_ret2
    exact ⟨_, rfl, Own.nil _ _, Below.refl _ _⟩
  rw [h2] at CA
  have H2 := Lib.hid h2
  clear h2
  have HGL := Lib.hid h1
  obtain ⟨b, o, rfl, hcell⟩ := hc (by omega)
  obtain ⟨u0, d0, f0⟩ := hcell 0 (by omega)
  obtain ⟨L, hL⟩ : ∃ L, (xss.getD 0 []).length = L := ⟨_, rfl⟩
  have hLb := HBE.out 0
  have hu0 : ∃ a c, u0 = .slice a L c := by obtain ⟨_, a, c, h, _⟩ := f0; exact ⟨a, c, by rw [h, hL]⟩
  have CS : Hid (Calls Try.prog 76 #[u0] w fun e w' => e = .returned (.int .i64 L) ∧ w = w') := by have := size_any _ _ _ f0; rw [hL] at this; exact this
  rw [hL] at hLb
  have HL := Lib.hid hL
  have CZ := Lib.hid (zeros_any L w hLb)
  obtain ⟨p0, c0, rfl⟩ := hu0
  simp only [Nat.add_zero] at d0
  have HCELL := Lib.hid hcell
  have HLP := Lib.hid (h1.trans rfl)
  clear hcell hc f0 hL
  have hbad : ∀ k, k < xss.length → (waveB (xss.getD k []) && decide ((xss.getD k []).length = L)) = false → R = ([], 1) := by
    intro k hk hb
    rw [HR.out]
    have hb2 := hb
    rw [← HL.out] at hb2
    exact mixF_bad (by rw [tabOk_false hk hb2]; simp)
  have HBAD := Lib.hid hbad
  have hgood : tabOk L (xss.take xss.length) = true → R = (mixS xss gs L xss.length, 0) := by
    intro ht
    rw [HR.out]; unfold MixF
    rw [List.take_length] at ht
    rw [HL.out, ht, H2.out, if_pos (by simp [h1]; omega)]
  have HGOOD := Lib.hid hgood
  clear hbad hgood
  have j0 : ¬ (xss.length : Int) = 0 := by omega
  have j1 : (gs.length : Int) = (xss.length : Int) := by omega
  go_enter Try.func49, Try.ntmps49
  go_wp2_with (first | (go_at_call 112; refine CA.out.mono ?_; rintro e w' ⟨rfl, rfl⟩) | (go_at_call 76; refine CS.out.mono ?_; rintro e w' ⟨rfl, rfl⟩) | (go_at_call 113; refine CZ.out.mono ?_; rintro e w1 ⟨v1, rfl, o1, b1⟩))
  clear j1 d0
  go_loopw [6, 31] (fun out i wr => ∃ k : Nat, k ≤ xss.length ∧ i = .int .i64 k ∧ Hid (tabOk L (xss.take k) = true) ∧ Own wr w.heap.size out (mixS xss gs L k) ∧ Below w.heap.size w wr) (fun _ i _ => xss.length - (intOf i).toNat)
  case atStart => exact ⟨0, Nat.zero_le _, rfl, rfl, o1, b1⟩
  case round =>
    obtain ⟨k, hk, rfl, ht, hown, hbel⟩ := hrel
    have j2 : (gs.length : Int) = (xss.length : Int) := by have := HGL.out; omega
    by_cases hlt : k < xss.length
    · obtain ⟨u, d1', f1⟩ := HCELL.out k hlt
      have d1 := (hbel.cell (p := ⟨b, o + k, none⟩) (World.block_lt_of_cell? w _ d1')).trans d1'
      obtain ⟨gb, go, rfl, gcell⟩ := HGC.out (by have := HGL.out; omega)
      have g1' := gcell k (by have := HGL.out; omega)
      have g1 := (hbel.cell (p := ⟨gb, go + k, none⟩) (World.block_lt_of_cell? w _ g1')).trans g1'
      have CW := Lib.hid (isWave_any u _ wr (f1.below hbel))
      have hml : (mixS xss gs L k).length = L := mixS_len fun j hj => tabOk_at ht.out hj hk
      have htk := tabOk_take (L := L) hlt
      have hu1 : ∃ a c, u = .slice a (xss.getD k []).length c := by obtain ⟨_, a, c, h, _⟩ := f1; exact ⟨a, c, h⟩
      have CADD := Lib.hid (fun (v1 : Value) (h1 : Ints wr v1 (mixS xss gs L k)) => addTimes_any v1 u (mixS xss gs L k) (xss.getD k []) (gs.getD k 0) wr h1 (f1.below hbel) (by rw [hml]; exact hLb) (HBE.out k))
      obtain ⟨p1, c1, rfl⟩ := hu1
      have HB := Lib.hid (HBAD.out k hlt)
      have hS : mixS xss gs L (k + 1) = addT (mixS xss gs L k) (xss.getD k []) (gs.getD k 0) := rfl
      have HS := Lib.hid hS
      have HTK := Lib.hid htk
      obtain ⟨po, co, rfl, _, _⟩ := hown.shape1
      rw [hml] at hown ⊢
      have HML := Lib.hid hml
      have HO := Lib.hid hown
      have CAD := Lib.hid (CADD.out _ hown.ints)
      clear CADD gcell g1' d1' f1 hS htk hml hown
      obtain ⟨lx, hlx⟩ : ∃ lx, (xss.getD k []).length = lx := ⟨_, rfl⟩
      rw [hlx] at HB HTK d1 CW CAD
      have HLX := Lib.hid hlx
      clear hlx
      have j3 : (k : Int) < (xss.length : Int) := by omega
      cases hw : waveB (xss.getD k [])
      · have e : R = ([], 1) := HB.out (by rw [hw]; rfl)
        subst e
        rw [hw] at CW
        clear hw HR HBAD HGOOD HB
        go_wp2_with (go_at_call 71; refine CW.out.mono ?_; rintro e w' ⟨rfl, rfl⟩)
        go_ret2
        exact ⟨_, rfl, Own.nil _ _, hbel⟩
      rw [hw] at CW
      by_cases hlL : lx = L
      case neg =>
        have e : R = ([], 1) := HB.out (by simp [hlL])
        subst e
        clear hw HR HBAD HGOOD HB
        have j4 : ¬ (lx : Int) = (L : Int) := by omega
        go_wp2_with (go_at_call 71; refine CW.out.mono ?_; rintro e w' ⟨rfl, rfl⟩)
        go_ret2
        exact ⟨_, rfl, Own.nil _ _, hbel⟩
      subst hlL
      have HNEXT : Hid (tabOk lx (xss.take (k + 1)) = true) := by unfold Hid; rw [HTK.out, ht.out, hw]; simp
      generalize gs.getD k 0 = g at *
      clear hw HB HTK HBAD HGOOD
      go_wp2_with (first | (go_at_call 71; refine CW.out.mono ?_; rintro e w' ⟨rfl, rfl⟩) | (go_at_call 114; refine CAD.out.mono ?_; rintro e w2 ⟨v2, rfl, o2, b2⟩))
      have hbel2 := hbel.trans (b2.mono hbel.size)
      have o3 := o2.mono hbel.size
      clear o2 b2 hbel
      go_roundw
      case rel => exact ⟨k + 1, by omega, by go_num, HNEXT.out, by rw [HS.out]; exact o3, hbel2⟩
      case measure => simp [intOf]; omega
    · have e : k = xss.length := by omega
      have e2 : R = (mixS xss gs L xss.length, 0) := HGOOD.out (by rw [← e]; exact ht.out)
      subst e2
      subst e
      go_wp2
      go_ret2
      exact ⟨_, rfl, hown, hbel⟩

set_option maxHeartbeats 4000000 in
theorem specMix_any (v gv : Value) (xss : List (List Int)) (gs : List Int) (w : World) (h : Lists w v xss) (hg : Ints w gv gs) (hbe : ∀ i, (xss.getD i []).length ≤ 1048576) :
    Calls Try.prog 57 #[v, gv] w fun e w' => ∃ v', e = .returned (.tuple #[v', .int .i64 (MixF xss gs).2]) ∧ Own w' w.heap.size v' (MixF xss gs).1 ∧ Below w.heap.size w w' := by
  obtain ⟨hl, a, cap, rfl, hc⟩ := h
  obtain ⟨hgl, ga, gcap, rfl, hgc⟩ := hg
  have HGC := Lib.hid hgc
  have HBE := Lib.hid hbe
  obtain ⟨R, hR⟩ : ∃ R, R = MixF xss gs := ⟨_, rfl⟩
  rw [← hR]
  have HR := Lib.hid hR
  clear hR hgc hbe
  by_cases h0 : xss.length = 0
  · have e : R = ([], 1) := by rw [HR.out]; exact mixF_bad (by simp [h0])
    subst e
    clear hc
    have j0 : (xss.length : Int) = 0 := by omega
    go_enter Try.func57, Try.ntmps57
    go_wp2
    go_ret2
    exact ⟨_, rfl, Own.nil _ _, Below.refl _ _⟩
  by_cases h1 : gs.length = xss.length
  case neg =>
    have e : R = ([], 1) := by rw [HR.out]; exact mixF_bad (by simp [h1])
    subst e
    clear hc
    have j0 : ¬ (xss.length : Int) = 0 := by omega
    have j1 : ((gs.length : Int) != (xss.length : Int)) = true := by simp; omega
    have j2 : (gs.length != xss.length) = true := by simp; omega
    clear h1
    go_enter Try.func57, Try.ntmps57
    go_wp2
    go_ret2
    exact ⟨_, rfl, Own.nil _ _, Below.refl _ _⟩
  have HGL := Lib.hid h1
  obtain ⟨b, o, rfl, hcell⟩ := hc (by omega)
  obtain ⟨u0, d0', f0⟩ := hcell 0 (by omega)
  obtain ⟨L, hL⟩ : ∃ L, (xss.getD 0 []).length = L := ⟨_, rfl⟩
  have hLb := HBE.out 0
  have hu0 : ∃ a c, u0 = .slice a L c := by obtain ⟨_, a, c, h, _⟩ := f0; exact ⟨a, c, by rw [h, hL]⟩
  rw [hL] at hLb
  have HL := Lib.hid hL
  obtain ⟨p0, c0, rfl⟩ := hu0
  simp only [Nat.add_zero] at d0'
  have D0 := Lib.hid d0'
  have HCELL := Lib.hid hcell
  clear hcell hc f0 hL d0'
  have hbad : ∀ k, k < xss.length → (waveB (xss.getD k []) && decide ((xss.getD k []).length = L)) = false → R = ([], 1) := by
    intro k hk hb
    rw [HR.out]
    have hb2 := hb
    rw [← HL.out] at hb2
    exact mixF_bad (by rw [tabOk_false hk hb2]; simp)
  have HBAD := Lib.hid hbad
  have hbad2 : ∀ k, k < xss.length → inB (gs.getD k 0) (-2147483648) 2147483647 = false → R = ([], 1) := by
    intro k hk hb
    rw [HR.out]
    exact mixF_bad (by rw [samB_false (by omega) hb]; simp)
  have HBAD2 := Lib.hid hbad2
  have hgood : tabOk L (xss.take xss.length) = true → samB (gs.take xss.length) = true → R = (mixS xss gs L xss.length, 0) := by
    intro ht hs
    rw [HR.out]; unfold MixF
    rw [List.take_length] at ht
    rw [← h1, List.take_length] at hs
    rw [HL.out, ht, hs, if_pos (by simp [h1]; omega)]
  have HGOOD := Lib.hid hgood
  clear hbad hbad2 hgood
  have j0 : ¬ (xss.length : Int) = 0 := by omega
  have j1 : (gs.length : Int) = (xss.length : Int) := by omega
  go_enter Try.func57, Try.ntmps57
  go_wp2
  clear j1
  go_loopw [6] (fun i wr => ∃ k : Nat, k ≤ xss.length ∧ i = .int .i64 k ∧ Hid (tabOk L (xss.take k) = true) ∧ Hid (samB (gs.take k) = true) ∧ Below w.heap.size w wr) (fun i _ => xss.length - (intOf i).toNat)
  case atStart => exact ⟨0, Nat.zero_le _, rfl, rfl, rfl, Below.refl _ _⟩
  case round =>
    obtain ⟨k, hk, rfl, ht, hs, hbel⟩ := hrel
    have d0 := (hbel.cell (p := ⟨b, o, none⟩) (World.block_lt_of_cell? w _ D0.out)).trans D0.out
    by_cases hlt : k < xss.length
    · obtain ⟨u, d1', f1⟩ := HCELL.out k hlt
      have d1 := (hbel.cell (p := ⟨b, o + k, none⟩) (World.block_lt_of_cell? w _ d1')).trans d1'
      obtain ⟨gb, go, rfl, gcell⟩ := HGC.out (by have := HGL.out; omega)
      have g1' := gcell k (by have := HGL.out; omega)
      have g1 := (hbel.cell (p := ⟨gb, go + k, none⟩) (World.block_lt_of_cell? w _ g1')).trans g1'
      have CW : Hid (∀ q, Calls Try.prog 66 #[u] (wr.drewN q) fun e w' => e = .returned (.bool (waveB (xss.getD k []))) ∧ wr.drewN q = w') := fun q => l13Ok_any u _ _ (f1.below (below_drewN hbel _))
      have htk := tabOk_take (L := L) hlt
      have hsk := samB_take (xs := gs) (k := k) (by have := HGL.out; omega)
      have hu1 : ∃ a c, u = .slice a (xss.getD k []).length c := by obtain ⟨_, a, c, h, _⟩ := f1; exact ⟨a, c, h⟩
      obtain ⟨p1, c1, rfl⟩ := hu1
      have HB := Lib.hid (HBAD.out k hlt)
      have HB2 := Lib.hid (HBAD2.out k hlt)
      have HTK := Lib.hid htk
      have HSK := Lib.hid hsk
      clear gcell g1' d1' f1 htk hsk
      obtain ⟨lx, hlx⟩ : ∃ lx, (xss.getD k []).length = lx := ⟨_, rfl⟩
      rw [hlx] at HB HTK d1 CW
      clear hlx
      generalize gs.getD k 0 = g at *
      have j2 : (gs.length : Int) = (xss.length : Int) := by have := HGL.out; omega
      have j3 : (k : Int) < (xss.length : Int) := by omega
      have j4 : (k : Int) < (gs.length : Int) := by omega
      have j6 : (0 : Int) < (xss.length : Int) := by omega
      have j5 : k < gs.length := by omega
      clear j2
      have CS : Hid (∀ q, Calls Try.prog 67 #[.int .i64 g] (wr.drewN q) fun e w' => e = .returned (.bool (inB g (-2147483648) 2147483647)) ∧ wr.drewN q = w') := fun q => l01Sample_any g _
      cases hw : waveB (xss.getD k [])
      · have e : R = ([], 1) := HB.out (by rw [hw]; rfl)
        subst e
        rw [hw] at CW
        clear hw HR HBAD HBAD2 HGOOD HB HB2 HTK HSK CS
        go_wp2
        go_quiet ((go_at_call 66; exact quietS (CW.out _)))
        go_wp2
        go_ret2
        exact ⟨_, rfl, Own.nil _ _, below_drewN hbel _⟩
      rw [hw] at CW
      by_cases hlL : lx = L
      case neg =>
        have e : R = ([], 1) := HB.out (by simp [hlL])
        subst e
        have j7 : ((lx : Int) != (L : Int)) = true := by simp; omega
        clear hw HR HBAD HBAD2 HGOOD HB HB2 HTK HSK CS
        go_wp2
        go_quiet ((go_at_call 66; exact quietS (CW.out _)))
        go_wp2
        go_ret2
        exact ⟨_, rfl, Own.nil _ _, below_drewN hbel _⟩
      subst hlL
      cases hg : inB g (-2147483648) 2147483647
      · have e : R = ([], 1) := HB2.out hg
        subst e
        rw [hg] at CS
        clear hw hg HR HBAD HBAD2 HGOOD HB HB2 HTK HSK
        go_wp2
        go_quiet (first | (go_at_call 66; exact quietS (CW.out _)) | (go_at_call 67; exact quietS (CS.out _)))
        go_wp2
        go_ret2
        exact ⟨_, rfl, Own.nil _ _, below_drewN hbel _⟩
      rw [hg] at CS
      have HNEXT : Hid (tabOk lx (xss.take (k + 1)) = true) := by unfold Hid; rw [HTK.out, ht.out, hw]; simp
      have HNEXT2 : Hid (samB (gs.take (k + 1)) = true) := by unfold Hid; rw [HSK.out, hs.out, hg]; rfl
      clear hw hg HB HB2 HTK HSK HBAD HBAD2 HGOOD
      go_wp2
      go_quiet (first | (go_at_call 66; exact quietS (CW.out _)) | (go_at_call 67; exact quietS (CS.out _)))
      go_wp2
      go_roundw
      case rel => exact ⟨k + 1, by omega, by go_num, HNEXT.out, HNEXT2.out, below_drewN hbel _⟩
      case measure => simp [intOf]; omega
    · have e : k = xss.length := by omega
      subst e
      have e2 : R = (mixS xss gs L xss.length, 0) := HGOOD.out ht.out hs.out
      subst e2
      have HT := Lib.hid ht.out
      have CZ := Lib.hid (l03Zeros_any L wr hLb)
      clear HR HBAD HBAD2 HGOOD hs
      go_wp2_with (go_at_call 121; refine CZ.out.mono ?_; rintro e w1 ⟨v1, rfl, o1, b1⟩)
      have hb1 := hbel.trans (b1.mono hbel.size)
      have o1' := o1.mono hbel.size
      clear o1 b1 hbel d0 hk hlt
      go_loopw [7, 8] (fun out i wr => ∃ k : Nat, k ≤ xss.length ∧ i = .int .i64 k ∧ Own wr w.heap.size out (mixS xss gs L k) ∧ Below w.heap.size w wr) (fun _ i _ => xss.length - (intOf i).toNat)
      case atStart => exact ⟨0, Nat.zero_le _, rfl, o1', hb1⟩
      case round =>
        obtain ⟨k, hk, rfl, hown, hbel⟩ := hrel
        by_cases hlt : k < xss.length
        · obtain ⟨u, d1', f1⟩ := HCELL.out k hlt
          have d1 := (hbel.cell (p := ⟨b, o + k, none⟩) (World.block_lt_of_cell? w _ d1')).trans d1'
          obtain ⟨gb, go, rfl, gcell⟩ := HGC.out (by have := HGL.out; omega)
          have g1' := gcell k (by have := HGL.out; omega)
          have g1 := (hbel.cell (p := ⟨gb, go + k, none⟩) (World.block_lt_of_cell? w _ g1')).trans g1'
          have hml : (mixS xss gs L k).length = L := mixS_len fun j hj => tabOk_at (k := xss.length) HT.out (by omega) (Nat.le_refl _)
          have hS : mixS xss gs L (k + 1) = addT (mixS xss gs L k) (xss.getD k []) (gs.getD k 0) := rfl
          have hu1 : ∃ a c, u = .slice a (xss.getD k []).length c := by obtain ⟨_, a, c, h, _⟩ := f1; exact ⟨a, c, h⟩
          obtain ⟨po, co, rfl, _, _⟩ := hown.shape1
          rw [hml] at hown ⊢
          have l0 : Below wr.heap.size wr wr.drew := (Below.refl _ _).drew
          have CAD := Lib.hid (l03Add_any _ u (mixS xss gs L k) (xss.getD k []) (gs.getD k 0) wr.drew (hown.ints.below l0) ((f1.below hbel).below l0) (by rw [hml]; exact hLb) (HBE.out k))
          obtain ⟨p1, c1, rfl⟩ := hu1
          have HS := Lib.hid hS
          have HO := Lib.hid hown
          obtain ⟨lx, hlx⟩ : ∃ lx, (xss.getD k []).length = lx := ⟨_, rfl⟩
          rw [hlx] at d1 CAD
          clear gcell g1' d1' f1 hS hml hown hlx l0
          have j3 : (k : Int) < (xss.length : Int) := by omega
          have j4 : (k : Int) < (gs.length : Int) := by have := HGL.out; omega
          have j5 : k < gs.length := by omega
          generalize gs.getD k 0 = g at *
          go_wp2
          go_region_held3 (fun w' => w'.cell? ⟨b, o + k, none⟩ = some (.slice p1 lx c1) ∧ w'.cell? ⟨gb, go + k, none⟩ = some (.int .i64 g)) (first | exact ⟨d1, g1⟩ | exact ⟨e1, e2⟩) (first | (go_at_call 122; refine CAD.out.mono ?_; rintro e w2 ⟨v2, rfl, o2, b2⟩; have e1 := (b2.cell (p := ⟨b, o + k, none⟩) (World.block_lt_of_cell? wr _ d1)).trans d1; have e2 := (b2.cell (p := ⟨gb, go + k, none⟩) (World.block_lt_of_cell? wr _ g1)).trans g1))
          have hbel2 := (hbel.drew).trans (b2.mono hbel.size)
          have o3 := o2.mono hbel.size
          clear o2 b2 hbel d1 g1 e1 e2
          go_wp2
          go_roundw
          case rel => exact ⟨k + 1, by omega, by go_num, by rw [HS.out]; exact o3, hbel2⟩
          case measure => simp [intOf]; omega
        · have e : k = xss.length := by omega
          subst e
          go_wp2
          go_ret2
          exact ⟨_, rfl, hown, hbel⟩

end Go.Proofs.Ytfpbnhghceoleaa
