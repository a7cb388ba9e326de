/-
  Contracts: the level of an envelope while its gate is open, and behind it, on both sides.
-/
import Derived.Test.YtoclpcdmpeimkaaEnv
namespace Go.Proofs.Ytoclpcdmpeimkaa
open Go.RowKit

/-- The level while the gate is open. -/
def heldF : Int → List (Int × Int) → Int → Int
  | lv, [], _ => lv
  | lv, p :: ps, a => if a < p.1 then lineF lv p.2 p.1 a else heldF p.2 ps (a - p.1)
/-- The level for a gate. -/
def levelF (s : Int) (ps : List (Int × Int)) (r gate a : Int) : Int := if a < gate then heldF s ps a else if r < a - gate then 0 else lineF (heldF s ps gate) 0 r (a - gate)

theorem lineF_bd {f t l a : Int} (hf : 0 ≤ f ∧ f ≤ 65536) (ht : 0 ≤ t ∧ t ≤ 65536) (ha : 0 ≤ a ∧ a ≤ l) : 0 ≤ lineF f t l a ∧ lineF f t l a ≤ 65536 := by
  unfold lineF
  split
  · exact ht
  · have hl : 0 < l := by omega
    have h1 : -f * l ≤ (t - f) * a := by
      have := Int.mul_le_mul_of_nonneg_right (show -f ≤ t - f by omega) ha.1
      have := Int.mul_le_mul_of_nonneg_left ha.2 hf.1
      have e1 : -f * a = -(f * a) := Int.neg_mul f a
      have e2 : -f * l = -(f * l) := Int.neg_mul f l
      omega
    have h2 : (t - f) * a ≤ (65536 - f) * l := by
      have := Int.mul_le_mul_of_nonneg_right (show t - f ≤ 65536 - f by omega) ha.1
      have := Int.mul_le_mul_of_nonneg_left ha.2 (show 0 ≤ 65536 - f by omega)
      omega
    have h3 : -f ≤ (t - f) * a / l := by rw [Int.le_ediv_iff_mul_le hl]; exact h1
    have h4 : (t - f) * a / l ≤ 65536 - f := by
      have := Int.ediv_le_ediv (c := l) hl h2
      rwa [Int.mul_ediv_cancel _ (by omega)] at this
    omega

theorem heldF_bd {ps : List (Int × Int)} (hp : ∀ p ∈ ps, (0 ≤ p.1 ∧ p.1 ≤ 4000) ∧ 0 ≤ p.2 ∧ p.2 ≤ 65536) {s a : Int} (hs : 0 ≤ s ∧ s ≤ 65536) (ha : 0 ≤ a) : 0 ≤ heldF s ps a ∧ heldF s ps a ≤ 65536 := by
  induction ps generalizing s a with
  | nil => exact hs
  | cons p ps ih =>
    obtain ⟨h1, h2⟩ := hp p (by simp)
    unfold heldF
    split
    · exact lineF_bd hs h2 ⟨ha, by omega⟩
    · exact ih (fun q hq => hp q (by simp [hq])) h2 (by omega)

theorem held_step {ps : List (Int × Int)} {k : Nat} (hk : k < ps.length) (lv a : Int) :
    heldF lv (ps.drop k) a = if a < (ps.getD k (0, 0)).1 then lineF lv (ps.getD k (0, 0)).2 (ps.getD k (0, 0)).1 a else heldF (ps.getD k (0, 0)).2 (ps.drop (k + 1)) (a - (ps.getD k (0, 0)).1) := by
  have e : ps.getD k (0, 0) = ps[k] := by simp [List.getD, hk]
  rw [e, List.drop_eq_getElem_cons hk]
  rfl

theorem inB_out {n l h : Int} (e : inB n l h = true) : l ≤ n ∧ n ≤ h := by simpa [inB] using e
theorem envB_out {s : Int} {ps : List (Int × Int)} {r : Int} (h : envB s ps r = true) :
    (∀ p ∈ ps, (0 ≤ p.1 ∧ p.1 ≤ 4000) ∧ 0 ≤ p.2 ∧ p.2 ≤ 65536) ∧ (0 ≤ s ∧ s ≤ 65536) ∧ (0 ≤ r ∧ r ≤ 4000) ∧ ps.length ≤ 8 := by
  simp only [envB, Bool.and_eq_true] at h
  obtain ⟨h1, h2, h3, h4⟩ := h
  refine ⟨fun p hp => ?_, inB_out h2, inB_out h3, by simpa using h4⟩
  have := List.all_eq_true.1 h1 p hp
  simp only [segB, Bool.and_eq_true] at this
  exact ⟨inB_out this.1, inB_out this.2⟩

theorem held_any (s : Int) (v : Value) (r : Int) (ps : List (Int × Int)) (a : Int) (w : World) (h : Pairs w v ps) (hv : envB s ps r = true) (ha : 0 ≤ a ∧ a ≤ 1000000000) :
    Calls Try.prog 88 #[envV s v r, .int .i64 a] w fun e w' => e = .returned (.int .i64 (heldF s ps a)) ∧ Below w.heap.size w w' := by
  have b0 : Below w.heap.size w (w.alloc (.cells #[.int .i64 s, v, .int .i64 r] 36)) := (Below.refl _ _).alloc (Nat.le_refl _) _
  have h0 := h.below b0
  obtain ⟨hp, hs, hr, h8⟩ := envB_out hv
  obtain ⟨hl, ad, cap, rfl, hc⟩ := h0
  obtain ⟨E, hE⟩ : ∃ E, E = heldF s ps a := ⟨_, rfl⟩
  rw [← hE]
  have HE := Lib.hid hE; have HP := Lib.hid hp; have HS := Lib.hid hs; clear hE h hp hs hr h8 hv
  go_enter Try.func88, Try.ntmps88
  go_wp2
  go_loopw [1, 5, 13] (fun av lv i wr => ∃ k : Nat, k ≤ ps.length ∧ i = .int .i64 k ∧ ∃ a' l' : Int, av = .int .i64 a' ∧ lv = .int .i64 l' ∧ (0 ≤ a' ∧ a' ≤ 1000000000) ∧ (0 ≤ l' ∧ l' ≤ 65536) ∧ Hid (E = heldF l' (ps.drop k) a') ∧ Below (w.heap.size + 1) (w.alloc (.cells #[.int .i64 s, .slice ad ps.length cap, .int .i64 r] 36)) wr) (fun _ _ i _ => ps.length - (intOf i).toNat)
  case atStart => exact ⟨0, Nat.zero_le _, rfl, _, _, rfl, rfl, ha, HS.out, HE.out, Below.refl _ _⟩
  case round =>
    obtain ⟨k, hk, rfl, a', l', rfl, rfl, hab, hlb, he, hbel⟩ := hrel
    have hz : w.heap.size + 1 ≤ wr.heap.size := by have := hbel.size; simpa using this
    by_cases hlt : k < ps.length
    · obtain ⟨b, o, rfl, hcell⟩ := hc (by omega)
      obtain ⟨d1, d2⟩ := hcell k hlt
      have hbb := World.block_lt_of_cell? _ _ d1
      have c1 := (hbel.cell (p := ⟨b, o + k * 2, none⟩) (by simpa using hbb)).trans d1
      have c2 := (hbel.cell (p := ⟨b, o + k * 2 + 1, none⟩) (by simpa using hbb)).trans d2
      have hst := he.out.trans (held_step hlt l' a')
      have hq : (0 ≤ (ps.getD k (0, 0)).1 ∧ (ps.getD k (0, 0)).1 ≤ 4000) ∧ 0 ≤ (ps.getD k (0, 0)).2 ∧ (ps.getD k (0, 0)).2 ≤ 65536 := by
        have e : ps.getD k (0, 0) = ps[k] := by simp [List.getD, hlt]
        rw [e]; exact HP.out _ (List.getElem_mem hlt)
      clear hcell hc d1 d2 hbb he
      generalize ps.getD k (0, 0) = x at *
      obtain ⟨x1, x2⟩ := x
      simp only at c1 c2 hst hq
      have hbel2 := hbel.alloc hz (.cells #[.int .i64 x1, .int .i64 x2] 75)
      obtain ⟨hq1, hq2⟩ := hq
      by_cases m : a' < x1
      · rw [if_pos m] at hst
        have HT := Lib.hid hst; clear hst
        go_wp2_with (go_at_call 89; refine (lineAt_any l' x2 x1 a' _ hlb hq2 hq1 (by omega)).mono ?_; rintro e w' ⟨rfl, rfl⟩)
        go_ret
        exact ⟨ret_int HT.out.symm, b0.trans (hbel2.mono (by simp))⟩
      · rw [if_neg m] at hst
        have HT := Lib.hid hst; clear hst
        have m' : x1 ≤ a' := by omega
        go_wp2
        go_roundw
        case rel => exact ⟨k + 1, by omega, by go_num, _, _, rfl, rfl, by omega, hq2, HT.out, hbel2⟩
        case measure => simp [intOf]; omega
    · have e : ps.drop k = [] := List.drop_eq_nil_of_le (by omega)
      have hst := he.out
      rw [e] at hst
      have HT := Lib.hid hst
      clear hc hst he e
      go_wp2
      go_ret
      exact ⟨ret_int HT.out.symm, b0.trans (hbel.mono (by simp))⟩

theorem l14Held_any (s : Int) (v : Value) (r : Int) (ps : List (Int × Int)) (p : Nat) (a : Int) (w : World) (h : Pairs w v ps) (p0 : w.cell? ⟨p, 0, none⟩ = some (.int .i64 s)) (p1 : w.cell? ⟨p, 1, none⟩ = some v) (hv : envB s ps r = true) (ha : 0 ≤ a ∧ a ≤ 1000000000) :
    Calls Try.prog 81 #[.pointer (some ⟨p, 0, none⟩), .int .i64 a] w fun e w' => e = .returned (.int .i64 (heldF s ps a)) ∧ Below w.heap.size w w' := by
  obtain ⟨hp, hs, hr, h8⟩ := envB_out hv
  obtain ⟨hl, ad, cap, rfl, hc⟩ := h
  obtain ⟨E, hE⟩ : ∃ E, E = heldF s ps a := ⟨_, rfl⟩
  rw [← hE]
  have HE := Lib.hid hE; have HP := Lib.hid hp; have HS := Lib.hid hs; have P1 := Lib.hid p1; clear hE hp hs hr h8 hv
  go_enter Try.func81, Try.ntmps81
  go_wp2
  clear p0 p1
  go_loopw [1, 5, 6] (fun av lv i wr => ∃ k : Nat, k ≤ ps.length ∧ i = .int .i64 k ∧ ∃ a' l' : Int, av = .int .i64 a' ∧ lv = .int .i64 l' ∧ (0 ≤ a' ∧ a' ≤ 1000000000) ∧ (0 ≤ l' ∧ l' ≤ 65536) ∧ Hid (E = heldF l' (ps.drop k) a') ∧ Below w.heap.size w wr) (fun _ _ i _ => ps.length - (intOf i).toNat)
  case atStart => exact ⟨0, Nat.zero_le _, rfl, _, _, rfl, rfl, ha, HS.out, HE.out, Below.refl _ _⟩
  case round =>
    obtain ⟨k, hk, rfl, a', l', rfl, rfl, hab, hlb, he, hbel⟩ := hrel
    have g1 := (hbel.cell (p := ⟨p, 1, none⟩) (World.block_lt_of_cell? _ _ P1.out)).trans P1.out
    by_cases hlt : k < ps.length
    · obtain ⟨b, o, rfl, hcell⟩ := hc (by omega)
      obtain ⟨d1, d2⟩ := hcell k hlt
      have hbb := World.block_lt_of_cell? _ _ d1
      have c1 := (hbel.cell (p := ⟨b, o + k * 2, none⟩) hbb).trans d1
      have c2 := (hbel.cell (p := ⟨b, o + k * 2 + 1, none⟩) hbb).trans d2
      have hst := he.out.trans (held_step hlt l' a')
      have hq : (0 ≤ (ps.getD k (0, 0)).1 ∧ (ps.getD k (0, 0)).1 ≤ 4000) ∧ 0 ≤ (ps.getD k (0, 0)).2 ∧ (ps.getD k (0, 0)).2 ≤ 65536 := by
        have e : ps.getD k (0, 0) = ps[k] := by simp [List.getD, hlt]
        rw [e]; exact HP.out _ (List.getElem_mem hlt)
      clear hcell hc d1 d2 hbb he
      generalize ps.getD k (0, 0) = x at *
      obtain ⟨x1, x2⟩ := x
      simp only at c1 c2 hst hq
      have hbel2 := hbel.alloc hbel.size (.cells #[.int .i64 x1, .int .i64 x2] 75)
      obtain ⟨hq1, hq2⟩ := hq
      by_cases m : a' < x1
      · rw [if_pos m] at hst
        have HT := Lib.hid hst; clear hst
        go_wp2_with (go_at_call 82; refine (l14Line_any l' x2 x1 a' _ hlb hq2 hq1 (by omega)).mono ?_; rintro e w' ⟨rfl, rfl⟩)
        go_ret
        exact ⟨ret_int HT.out.symm, hbel2⟩
      · rw [if_neg m] at hst
        have HT := Lib.hid hst; clear hst
        have m' : x1 ≤ a' := by omega
        go_wp2
        go_roundw
        case rel => exact ⟨k + 1, by omega, by go_num, _, _, rfl, rfl, by omega, hq2, HT.out, hbel2⟩
        case measure => simp [intOf]; omega
    · have e : ps.drop k = [] := List.drop_eq_nil_of_le (by omega)
      have hst := he.out
      rw [e] at hst
      have HT := Lib.hid hst
      clear hc hst he e
      go_wp2
      go_ret
      exact ⟨ret_int HT.out.symm, hbel⟩

end Go.Proofs.Ytoclpcdmpeimkaa
