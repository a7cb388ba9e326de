/-
  Contracts: eqEnvelope, valid envelopes on both sides.
-/
import Derived.Test.YtoclpcdmpeimkaaSeg
import Derived.Test.YtoclpcdmpeimkaaLine
namespace Go.Proofs.Ytoclpcdmpeimkaa
open Go.RowKit

theorem eqEnvelope_same (s : Int) (v1 v2 : Value) (r : Int) (ps : List (Int × Int)) (w : World) (h1 : Pairs w v1 ps) (h2 : Pairs w v2 ps) :
    Calls Try.prog 16 #[envV s v1 r, envV s v2 r] w fun e w' => e = .returned (.bool true) ∧ Below w.heap.size w w' := by
  go_enter Try.func16, Try.ntmps16
  go_wp2_with fail
  have b0 : Below w.heap.size w ((w.alloc (.cells #[.int .i64 s, v1, .int .i64 r] 36)).alloc (.cells #[.int .i64 s, v2, .int .i64 r] 36)) := by
    repeat (first | exact Below.refl _ _ | refine Below.alloc ?_ (by simp <;> omega) _)
  refine (eqSegmentS_same v1 v2 ps _ (h1.below b0) (h2.below b0)).mono ?_
  rintro e w1 ⟨rfl, b1⟩
  have kcw1wheapsize_0 : w1.cell? ⟨w.heap.size, 0, none⟩ = some (.int .i64 s) := (b1.cell (p := ⟨w.heap.size, 0, none⟩) (by simp <;> omega)).trans (by simp [go_sem])
  have kfw1wheapsize_0 : w1.frozen? ⟨w.heap.size, 0, none⟩ = false := (b1.frozen (p := ⟨w.heap.size, 0, none⟩) (by simp <;> omega)).trans (by simp [go_sem])
  have kcw1wheapsize_1 : w1.cell? ⟨w.heap.size, 1, none⟩ = some (v1) := (b1.cell (p := ⟨w.heap.size, 1, none⟩) (by simp <;> omega)).trans (by simp [go_sem])
  have kfw1wheapsize_1 : w1.frozen? ⟨w.heap.size, 1, none⟩ = false := (b1.frozen (p := ⟨w.heap.size, 1, none⟩) (by simp <;> omega)).trans (by simp [go_sem])
  have kcw1wheapsize_2 : w1.cell? ⟨w.heap.size, 2, none⟩ = some (.int .i64 r) := (b1.cell (p := ⟨w.heap.size, 2, none⟩) (by simp <;> omega)).trans (by simp [go_sem])
  have kfw1wheapsize_2 : w1.frozen? ⟨w.heap.size, 2, none⟩ = false := (b1.frozen (p := ⟨w.heap.size, 2, none⟩) (by simp <;> omega)).trans (by simp [go_sem])
  have kcw1wheapsize1_0 : w1.cell? ⟨w.heap.size + 1, 0, none⟩ = some (.int .i64 s) := (b1.cell (p := ⟨w.heap.size + 1, 0, none⟩) (by simp <;> omega)).trans (by simp [go_sem])
  have kfw1wheapsize1_0 : w1.frozen? ⟨w.heap.size + 1, 0, none⟩ = false := (b1.frozen (p := ⟨w.heap.size + 1, 0, none⟩) (by simp <;> omega)).trans (by simp [go_sem])
  have kcw1wheapsize1_1 : w1.cell? ⟨w.heap.size + 1, 1, none⟩ = some (v2) := (b1.cell (p := ⟨w.heap.size + 1, 1, none⟩) (by simp <;> omega)).trans (by simp [go_sem])
  have kfw1wheapsize1_1 : w1.frozen? ⟨w.heap.size + 1, 1, none⟩ = false := (b1.frozen (p := ⟨w.heap.size + 1, 1, none⟩) (by simp <;> omega)).trans (by simp [go_sem])
  have kcw1wheapsize1_2 : w1.cell? ⟨w.heap.size + 1, 2, none⟩ = some (.int .i64 r) := (b1.cell (p := ⟨w.heap.size + 1, 2, none⟩) (by simp <;> omega)).trans (by simp [go_sem])
  have kfw1wheapsize1_2 : w1.frozen? ⟨w.heap.size + 1, 2, none⟩ = false := (b1.frozen (p := ⟨w.heap.size + 1, 2, none⟩) (by simp <;> omega)).trans (by simp [go_sem])
  have hbel := b0.trans (b1.mono b0.size)
  clear b0 b1
  go_wp2
  go_ret
  exact ⟨rfl, hbel⟩

def segB (p : Int × Int) : Bool := inB p.1 0 4000 && inB p.2 0 65536
/-- A valid envelope. -/
def envB (s : Int) (ps : List (Int × Int)) (r : Int) : Bool := ps.all segB && (inB s 0 65536 && (inB r 0 4000 && decide (ps.length ≤ 8)))
theorem all_take {ps : List (Int × Int)} {k : Nat} (hk : k < ps.length) : (ps.take (k + 1)).all segB = ((ps.take k).all segB && segB (ps.getD k (0, 0))) := by
  have e : ps.getD k (0, 0) = ps[k] := by simp [List.getD, hk]
  rw [e]
  simp only [List.take_succ_eq_append_getElem hk, List.all_append, List.all_cons, List.all_nil, Bool.and_true]
theorem all_false {ps : List (Int × Int)} {k : Nat} (hk : k < ps.length) (h : segB (ps.getD k (0, 0)) = false) : ps.all segB = false := by
  have e : ps.getD k (0, 0) = ps[k] := by simp [List.getD, hk]
  rw [e] at h
  rw [← Bool.not_eq_true]
  intro hs
  have := List.all_eq_true.1 hs _ (List.getElem_mem hk)
  simp [h] at this

theorem isEnvelope_any (s : Int) (v : Value) (r : Int) (ps : List (Int × Int)) (w : World) (h : Pairs w v ps) :
    Calls Try.prog 45 #[envV s v r] w fun e w' => e = .returned (.bool (envB s ps r)) ∧ Below w.heap.size w w' := by
  have b0 : Below w.heap.size w (w.alloc (.cells #[.int .i64 s, v, .int .i64 r] 36)) := (Below.refl _ _).alloc (Nat.le_refl _) _
  have h0 := h.below b0
  obtain ⟨hl, a, cap, rfl, hc⟩ := h0
  obtain ⟨E, hE⟩ : ∃ E, E = envB s ps r := ⟨_, rfl⟩
  rw [← hE]
  have HE := Lib.hid hE; clear hE h
  go_enter Try.func45, Try.ntmps45
  go_wp2
  go_loopw [8] (fun i wr => ∃ k : Nat, k ≤ ps.length ∧ i = .int .i64 k ∧ Hid ((ps.take k).all segB = true) ∧ Below (w.heap.size + 1) (w.alloc (.cells #[.int .i64 s, .slice a ps.length cap, .int .i64 r] 36)) wr) (fun i _ => ps.length - (intOf i).toNat)
  case atStart => exact ⟨0, Nat.zero_le _, rfl, rfl, Below.refl _ _⟩
  case round =>
    obtain ⟨k, hk, rfl, hs, hbel⟩ := hrel
    have hz : w.heap.size + 1 ≤ wr.heap.size := by have := hbel.size; simpa using this
    by_cases hlt : k < ps.length
    · obtain ⟨b, o, rfl, hcell⟩ := hc (by omega)
      obtain ⟨d1, d2⟩ := hcell k hlt
      have hbb := World.block_lt_of_cell? _ _ d1
      have c1 := (hbel.cell (p := ⟨b, o + k * 2, none⟩) (by simpa using hbb)).trans d1
      have c2 := (hbel.cell (p := ⟨b, o + k * 2 + 1, none⟩) (by simpa using hbb)).trans d2
      have hst := all_take hlt
      have hsf := all_false hlt
      clear hcell hc d1 d2 hbb
      generalize ps.getD k (0, 0) = x at *
      obtain ⟨x1, x2⟩ := x
      simp only [segB] at c1 c2 hst hsf
      have HT := Lib.hid hst; clear hst
      have HF := Lib.hid hsf; clear hsf
      have hbel2 := hbel.alloc hz (.cells #[.int .i64 x1, .int .i64 x2] 75)
      cases k2 : inB x2 0 65536
      · go_wp2_with (first | (go_at_call 76; refine (isLevel_any _ _).mono ?_; rintro e w' ⟨rfl, rfl⟩) | (go_at_call 56; refine (isCount_any _ _).mono ?_; rintro e w' ⟨rfl, rfl⟩))
        go_ret
        exact ⟨ret_bool (by rw [HE.out, envB, HF.out (by simp [k2])]; rfl), b0.trans (hbel2.mono (by simp))⟩
      cases k1 : inB x1 0 4000
      · go_wp2_with (first | (go_at_call 76; refine (isLevel_any _ _).mono ?_; rintro e w' ⟨rfl, rfl⟩) | (go_at_call 56; refine (isCount_any _ _).mono ?_; rintro e w' ⟨rfl, rfl⟩))
        go_ret
        exact ⟨ret_bool (by rw [HE.out, envB, HF.out (by simp [k1])]; rfl), b0.trans (hbel2.mono (by simp))⟩
      go_wp2_with (first | (go_at_call 76; refine (isLevel_any _ _).mono ?_; rintro e w' ⟨rfl, rfl⟩) | (go_at_call 56; refine (isCount_any _ _).mono ?_; rintro e w' ⟨rfl, rfl⟩))
      go_roundw
      case rel => exact ⟨k + 1, by omega, by go_num, by unfold Hid; rw [HT.out, hs.out, k1, k2]; rfl, hbel2⟩
      case measure => simp [intOf]; omega
    · have e : k = ps.length := by omega
      have hall : ps.all segB = true := by have := hs.out; rwa [List.take_of_length_le (by omega)] at this
      have HA := Lib.hid hall
      have q0 := (hbel.cell (p := ⟨w.heap.size, 0, none⟩) (by simp)).trans (by simp [go_sem] : _ = some (Value.int .i64 s))
      have q1 := (hbel.cell (p := ⟨w.heap.size, 1, none⟩) (by simp)).trans (by simp [go_sem] : _ = some (Value.slice a ps.length cap))
      have q2 := (hbel.cell (p := ⟨w.heap.size, 2, none⟩) (by simp)).trans (by simp [go_sem] : _ = some (Value.int .i64 r))
      clear hc hall e hs
      cases k1 : inB s 0 65536
      · go_wp2_with (first | (go_at_call 76; refine (isLevel_any _ _).mono ?_; rintro e w' ⟨rfl, rfl⟩) | (go_at_call 56; refine (isCount_any _ _).mono ?_; rintro e w' ⟨rfl, rfl⟩))
        go_ret
        exact ⟨ret_bool (by rw [HE.out, envB, HA.out, k1]; rfl), b0.trans (hbel.mono (by simp))⟩
      cases k2 : inB r 0 4000
      · go_wp2_with (first | (go_at_call 76; refine (isLevel_any _ _).mono ?_; rintro e w' ⟨rfl, rfl⟩) | (go_at_call 56; refine (isCount_any _ _).mono ?_; rintro e w' ⟨rfl, rfl⟩))
        go_ret
        exact ⟨ret_bool (by rw [HE.out, envB, HA.out, k1, k2]; rfl), b0.trans (hbel.mono (by simp))⟩
      by_cases h8 : ps.length ≤ 8
      · have h8' : (ps.length : Int) ≤ 8 := by omega
        have D8 := Lib.hid (decide_eq_true h8)
        go_wp2_with (first | (go_at_call 76; refine (isLevel_any _ _).mono ?_; rintro e w' ⟨rfl, rfl⟩) | (go_at_call 56; refine (isCount_any _ _).mono ?_; rintro e w' ⟨rfl, rfl⟩))
        go_ret
        exact ⟨ret_bool (by rw [HE.out, envB, HA.out, k1, k2]; simp; omega), b0.trans (hbel.mono (by simp))⟩
      · have h8' : (8 : Int) < (ps.length : Int) := by omega
        go_wp2_with (first | (go_at_call 76; refine (isLevel_any _ _).mono ?_; rintro e w' ⟨rfl, rfl⟩) | (go_at_call 56; refine (isCount_any _ _).mono ?_; rintro e w' ⟨rfl, rfl⟩))
        go_ret
        exact ⟨ret_bool (by rw [HE.out, envB, HA.out, k1, k2]; simp; omega), b0.trans (hbel.mono (by simp))⟩

theorem l14Ok_any (s : Int) (v : Value) (r : Int) (ps : List (Int × Int)) (p : Nat) (w : World) (h : Pairs w v ps) (p0 : w.cell? ⟨p, 0, none⟩ = some (.int .i64 s)) (p1 : w.cell? ⟨p, 1, none⟩ = some v) (p2 : w.cell? ⟨p, 2, none⟩ = some (.int .i64 r)) :
    Calls Try.prog 42 #[.pointer (some ⟨p, 0, none⟩)] w fun e w' => e = .returned (.bool (envB s ps r)) ∧ w = w' := by
  obtain ⟨hl, a, cap, rfl, hc⟩ := h
  obtain ⟨E, hE⟩ : ∃ E, E = envB s ps r := ⟨_, rfl⟩
  rw [← hE]
  have HE := Lib.hid hE; clear hE
  go_enter Try.func42, Try.ntmps42
  go_wp2
  go_loop [3] (fun i => ∃ k : Nat, k ≤ ps.length ∧ i = .int .i64 k ∧ Hid ((ps.take k).all segB = true)) (fun i => ps.length - (intOf i).toNat)
  case atStart => exact ⟨0, Nat.zero_le _, rfl, rfl⟩
  case round =>
    obtain ⟨k, hk, rfl, hs⟩ := hrel
    by_cases hlt : k < ps.length
    · obtain ⟨b, o, rfl, hcell⟩ := hc (by omega)
      obtain ⟨c1, c2⟩ := hcell k hlt
      have hst := all_take hlt
      have hsf := all_false hlt
      clear hcell hc
      generalize ps.getD k (0, 0) = x at *
      obtain ⟨x1, x2⟩ := x
      simp only [segB] at c1 c2 hst hsf
      have HT := Lib.hid hst; clear hst
      have HF := Lib.hid hsf; clear hsf
      cases k1 : inB x1 0 4000
      · go_wp2_with (first | (go_at_call 74; refine (l14Level_any _ _).mono ?_; rintro e w' ⟨rfl, rfl⟩) | (go_at_call 53; refine (l14Length_any _ _).mono ?_; rintro e w' ⟨rfl, rfl⟩))
        go_ret
        exact ⟨ret_bool (by rw [HE.out, envB, HF.out (by simp [k1])]; rfl), rfl⟩
      cases k2 : inB x2 0 65536
      · go_wp2_with (first | (go_at_call 74; refine (l14Level_any _ _).mono ?_; rintro e w' ⟨rfl, rfl⟩) | (go_at_call 53; refine (l14Length_any _ _).mono ?_; rintro e w' ⟨rfl, rfl⟩))
        go_ret
        exact ⟨ret_bool (by rw [HE.out, envB, HF.out (by simp [k2])]; rfl), rfl⟩
      go_wp2_with (first | (go_at_call 74; refine (l14Level_any _ _).mono ?_; rintro e w' ⟨rfl, rfl⟩) | (go_at_call 53; refine (l14Length_any _ _).mono ?_; rintro e w' ⟨rfl, rfl⟩))
      go_round
      case rel => exact ⟨k + 1, by omega, by go_num, by unfold Hid; rw [HT.out, hs.out, k1, k2]; rfl⟩
      case measure => simp [intOf]; omega
    · have hall : ps.all segB = true := by have := hs.out; rwa [List.take_of_length_le (by omega)] at this
      have HA := Lib.hid hall
      clear hc hall hs
      cases k1 : inB s 0 65536
      · go_wp2_with (first | (go_at_call 74; refine (l14Level_any _ _).mono ?_; rintro e w' ⟨rfl, rfl⟩) | (go_at_call 53; refine (l14Length_any _ _).mono ?_; rintro e w' ⟨rfl, rfl⟩))
        go_ret
        exact ⟨ret_bool (by rw [HE.out, envB, HA.out, k1]; rfl), rfl⟩
      cases k2 : inB r 0 4000
      · go_wp2_with (first | (go_at_call 74; refine (l14Level_any _ _).mono ?_; rintro e w' ⟨rfl, rfl⟩) | (go_at_call 53; refine (l14Length_any _ _).mono ?_; rintro e w' ⟨rfl, rfl⟩))
        go_ret
        exact ⟨ret_bool (by rw [HE.out, envB, HA.out, k1, k2]; rfl), rfl⟩
      by_cases h8 : ps.length ≤ 8
      · have h8' : (ps.length : Int) ≤ 8 := by omega
        have D8 := Lib.hid (decide_eq_true h8)
        go_wp2_with (first | (go_at_call 74; refine (l14Level_any _ _).mono ?_; rintro e w' ⟨rfl, rfl⟩) | (go_at_call 53; refine (l14Length_any _ _).mono ?_; rintro e w' ⟨rfl, rfl⟩))
        go_ret
        exact ⟨ret_bool (by rw [HE.out, envB, HA.out, k1, k2]; simp; omega), rfl⟩
      · have h8' : (8 : Int) < (ps.length : Int) := by omega
        go_wp2_with (first | (go_at_call 74; refine (l14Level_any _ _).mono ?_; rintro e w' ⟨rfl, rfl⟩) | (go_at_call 53; refine (l14Length_any _ _).mono ?_; rintro e w' ⟨rfl, rfl⟩))
        go_ret
        exact ⟨ret_bool (by rw [HE.out, envB, HA.out, k1, k2]; simp; omega), rfl⟩

end Go.Proofs.Ytoclpcdmpeimkaa
