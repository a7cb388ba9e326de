/-
  SameTuning of both sides.
-/
import Derived.Test.YtbahhkpfbmlcjaaTun
import Derived.Test.YtbahhkpfbmlcjaaSame
namespace Go.Proofs.Ytbahhkpfbmlcjaa
open Go.RowKit

def sameTunB (b1 d1 o1 e1 : Int) (ps1 : List (Int × Int)) (b2 d2 o2 e2 : Int) (ps2 : List (Int × Int)) : Bool := decide (b1 = b2 ∧ d1 = d2 ∧ o1 = o2 ∧ e1 = e2 ∧ ps1 = ps2)

theorem eqTuning_same (bn bd on od : Int) (v1 v2 : Value) (ps : List (Int × Int)) (w : World) (h1 : Pairs w v1 ps) (h2 : Pairs w v2 ps) :
    Calls Try.prog 41 #[tunV bn bd on od v1, tunV bn bd on od v2] w fun e w' => e = .returned (.bool true) ∧ Below w.heap.size w w' := by
  have b0 : Below w.heap.size w ((w.alloc (.cells #[.int .i64 bn, .int .i64 bd, .int .i64 on, .int .i64 od, v1] 65)).alloc (.cells #[.int .i64 bn, .int .i64 bd, .int .i64 on, .int .i64 od, v2] 65)) := by
    repeat (first | exact Below.refl _ _ | refine Below.alloc ?_ (by simp <;> omega) _)
  go_enter Try.func41, Try.ntmps41
  go_wp2_with fail
  refine (eqFrac_same bn bd _).mono ?_
  rintro e w1 ⟨rfl, b1⟩
  have kcw1wheapsize_0 : w1.cell? ⟨w.heap.size, 0, none⟩ = some (.int .i64 bn) := (b1.cell (p := ⟨w.heap.size, 0, none⟩) (by simp <;> omega)).trans (by simp [go_sem])
  have kfw1wheapsize_0 : w1.frozen? ⟨w.heap.size, 0, none⟩ = false := (b1.frozen (p := ⟨w.heap.size, 0, none⟩) (by simp <;> omega)).trans (by simp [go_sem])
  have kcw1wheapsize_1 : w1.cell? ⟨w.heap.size, 1, none⟩ = some (.int .i64 bd) := (b1.cell (p := ⟨w.heap.size, 1, none⟩) (by simp <;> omega)).trans (by simp [go_sem])
  have kfw1wheapsize_1 : w1.frozen? ⟨w.heap.size, 1, none⟩ = false := (b1.frozen (p := ⟨w.heap.size, 1, none⟩) (by simp <;> omega)).trans (by simp [go_sem])
  have kcw1wheapsize_2 : w1.cell? ⟨w.heap.size, 2, none⟩ = some (.int .i64 on) := (b1.cell (p := ⟨w.heap.size, 2, none⟩) (by simp <;> omega)).trans (by simp [go_sem])
  have kfw1wheapsize_2 : w1.frozen? ⟨w.heap.size, 2, none⟩ = false := (b1.frozen (p := ⟨w.heap.size, 2, none⟩) (by simp <;> omega)).trans (by simp [go_sem])
  have kcw1wheapsize_3 : w1.cell? ⟨w.heap.size, 3, none⟩ = some (.int .i64 od) := (b1.cell (p := ⟨w.heap.size, 3, none⟩) (by simp <;> omega)).trans (by simp [go_sem])
  have kfw1wheapsize_3 : w1.frozen? ⟨w.heap.size, 3, none⟩ = false := (b1.frozen (p := ⟨w.heap.size, 3, none⟩) (by simp <;> omega)).trans (by simp [go_sem])
  have kcw1wheapsize_4 : w1.cell? ⟨w.heap.size, 4, none⟩ = some (v1) := (b1.cell (p := ⟨w.heap.size, 4, none⟩) (by simp <;> omega)).trans (by simp [go_sem])
  have kfw1wheapsize_4 : w1.frozen? ⟨w.heap.size, 4, none⟩ = false := (b1.frozen (p := ⟨w.heap.size, 4, none⟩) (by simp <;> omega)).trans (by simp [go_sem])
  have kcw1wheapsize1_0 : w1.cell? ⟨w.heap.size + 1, 0, none⟩ = some (.int .i64 bn) := (b1.cell (p := ⟨w.heap.size + 1, 0, none⟩) (by simp <;> omega)).trans (by simp [go_sem])
  have kfw1wheapsize1_0 : w1.frozen? ⟨w.heap.size + 1, 0, none⟩ = false := (b1.frozen (p := ⟨w.heap.size + 1, 0, none⟩) (by simp <;> omega)).trans (by simp [go_sem])
  have kcw1wheapsize1_1 : w1.cell? ⟨w.heap.size + 1, 1, none⟩ = some (.int .i64 bd) := (b1.cell (p := ⟨w.heap.size + 1, 1, none⟩) (by simp <;> omega)).trans (by simp [go_sem])
  have kfw1wheapsize1_1 : w1.frozen? ⟨w.heap.size + 1, 1, none⟩ = false := (b1.frozen (p := ⟨w.heap.size + 1, 1, none⟩) (by simp <;> omega)).trans (by simp [go_sem])
  have kcw1wheapsize1_2 : w1.cell? ⟨w.heap.size + 1, 2, none⟩ = some (.int .i64 on) := (b1.cell (p := ⟨w.heap.size + 1, 2, none⟩) (by simp <;> omega)).trans (by simp [go_sem])
  have kfw1wheapsize1_2 : w1.frozen? ⟨w.heap.size + 1, 2, none⟩ = false := (b1.frozen (p := ⟨w.heap.size + 1, 2, none⟩) (by simp <;> omega)).trans (by simp [go_sem])
  have kcw1wheapsize1_3 : w1.cell? ⟨w.heap.size + 1, 3, none⟩ = some (.int .i64 od) := (b1.cell (p := ⟨w.heap.size + 1, 3, none⟩) (by simp <;> omega)).trans (by simp [go_sem])
  have kfw1wheapsize1_3 : w1.frozen? ⟨w.heap.size + 1, 3, none⟩ = false := (b1.frozen (p := ⟨w.heap.size + 1, 3, none⟩) (by simp <;> omega)).trans (by simp [go_sem])
  have kcw1wheapsize1_4 : w1.cell? ⟨w.heap.size + 1, 4, none⟩ = some (v2) := (b1.cell (p := ⟨w.heap.size + 1, 4, none⟩) (by simp <;> omega)).trans (by simp [go_sem])
  have kfw1wheapsize1_4 : w1.frozen? ⟨w.heap.size + 1, 4, none⟩ = false := (b1.frozen (p := ⟨w.heap.size + 1, 4, none⟩) (by simp <;> omega)).trans (by simp [go_sem])
  have hz1 : w.heap.size + 1 < w1.heap.size := by have := b1.size; simp at this; omega
  have c1 := b0.trans (b1.mono b0.size)
  clear b1
  go_wp2_with fail
  refine (eqFrac_same on od _).mono ?_
  rintro e w2 ⟨rfl, b2⟩
  have k2 := (b2.cell (p := ⟨w.heap.size, 4, none⟩) (by simp; omega)).trans kcw1wheapsize_4
  have k3 := (b2.cell (p := ⟨w.heap.size + 1, 4, none⟩) (by simp; omega)).trans kcw1wheapsize1_4
  have c2 := c1.trans (b2.mono c1.size)
  clear b2
  go_wp2_with fail
  refine (eqFracS_same v1 v2 ps _ (h1.below c2) (h2.below c2)).mono ?_
  rintro e w3 ⟨rfl, b3⟩
  have c3 := c2.trans (b3.mono c2.size)
  clear b3
  go_wp2
  go_ret
  exact ⟨rfl, c3⟩

set_option maxHeartbeats 2000000 in
theorem specTun_any (b1 d1 o1 e1 : Int) (v1 : Value) (ps1 : List (Int × Int)) (b2 d2 o2 e2 : Int) (v2 : Value) (ps2 : List (Int × Int)) (w : World) (h1 : Pairs w v1 ps1) (h2 : Pairs w v2 ps2) :
    Calls Try.prog 38 #[tunV b1 d1 o1 e1 v1, tunV b2 d2 o2 e2 v2] w fun e w' => e = .returned (.bool (sameTunB b1 d1 o1 e1 ps1 b2 d2 o2 e2 ps2)) ∧ Below w.heap.size w w' := by
  have b0 : Below w.heap.size w ((w.alloc (.cells #[.int .i64 b1, .int .i64 d1, .int .i64 o1, .int .i64 e1, v1] 65)).alloc (.cells #[.int .i64 b2, .int .i64 d2, .int .i64 o2, .int .i64 e2, v2] 65)) := by
    repeat (first | exact Below.refl _ _ | refine Below.alloc ?_ (by simp <;> omega) _)
  obtain ⟨hl1, a1, cap1, rfl, hc1⟩ := h1
  obtain ⟨hl2, a2, cap2, rfl, hc2⟩ := h2
  obtain ⟨E, hE⟩ : ∃ E, E = sameTunB b1 d1 o1 e1 ps1 b2 d2 o2 e2 ps2 := ⟨_, rfl⟩
  rw [← hE]
  have HE := Lib.hid hE; clear hE
  have hq := eqFracRun
  by_cases k1 : b1 = b2
  case neg =>
    have n1 : (b1 == b2) = false := by simpa using k1
    have hE : Hid (E = false) := by rw [HE.out]; exact decide_eq_false (fun h => k1 h.1)
    clear hc1 hc2 k1
    go_enter Try.func38, Try.ntmps38
    go_wp2
    go_ret
    exact ⟨ret_bool hE.out.symm, b0⟩
  subst k1
  by_cases k2 : d1 = d2
  case neg =>
    have n1 : (d1 == d2) = false := by simpa using k2
    have hE : Hid (E = false) := by rw [HE.out]; exact decide_eq_false (fun h => k2 h.2.1)
    clear hc1 hc2 k2
    go_enter Try.func38, Try.ntmps38
    go_wp2
    go_ret
    exact ⟨ret_bool hE.out.symm, b0⟩
  subst k2
  by_cases k3 : o1 = o2
  case neg =>
    have n1 : (o1 == o2) = false := by simpa using k3
    have hE : Hid (E = false) := by rw [HE.out]; exact decide_eq_false (fun h => k3 h.2.2.1)
    clear hc1 hc2 k3
    go_enter Try.func38, Try.ntmps38
    go_wp2
    go_ret
    exact ⟨ret_bool hE.out.symm, b0⟩
  subst k3
  by_cases k4 : e1 = e2
  case neg =>
    have n1 : (e1 == e2) = false := by simpa using k4
    have hE : Hid (E = false) := by rw [HE.out]; exact decide_eq_false (fun h => k4 h.2.2.2.1)
    clear hc1 hc2 k4
    go_enter Try.func38, Try.ntmps38
    go_wp2
    go_ret
    exact ⟨ret_bool hE.out.symm, b0⟩
  subst k4
  by_cases k3 : ps1.length = ps2.length
  case neg =>
    have n1 : (ps1.length != ps2.length) = true := by simpa using k3
    have n2 : ((ps1.length : Int) != (ps2.length : Int)) = true := by simp; omega
    have hE : Hid (E = false) := by rw [HE.out]; exact decide_eq_false (fun h => k3 (by rw [h.2.2.2.2]))
    clear hc1 hc2
    go_enter Try.func38, Try.ntmps38
    go_wp2
    go_ret
    exact ⟨ret_bool hE.out.symm, b0⟩
  have n1' : (ps1.length != ps2.length) = false := by simpa using k3
  have n2' : ((ps1.length : Int) != (ps2.length : Int)) = false := by simp; omega
  have HL := Lib.hid k3; clear k3
  obtain ⟨W, hW⟩ : ∃ W, W = (w.alloc (.cells #[.int .i64 b1, .int .i64 d1, .int .i64 o1, .int .i64 e1, .slice a1 ps1.length cap1] 65)).alloc (.cells #[.int .i64 b1, .int .i64 d1, .int .i64 o1, .int .i64 e1, .slice a2 ps2.length cap2] 65) := ⟨_, rfl⟩
  rw [← hW] at b0
  have z : W.heap.size = w.heap.size + 2 := by rw [hW]; simp
  have g0 : W.cell? ⟨w.heap.size, 4, none⟩ = some (.slice a1 ps1.length cap1) := by rw [hW]; simp [go_sem]
  have g1 : W.cell? ⟨w.heap.size + 1, 4, none⟩ = some (.slice a2 ps2.length cap2) := by rw [hW]; simp [go_sem]
  have HZ := Lib.hid z; have HW := Lib.hid hW; have G0 := Lib.hid g0; have G1 := Lib.hid g1; have HQ := Lib.hid hq
  clear z hW g0 g1 hq
  go_enter Try.func38, Try.ntmps38
  go_wp2
  rw [← HW.out]
  go_loopw [5] (fun i wr => ∃ k : Nat, k ≤ ps1.length ∧ i = .int .i64 k ∧ Hid (ps1.take k = ps2.take k) ∧ ∃ q, wr = W.drewN q) (fun i _ => ps1.length - (intOf i).toNat)
  case atStart => exact ⟨0, Nat.zero_le _, rfl, rfl, 0, rfl⟩
  case round =>
    obtain ⟨k, hk, rfl, hs, q, rfl⟩ := hrel
    have g0 := G0.out
    have g1 := G1.out
    by_cases hlt : k < ps1.length
    · have hlt2 : k < ps2.length := by have := HL.out; omega
      obtain ⟨bb1, oo1, rfl, hcell1⟩ := hc1 (by omega)
      obtain ⟨bb2, oo2, rfl, hcell2⟩ := hc2 (by omega)
      obtain ⟨dd1, dd2⟩ := hcell1 k hlt
      obtain ⟨dd3, dd4⟩ := hcell2 k hlt2
      have c1 := (b0.cell (p := ⟨bb1, oo1 + k * 2, none⟩) (World.block_lt_of_cell? _ _ dd1)).trans dd1
      have c2 := (b0.cell (p := ⟨bb1, oo1 + k * 2 + 1, none⟩) (World.block_lt_of_cell? _ _ dd2)).trans dd2
      have c3 := (b0.cell (p := ⟨bb2, oo2 + k * 2, none⟩) (World.block_lt_of_cell? _ _ dd3)).trans dd3
      have c4 := (b0.cell (p := ⟨bb2, oo2 + k * 2 + 1, none⟩) (World.block_lt_of_cell? _ _ dd4)).trans dd4
      have t1 : ps1.take (k + 1) = ps1.take k ++ [ps1.getD k (0, 0)] := by rw [List.take_succ_eq_append_getElem hlt]; simp [List.getD, hlt]
      have t2 : ps2.take (k + 1) = ps2.take k ++ [ps2.getD k (0, 0)] := by rw [List.take_succ_eq_append_getElem hlt2]; simp [List.getD, hlt2]
      clear hcell1 hcell2 hc1 hc2 dd1 dd2 dd3 dd4
      generalize hx : ps1.getD k (0, 0) = x at *
      generalize hy : ps2.getD k (0, 0) = y at *
      obtain ⟨x1, x2⟩ := x
      obtain ⟨y1, y2⟩ := y
      simp only at c1 c2 c3 c4
      have HX := Lib.hid hx; have HY := Lib.hid hy; have T1 := Lib.hid t1; have T2 := Lib.hid t2
      clear hx hy t1 t2
      have j1 : (k : Int) < (ps1.length : Int) := by omega
      have j2 : (k : Int) < (ps2.length : Int) := by omega
      have hq := HQ.out
      have ne : ¬ (x1, x2) = (y1, y2) → Hid (E = false) := by
        intro h; unfold Hid; rw [HE.out]
        refine decide_eq_false (fun e => h ?_)
        rw [← HX.out, ← HY.out, e.2.2.2.2]
      have NE := Lib.hid ne; clear ne
      by_cases m1 : x1 = y1
      case neg =>
        have n1 : (x1 == y1) = false := by simpa using m1
        go_wp2
        go_quiet (fail)
        go_wp2
        go_ret
        exact ⟨ret_bool (NE.out (fun h => m1 (by simp at h; exact h.1))).out.symm, below_drewN (below_drewN b0 _) _⟩
      subst m1
      by_cases m2 : x2 = y2
      case neg =>
        have n1 : (x2 == y2) = false := by simpa using m2
        go_wp2
        go_quiet (fail)
        go_wp2
        go_ret
        exact ⟨ret_bool (NE.out (fun h => m2 (by simp at h; exact h))).out.symm, below_drewN (below_drewN b0 _) _⟩
      subst m2
      go_wp2
      go_quiet (fail)
      go_wp2
      go_roundw
      case rel => exact ⟨k + 1, by omega, by go_num, by unfold Hid; rw [T1.out, T2.out, hs.out], q + nq, by simp⟩
      case measure => simp [intOf]; omega
    · have hall : ps1 = ps2 := by have := hs.out; rwa [List.take_of_length_le (by omega), List.take_of_length_le (by have := HL.out; omega)] at this
      have HA := Lib.hid hall
      clear hc1 hc2 hall hs
      go_wp2
      go_ret
      exact ⟨ret_bool (by rw [HE.out]; exact (decide_eq_true ⟨rfl, rfl, rfl, rfl, HA.out⟩).symm), below_drewN b0 _⟩

set_option maxHeartbeats 2000000 in
theorem slicesEqFrac_any (v1 : Value) (ps1 : List (Int × Int)) (v2 : Value) (ps2 : List (Int × Int)) (w : World) (h1 : Pairs w v1 ps1) (h2 : Pairs w v2 ps2) :
    Calls Try.prog 81 #[v1, v2] w fun e w' => e = .returned (.bool (decide (ps1 = ps2))) ∧ Below w.heap.size w w' := by
  obtain ⟨hl1, a1, cap1, rfl, hc1⟩ := h1
  obtain ⟨hl2, a2, cap2, rfl, hc2⟩ := h2
  have b0 : Below w.heap.size w w := Below.refl _ _
  obtain ⟨E, hE⟩ : ∃ E, E = decide (ps1 = ps2) := ⟨_, rfl⟩
  rw [← hE]
  have HE := Lib.hid hE; clear hE
  have hq := eqFracRun
  by_cases k3 : ps1.length = ps2.length
  case neg =>
    have n1 : (ps1.length != ps2.length) = true := by simpa using k3
    have n2 : ((ps1.length : Int) != (ps2.length : Int)) = true := by simp; omega
    have hE : Hid (E = false) := by rw [HE.out]; exact decide_eq_false (fun h => k3 (by rw [h]))
    clear hc1 hc2
    go_enter Try.func81, Try.ntmps81
    go_wp2
    go_ret
    exact ⟨ret_bool hE.out.symm, b0⟩
  have n1' : (ps1.length != ps2.length) = false := by simpa using k3
  have n2' : ((ps1.length : Int) != (ps2.length : Int)) = false := by simp; omega
  have HL := Lib.hid k3; clear k3
  have HQ := Lib.hid hq
  clear hq
  go_enter Try.func81, Try.ntmps81
  go_wp2
  go_loopw [13] (fun i wr => ∃ k : Nat, k ≤ ps1.length ∧ i = .int .i64 k ∧ Hid (ps1.take k = ps2.take k) ∧ ∃ q, wr = w.drewN q) (fun i _ => ps1.length - (intOf i).toNat)
  case atStart => exact ⟨0, Nat.zero_le _, rfl, rfl, 0, rfl⟩
  case round =>
    obtain ⟨k, hk, rfl, hs, q, rfl⟩ := hrel
    by_cases hlt : k < ps1.length
    · have hlt2 : k < ps2.length := by have := HL.out; omega
      obtain ⟨bb1, oo1, rfl, hcell1⟩ := hc1 (by omega)
      obtain ⟨bb2, oo2, rfl, hcell2⟩ := hc2 (by omega)
      obtain ⟨dd1, dd2⟩ := hcell1 k hlt
      obtain ⟨dd3, dd4⟩ := hcell2 k hlt2
      have c1 := (b0.cell (p := ⟨bb1, oo1 + k * 2, none⟩) (World.block_lt_of_cell? _ _ dd1)).trans dd1
      have c2 := (b0.cell (p := ⟨bb1, oo1 + k * 2 + 1, none⟩) (World.block_lt_of_cell? _ _ dd2)).trans dd2
      have c3 := (b0.cell (p := ⟨bb2, oo2 + k * 2, none⟩) (World.block_lt_of_cell? _ _ dd3)).trans dd3
      have c4 := (b0.cell (p := ⟨bb2, oo2 + k * 2 + 1, none⟩) (World.block_lt_of_cell? _ _ dd4)).trans dd4
      have t1 : ps1.take (k + 1) = ps1.take k ++ [ps1.getD k (0, 0)] := by rw [List.take_succ_eq_append_getElem hlt]; simp [List.getD, hlt]
      have t2 : ps2.take (k + 1) = ps2.take k ++ [ps2.getD k (0, 0)] := by rw [List.take_succ_eq_append_getElem hlt2]; simp [List.getD, hlt2]
      clear hcell1 hcell2 hc1 hc2 dd1 dd2 dd3 dd4
      generalize hx : ps1.getD k (0, 0) = x at *
      generalize hy : ps2.getD k (0, 0) = y at *
      obtain ⟨x1, x2⟩ := x
      obtain ⟨y1, y2⟩ := y
      simp only at c1 c2 c3 c4
      have HX := Lib.hid hx; have HY := Lib.hid hy; have T1 := Lib.hid t1; have T2 := Lib.hid t2
      clear hx hy t1 t2
      have j1 : (k : Int) < (ps1.length : Int) := by omega
      have j2 : (k : Int) < (ps2.length : Int) := by omega
      have hq := HQ.out
      have ne : ¬ (x1, x2) = (y1, y2) → Hid (E = false) := by
        intro h; unfold Hid; rw [HE.out]
        refine decide_eq_false (fun e => h ?_)
        rw [← HX.out, ← HY.out, e]
      have NE := Lib.hid ne; clear ne
      by_cases m1 : x1 = y1
      case neg =>
        have n1 : (x1 == y1) = false := by simpa using m1
        go_wp2
        go_quiet (fail)
        go_wp2
        go_ret
        exact ⟨ret_bool (NE.out (fun h => m1 (by simp at h; exact h.1))).out.symm, below_drewN (below_drewN b0 _) _⟩
      subst m1
      by_cases m2 : x2 = y2
      case neg =>
        have n1 : (x2 == y2) = false := by simpa using m2
        go_wp2
        go_quiet (fail)
        go_wp2
        go_ret
        exact ⟨ret_bool (NE.out (fun h => m2 (by simp at h; exact h))).out.symm, below_drewN (below_drewN b0 _) _⟩
      subst m2
      go_wp2
      go_quiet (fail)
      go_wp2
      go_roundw
      case rel => exact ⟨k + 1, by omega, by go_num, by unfold Hid; rw [T1.out, T2.out, hs.out], q + nq, by simp⟩
      case measure => simp [intOf]; omega
    · have hall : ps1 = ps2 := by have := hs.out; rwa [List.take_of_length_le (by omega), List.take_of_length_le (by have := HL.out; omega)] at this
      have HA := Lib.hid hall
      clear hc1 hc2 hall hs
      go_wp2
      go_ret
      exact ⟨ret_bool (by rw [HE.out]; exact (decide_eq_true HA.out).symm), below_drewN b0 _⟩

set_option maxHeartbeats 2000000 in
theorem implTun_any (b1 d1 o1 e1 : Int) (v1 : Value) (ps1 : List (Int × Int)) (b2 d2 o2 e2 : Int) (v2 : Value) (ps2 : List (Int × Int)) (w : World) (h1 : Pairs w v1 ps1) (h2 : Pairs w v2 ps2) :
    Calls Try.prog 40 #[tunV b1 d1 o1 e1 v1, tunV b2 d2 o2 e2 v2] w fun e w' => e = .returned (.bool (sameTunB b1 d1 o1 e1 ps1 b2 d2 o2 e2 ps2)) ∧ Below w.heap.size w w' := by
  have b0 : Below w.heap.size w ((w.alloc (.cells #[.int .i64 b1, .int .i64 d1, .int .i64 o1, .int .i64 e1, v1] 65)).alloc (.cells #[.int .i64 b2, .int .i64 d2, .int .i64 o2, .int .i64 e2, v2] 65)) := by
    repeat (first | exact Below.refl _ _ | refine Below.alloc ?_ (by simp <;> omega) _)
  obtain ⟨hl1, a1, cap1, rfl, hc1⟩ := h1
  obtain ⟨hl2, a2, cap2, rfl, hc2⟩ := h2
  obtain ⟨E, hE⟩ : ∃ E, E = sameTunB b1 d1 o1 e1 ps1 b2 d2 o2 e2 ps2 := ⟨_, rfl⟩
  rw [← hE]
  have HE := Lib.hid hE; clear hE
  have hq := eqFracRun
  by_cases k1 : b1 = b2
  case neg =>
    have n1 : (b1 == b2) = false := by simpa using k1
    have hE : Hid (E = false) := by rw [HE.out]; exact decide_eq_false (fun h => k1 h.1)
    clear hc1 hc2 k1
    go_enter Try.func40, Try.ntmps40
    go_wp2
    go_ret
    exact ⟨ret_bool hE.out.symm, b0⟩
  subst k1
  by_cases k2 : d1 = d2
  case neg =>
    have n1 : (d1 == d2) = false := by simpa using k2
    have hE : Hid (E = false) := by rw [HE.out]; exact decide_eq_false (fun h => k2 h.2.1)
    clear hc1 hc2 k2
    go_enter Try.func40, Try.ntmps40
    go_wp2
    go_ret
    exact ⟨ret_bool hE.out.symm, b0⟩
  subst k2
  by_cases k3 : o1 = o2
  case neg =>
    have n1 : (o1 == o2) = false := by simpa using k3
    have hE : Hid (E = false) := by rw [HE.out]; exact decide_eq_false (fun h => k3 h.2.2.1)
    clear hc1 hc2 k3
    go_enter Try.func40, Try.ntmps40
    go_wp2
    go_ret
    exact ⟨ret_bool hE.out.symm, b0⟩
  subst k3
  by_cases k4 : e1 = e2
  case neg =>
    have n1 : (e1 == e2) = false := by simpa using k4
    have hE : Hid (E = false) := by rw [HE.out]; exact decide_eq_false (fun h => k4 h.2.2.2.1)
    clear hc1 hc2 k4
    go_enter Try.func40, Try.ntmps40
    go_wp2
    go_ret
    exact ⟨ret_bool hE.out.symm, b0⟩
  subst k4
  have p1 : Pairs ((w.alloc (.cells #[.int .i64 b1, .int .i64 d1, .int .i64 o1, .int .i64 e1, .slice a1 ps1.length cap1] 65)).alloc (.cells #[.int .i64 b1, .int .i64 d1, .int .i64 o1, .int .i64 e1, .slice a2 ps2.length cap2] 65)) (.slice a1 ps1.length cap1) ps1 := Pairs.below ⟨hl1, a1, cap1, rfl, hc1⟩ b0
  have p2 : Pairs ((w.alloc (.cells #[.int .i64 b1, .int .i64 d1, .int .i64 o1, .int .i64 e1, .slice a1 ps1.length cap1] 65)).alloc (.cells #[.int .i64 b1, .int .i64 d1, .int .i64 o1, .int .i64 e1, .slice a2 ps2.length cap2] 65)) (.slice a2 ps2.length cap2) ps2 := Pairs.below ⟨hl2, a2, cap2, rfl, hc2⟩ b0
  have hE : Hid (E = decide (ps1 = ps2)) := by unfold Hid; rw [HE.out]; simp [sameTunB]
  have P1 := Lib.hid p1; have P2 := Lib.hid p2; have B0 := Lib.hid b0
  clear hc1 hc2 p1 p2 b0
  go_enter Try.func40, Try.ntmps40
  go_wp2_with fail
  refine (slicesEqFrac_any _ ps1 _ ps2 _ P1.out P2.out).mono ?_
  rintro e w1 ⟨rfl, c1⟩
  have c2 := B0.out.trans (c1.mono B0.out.size)
  clear c1
  go_wp2
  go_ret
  exact ⟨ret_bool hE.out.symm, c2⟩

end Go.Proofs.Ytbahhkpfbmlcjaa
