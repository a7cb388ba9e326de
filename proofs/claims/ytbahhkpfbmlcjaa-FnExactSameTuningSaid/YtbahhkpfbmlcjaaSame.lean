/-
  SameEnvelope of both sides.
-/
import Derived.Test.YtbahhkpfbmlcjaaSeg
import Derived.Laws.StructEq
namespace Go.Proofs.Ytbahhkpfbmlcjaa
open Go.RowKit

theorem stoodSeg : Try.prog.stoodInHeld 82 = false := by kernel_rfl
theorem eqSegRun (d : Nat) (xs ys : Array Value) (w : World) : (Op.equalIn (d + 1) 82 (.agg xs) (.agg ys)).run Try.prog w = (Op.eqFields d xs ys (Try.prog.fieldsOf 82).toList).run Try.prog w :=
  run_equalIn_struct w d 82 xs ys (by kernel_rfl) stoodSeg
theorem stoodFrac : Try.prog.stoodInHeld 36 = false := by kernel_rfl
theorem eqFracRun (d : Nat) (xs ys : Array Value) (w : World) : (Op.equalIn (d + 1) 36 (.agg xs) (.agg ys)).run Try.prog w = (Op.eqFields d xs ys (Try.prog.fieldsOf 36).toList).run Try.prog w :=
  run_equalIn_struct w d 36 xs ys (by kernel_rfl) stoodFrac

def sameEnvB (s1 : Int) (ps1 : List (Int × Int)) (r1 s2 : Int) (ps2 : List (Int × Int)) (r2 : Int) : Bool := decide (s1 = s2 ∧ r1 = r2 ∧ ps1 = ps2)

set_option maxHeartbeats 1000000 in
theorem specSame_any (s1 : Int) (v1 : Value) (r1 : Int) (ps1 : List (Int × Int)) (s2 : Int) (v2 : Value) (r2 : Int) (ps2 : List (Int × Int)) (w : World) (h1 : Pairs w v1 ps1) (h2 : Pairs w v2 ps2) :
    Calls Try.prog 31 #[envV s1 v1 r1, envV s2 v2 r2] w fun e w' => e = .returned (.bool (sameEnvB s1 ps1 r1 s2 ps2 r2)) ∧ Below w.heap.size w w' := by
  have b0 : Below w.heap.size w ((w.alloc (.cells #[.int .i64 s1, v1, .int .i64 r1] 53)).alloc (.cells #[.int .i64 s2, v2, .int .i64 r2] 53)) := by
    repeat (first | exact Below.refl _ _ | refine Below.alloc ?_ (by simp <;> omega) _)
  obtain ⟨hl1, a1, cap1, rfl, hc1⟩ := h1
  obtain ⟨hl2, a2, cap2, rfl, hc2⟩ := h2
  obtain ⟨E, hE⟩ : ∃ E, E = sameEnvB s1 ps1 r1 s2 ps2 r2 := ⟨_, rfl⟩
  rw [← hE]
  have HE := Lib.hid hE; clear hE
  by_cases k1 : s1 = s2
  case neg =>
    have e1 : (s1 != s2) = true := by simpa using k1
    have hE : Hid (E = false) := by rw [HE.out]; exact decide_eq_false (fun h => k1 h.1)
    go_enter Try.func31, Try.ntmps31
    go_wp2
    go_ret
    exact ⟨ret_bool hE.out.symm, b0⟩
  subst k1
  by_cases k2 : r1 = r2
  case neg =>
    have e1 : (r1 != r2) = true := by simpa using k2
    have hE : Hid (E = false) := by rw [HE.out]; exact decide_eq_false (fun h => k2 h.2.1)
    go_enter Try.func31, Try.ntmps31
    go_wp2
    go_ret
    exact ⟨ret_bool hE.out.symm, b0⟩
  subst k2
  by_cases k3 : ps1.length = ps2.length
  case neg =>
    have e1 : (ps1.length != ps2.length) = true := by simpa using k3
    have e2 : ((ps1.length : Int) != (ps2.length : Int)) = true := by simp; omega
    have hE : Hid (E = false) := by rw [HE.out]; exact decide_eq_false (fun h => k3 (by rw [h.2.2]))
    go_enter Try.func31, Try.ntmps31
    go_wp2
    go_ret
    exact ⟨ret_bool hE.out.symm, b0⟩
  have e1 : (ps1.length != ps2.length) = false := by simpa using k3
  have e2 : ((ps1.length : Int) != (ps2.length : Int)) = false := by simp; omega
  have HL := Lib.hid k3; clear k3
  have hq := eqSegRun
  obtain ⟨W, hW⟩ : ∃ W, W = (w.alloc (.cells #[.int .i64 s1, .slice a1 ps1.length cap1, .int .i64 r1] 53)).alloc (.cells #[.int .i64 s1, .slice a2 ps2.length cap2, .int .i64 r1] 53) := ⟨_, rfl⟩
  rw [← hW] at b0
  have z : W.heap.size = w.heap.size + 2 := by rw [hW]; simp
  have g0 : W.cell? ⟨w.heap.size, 1, none⟩ = some (.slice a1 ps1.length cap1) := by rw [hW]; simp [go_sem]
  have g1 : W.cell? ⟨w.heap.size + 1, 1, none⟩ = some (.slice a2 ps2.length cap2) := by rw [hW]; simp [go_sem]
  have HZ := Lib.hid z; have HW := Lib.hid hW; have G0 := Lib.hid g0; have G1 := Lib.hid g1; have HQ := Lib.hid hq
  clear z hW g0 g1 hq
  go_enter Try.func31, Try.ntmps31
  go_wp2
  rw [← HW.out]
  go_loopw [5] (fun i wr => ∃ k : Nat, k ≤ ps1.length ∧ i = .int .i64 k ∧ Hid (ps1.take k = ps2.take k) ∧ ∃ q, wr = W.drewN q) (fun i _ => ps1.length - (intOf i).toNat)
  case atStart => exact ⟨0, Nat.zero_le _, rfl, rfl, 0, rfl⟩
  case round =>
    obtain ⟨k, hk, rfl, hs, q, rfl⟩ := hrel
    have g0 := G0.out
    have g1 := G1.out
    by_cases hlt : k < ps1.length
    · have hlt2 : k < ps2.length := by have := HL.out; omega
      obtain ⟨b1, o1, rfl, hcell1⟩ := hc1 (by omega)
      obtain ⟨b2, o2, rfl, hcell2⟩ := hc2 (by omega)
      obtain ⟨d1, d2⟩ := hcell1 k hlt
      obtain ⟨d3, d4⟩ := hcell2 k hlt2
      have c1 := (b0.cell (p := ⟨b1, o1 + k * 2, none⟩) (World.block_lt_of_cell? _ _ d1)).trans d1
      have c2 := (b0.cell (p := ⟨b1, o1 + k * 2 + 1, none⟩) (World.block_lt_of_cell? _ _ d2)).trans d2
      have c3 := (b0.cell (p := ⟨b2, o2 + k * 2, none⟩) (World.block_lt_of_cell? _ _ d3)).trans d3
      have c4 := (b0.cell (p := ⟨b2, o2 + k * 2 + 1, none⟩) (World.block_lt_of_cell? _ _ d4)).trans d4
      have t1 : ps1.take (k + 1) = ps1.take k ++ [ps1.getD k (0, 0)] := by rw [List.take_succ_eq_append_getElem hlt]; simp [List.getD, hlt]
      have t2 : ps2.take (k + 1) = ps2.take k ++ [ps2.getD k (0, 0)] := by rw [List.take_succ_eq_append_getElem hlt2]; simp [List.getD, hlt2]
      clear hcell1 hcell2 hc1 hc2 d1 d2 d3 d4
      generalize hx : ps1.getD k (0, 0) = x at *
      generalize hy : ps2.getD k (0, 0) = y at *
      obtain ⟨x1, x2⟩ := x
      obtain ⟨y1, y2⟩ := y
      simp only at c1 c2 c3 c4
      have HX := Lib.hid hx; have HY := Lib.hid hy; have T1 := Lib.hid t1; have T2 := Lib.hid t2
      clear hx hy t1 t2
      have j1 : (k : Int) < (ps1.length : Int) := by omega
      have j2 : (k : Int) < (ps2.length : Int) := by omega
      have hq := HQ.out
      have ne : ¬ (x1, x2) = (y1, y2) → Hid (E = false) := by
        intro h; unfold Hid; rw [HE.out]
        refine decide_eq_false (fun e => h ?_)
        rw [← HX.out, ← HY.out, e.2.2]
      have NE := Lib.hid ne; clear ne
      by_cases m1 : x1 = y1
      case neg =>
        have n1 : (x1 == y1) = false := by simpa using m1
        go_wp2
        go_quiet (fail)
        go_wp2
        go_ret
        exact ⟨ret_bool (NE.out (fun h => m1 (by simp at h; exact h.1))).out.symm, below_drewN (below_drewN b0 _) _⟩
      subst m1
      by_cases m2 : x2 = y2
      case neg =>
        have n1 : (x2 == y2) = false := by simpa using m2
        go_wp2
        go_quiet (fail)
        go_wp2
        go_ret
        exact ⟨ret_bool (NE.out (fun h => m2 (by simp at h; exact h))).out.symm, below_drewN (below_drewN b0 _) _⟩
      subst m2
      go_wp2
      go_quiet (fail)
      go_wp2
      go_roundw
      case rel => exact ⟨k + 1, by omega, by go_num, by unfold Hid; rw [T1.out, T2.out, hs.out], q + nq, by simp⟩
      case measure => simp [intOf]; omega
    · have hall : ps1 = ps2 := by have := hs.out; rwa [List.take_of_length_le (by omega), List.take_of_length_le (by have := HL.out; omega)] at this
      have HA := Lib.hid hall
      clear hc1 hc2 hall hs
      go_wp2
      go_ret
      exact ⟨ret_bool (by rw [HE.out]; exact (decide_eq_true ⟨rfl, rfl, HA.out⟩).symm), below_drewN b0 _⟩

set_option maxHeartbeats 1000000 in
theorem implSame_any (s1 : Int) (v1 : Value) (r1 : Int) (ps1 : List (Int × Int)) (s2 : Int) (v2 : Value) (r2 : Int) (ps2 : List (Int × Int)) (w : World) (h1 : Pairs w v1 ps1) (h2 : Pairs w v2 ps2) :
    Calls Try.prog 33 #[envV s1 v1 r1, envV s2 v2 r2] w fun e w' => e = .returned (.bool (sameEnvB s1 ps1 r1 s2 ps2 r2)) ∧ Below w.heap.size w w' := by
  have b0 : Below w.heap.size w ((w.alloc (.cells #[.int .i64 s1, v1, .int .i64 r1] 53)).alloc (.cells #[.int .i64 s2, v2, .int .i64 r2] 53)) := by
    repeat (first | exact Below.refl _ _ | refine Below.alloc ?_ (by simp <;> omega) _)
  obtain ⟨hl1, a1, cap1, rfl, hc1⟩ := h1
  obtain ⟨hl2, a2, cap2, rfl, hc2⟩ := h2
  obtain ⟨E, hE⟩ : ∃ E, E = sameEnvB s1 ps1 r1 s2 ps2 r2 := ⟨_, rfl⟩
  rw [← hE]
  have HE := Lib.hid hE; clear hE
  by_cases k1 : s1 = s2
  case neg =>
    have e1 : (s1 != s2) = true := by simpa using k1
    have hE : Hid (E = false) := by rw [HE.out]; exact decide_eq_false (fun h => k1 h.1)
    go_enter Try.func33, Try.ntmps33
    go_wp2
    go_ret
    exact ⟨ret_bool hE.out.symm, b0⟩
  subst k1
  by_cases k2 : r1 = r2
  case neg =>
    have e1 : (r1 != r2) = true := by simpa using k2
    have hE : Hid (E = false) := by rw [HE.out]; exact decide_eq_false (fun h => k2 h.2.1)
    go_enter Try.func33, Try.ntmps33
    go_wp2
    go_ret
    exact ⟨ret_bool hE.out.symm, b0⟩
  subst k2
  by_cases k3 : ps1.length = ps2.length
  case neg =>
    have e1 : (ps1.length != ps2.length) = true := by simpa using k3
    have e2 : ((ps1.length : Int) != (ps2.length : Int)) = true := by simp; omega
    have hE : Hid (E = false) := by rw [HE.out]; exact decide_eq_false (fun h => k3 (by rw [h.2.2]))
    go_enter Try.func33, Try.ntmps33
    go_wp2
    go_ret
    exact ⟨ret_bool hE.out.symm, b0⟩
  have e1 : (ps1.length != ps2.length) = false := by simpa using k3
  have e2 : ((ps1.length : Int) != (ps2.length : Int)) = false := by simp; omega
  have HL := Lib.hid k3; clear k3
  have hq := eqSegRun
  obtain ⟨W, hW⟩ : ∃ W, W = (w.alloc (.cells #[.int .i64 s1, .slice a1 ps1.length cap1, .int .i64 r1] 53)).alloc (.cells #[.int .i64 s1, .slice a2 ps2.length cap2, .int .i64 r1] 53) := ⟨_, rfl⟩
  rw [← hW] at b0
  have z : W.heap.size = w.heap.size + 2 := by rw [hW]; simp
  have g0 : W.cell? ⟨w.heap.size, 1, none⟩ = some (.slice a1 ps1.length cap1) := by rw [hW]; simp [go_sem]
  have g1 : W.cell? ⟨w.heap.size + 1, 1, none⟩ = some (.slice a2 ps2.length cap2) := by rw [hW]; simp [go_sem]
  have HZ := Lib.hid z; have HW := Lib.hid hW; have G0 := Lib.hid g0; have G1 := Lib.hid g1; have HQ := Lib.hid hq
  clear z hW g0 g1 hq
  go_enter Try.func33, Try.ntmps33
  go_wp2
  rw [← HW.out]
  go_loopw [31] (fun i wr => ∃ k : Nat, k ≤ ps1.length ∧ i = .int .i64 k ∧ Hid (ps1.take k = ps2.take k) ∧ Below W.heap.size W wr) (fun i _ => ps1.length - (intOf i).toNat)
  case atStart => exact ⟨0, Nat.zero_le _, rfl, rfl, Below.refl _ _⟩
  case round =>
    obtain ⟨k, hk, rfl, hs, hbel⟩ := hrel
    have g1 := (hbel.cell (World.block_lt_of_cell? _ _ G1.out)).trans G1.out
    have bw := b0.trans (hbel.mono b0.size)
    have bx := fun u => bw.alloc bw.size u
    have BX := Lib.hid bx; clear bx
    by_cases hlt : k < ps1.length
    · have hlt2 : k < ps2.length := by have := HL.out; omega
      obtain ⟨b1, o1, rfl, hcell1⟩ := hc1 (by omega)
      obtain ⟨b2, o2, rfl, hcell2⟩ := hc2 (by omega)
      obtain ⟨d1, d2⟩ := hcell1 k hlt
      obtain ⟨d3, d4⟩ := hcell2 k hlt2
      have c1 := (bw.cell (p := ⟨b1, o1 + k * 2, none⟩) (World.block_lt_of_cell? _ _ d1)).trans d1
      have c2 := (bw.cell (p := ⟨b1, o1 + k * 2 + 1, none⟩) (World.block_lt_of_cell? _ _ d2)).trans d2
      have c3 := (bw.cell (p := ⟨b2, o2 + k * 2, none⟩) (World.block_lt_of_cell? _ _ d3)).trans d3
      have c4 := (bw.cell (p := ⟨b2, o2 + k * 2 + 1, none⟩) (World.block_lt_of_cell? _ _ d4)).trans d4
      have t1 : ps1.take (k + 1) = ps1.take k ++ [ps1.getD k (0, 0)] := by rw [List.take_succ_eq_append_getElem hlt]; simp [List.getD, hlt]
      have t2 : ps2.take (k + 1) = ps2.take k ++ [ps2.getD k (0, 0)] := by rw [List.take_succ_eq_append_getElem hlt2]; simp [List.getD, hlt2]
      have hbx := hbel.alloc hbel.size (.cells #[.int .i64 (ps1.getD k (0, 0)).1, .int .i64 (ps1.getD k (0, 0)).2] 82)
      have l3 := World.block_lt_of_cell? _ _ c3
      clear hcell1 hcell2 hc1 hc2 d1 d2 d3 d4
      generalize hx : ps1.getD k (0, 0) = x at *
      generalize hy : ps2.getD k (0, 0) = y at *
      obtain ⟨x1, x2⟩ := x
      obtain ⟨y1, y2⟩ := y
      simp only at c1 c2 c3 c4 hbx l3
      have HBX := Lib.hid hbx; clear hbx
      have bwx := BX.out (.cells #[.int .i64 x1, .int .i64 x2] 82)
      have g1' := (((Below.refl wr.heap.size wr).alloc (Nat.le_refl _) (.cells #[.int .i64 x1, .int .i64 x2] 82)).cell (World.block_lt_of_cell? _ _ g1)).trans g1
      have c3' := (((Below.refl wr.heap.size wr).alloc (Nat.le_refl _) (.cells #[.int .i64 x1, .int .i64 x2] 82)).cell (World.block_lt_of_cell? _ _ c3)).trans c3
      have c4' := (((Below.refl wr.heap.size wr).alloc (Nat.le_refl _) (.cells #[.int .i64 x1, .int .i64 x2] 82)).cell (World.block_lt_of_cell? _ _ c4)).trans c4
      have HX := Lib.hid hx; have HY := Lib.hid hy; have T1 := Lib.hid t1; have T2 := Lib.hid t2
      clear hx hy t1 t2
      have j1 : (k : Int) < (ps1.length : Int) := by omega
      have j2 : (k : Int) < (ps2.length : Int) := by omega
      have hq := HQ.out
      have ne : ¬ (x1, x2) = (y1, y2) → Hid (E = false) := by
        intro h; unfold Hid; rw [HE.out]
        refine decide_eq_false (fun e => h ?_)
        rw [← HX.out, ← HY.out, e.2.2]
      have NE := Lib.hid ne; clear ne
      by_cases m1 : x1 = y1
      case neg =>
        have n1 : (x1 == y1) = false := by simpa using m1
        go_wp2
        go_quiet (fail)
        go_wp2
        go_ret
        exact ⟨ret_bool (NE.out (fun h => m1 (by simp at h; exact h.1))).out.symm, below_drewN bwx _⟩
      subst m1
      by_cases m2 : x2 = y2
      case neg =>
        have n1 : (x2 == y2) = false := by simpa using m2
        go_wp2
        go_quiet (fail)
        go_wp2
        go_ret
        exact ⟨ret_bool (NE.out (fun h => m2 (by simp at h; exact h))).out.symm, below_drewN bwx _⟩
      subst m2
      go_wp2
      go_quiet (fail)
      go_wp2
      go_roundw
      case rel => exact ⟨k + 1, by omega, by go_num, by unfold Hid; rw [T1.out, T2.out, hs.out], below_drewN HBX.out _⟩
      case measure => simp [intOf]; omega
    · have hall : ps1 = ps2 := by have := hs.out; rwa [List.take_of_length_le (by omega), List.take_of_length_le (by have := HL.out; omega)] at this
      have HA := Lib.hid hall
      clear hc1 hc2 hall hs
      go_wp2
      go_ret
      exact ⟨ret_bool (by rw [HE.out]; exact (decide_eq_true ⟨rfl, rfl, HA.out⟩).symm), bw⟩

end Go.Proofs.Ytbahhkpfbmlcjaa
