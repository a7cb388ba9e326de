/-
  Contracts of the laws' own functions over segments and envelopes.
-/
import Derived.Test.YtpngabaeekjhmaaPair
import Derived.Deep.RegionHeld3
import Derived.Test.YtpngabaeekjhmaaNum
namespace Go.Proofs.Ytpngabaeekjhmaa
open Go.RowKit

theorem toSegment_any (n d : Int) (w : World) :
    Calls Try.prog 63 #[.agg #[.int .i64 n, .int .i64 d]] w fun e w' => e = .returned (.agg #[.int .i64 n, .int .i64 d]) ∧ Below w.heap.size w w' := by
  go_enter Try.func63, Try.ntmps63
  go_wp2
  refine bodyPost_ret (v := .agg #[.int .i64 n, .int .i64 d]) (by simp [results, Try.results63, go_sem]) rfl ⟨rfl, ?_⟩
  repeat (first | exact Below.refl _ _ | refine Below.alloc ?_ (by simp <;> omega) _ | refine Below.setCell ?_ (by simp) _)
theorem toFracP_any (n d : Int) (w : World) :
    Calls Try.prog 15 #[.agg #[.int .i64 n, .int .i64 d]] w fun e w' => e = .returned (.agg #[.int .i64 n, .int .i64 d]) ∧ Below w.heap.size w w' := by
  go_enter Try.func15, Try.ntmps15
  go_wp2
  refine bodyPost_ret (v := .agg #[.int .i64 n, .int .i64 d]) (by simp [results, Try.results15, go_sem]) rfl ⟨rfl, ?_⟩
  repeat (first | exact Below.refl _ _ | refine Below.alloc ?_ (by simp <;> omega) _ | refine Below.setCell ?_ (by simp) _)

theorem eqSegment_same (n d : Int) (w : World) :
    Calls Try.prog 68 #[.agg #[.int .i64 n, .int .i64 d], .agg #[.int .i64 n, .int .i64 d]] w fun e w' => e = .returned (.bool true) ∧ Below w.heap.size w w' := by
  go_enter Try.func68, Try.ntmps68
  go_wp2
  go_ret
  refine ⟨rfl, ?_⟩
  repeat (first | exact Below.refl _ _ | refine Below.alloc ?_ (by simp <;> omega) _ | refine below_drewN ?_ _)
theorem eqFrac_same (n d : Int) (w : World) :
    Calls Try.prog 22 #[.agg #[.int .i64 n, .int .i64 d], .agg #[.int .i64 n, .int .i64 d]] w fun e w' => e = .returned (.bool true) ∧ Below w.heap.size w w' := by
  go_enter Try.func22, Try.ntmps22
  go_wp2
  go_ret
  refine ⟨rfl, ?_⟩
  repeat (first | exact Below.refl _ _ | refine Below.alloc ?_ (by simp <;> omega) _ | refine below_drewN ?_ _)

theorem infoSeg : (Try.prog.info? 68).map (fun i => (i.zero, i.size, i.bytes)) = some (some (.agg #[.int .i64 0, .int .i64 0]), 2, 16) := by kernel_rfl
theorem infoFrac : (Try.prog.info? 29).map (fun i => (i.zero, i.size, i.bytes)) = some (some (.agg #[.int .i64 0, .int .i64 0]), 2, 16) := by kernel_rfl

theorem made_pairs {w' : World} {e : TypeId} {base n : Nat} {v : Value} (h : w'.ownsRow base e 2 v n (madeCells #[Value.int .i64 0, Value.int .i64 0] (n * 2)).toList) : OwnP e w' base v (List.replicate n (0, 0)) := by
  have e1 : (madeCells #[Value.int .i64 0, Value.int .i64 0] (n * 2)).toList = List.replicate (n * 2) (Value.int .i64 0) := by
    apply List.ext_getElem?
    intro j
    by_cases hj : j < n * 2
    · have : j % 2 = 0 ∨ j % 2 = 1 := by omega
      rcases this with h | h <;> simp [madeCells, hj, h]
    · simp [madeCells, hj]
  rw [e1, flatP_zeros] at h
  unfold OwnP
  simpa using h

theorem toSegmentS_any (v : Value) (ps : List (Int × Int)) (w : World) (h : Pairs w v ps) (hb : ps.length ≤ 1048576) :
    Calls Try.prog 36 #[v] w fun e w' => ∃ v', e = .returned v' ∧ OwnP 68 w' w.heap.size v' ps ∧ Below w.heap.size w w' := by
  obtain ⟨hl, a, cap, rfl, hc⟩ := h
  obtain ⟨i0, hi, hz0, hz1, hz2⟩ := info_parts infoSeg
  go_enter Try.func36, Try.ntmps36
  go_wp2_with (at_make; refine wpList_make_full _ rfl (.tmp 6) (.tmp 6) 40 rfl w.heap.size 68 i0 (.agg #[.int .i64 0, .int .i64 0]) 2 Try.underlying40 hi hz0 hz1 .i64 .i64 _ _ ps.length rfl rfl rfl rfl (by rw [hz2]; omega) (by unfold maxLen; omega) (Nat.le_refl _) ?_; intro w1 hown hgrow)
  have hO : OwnP 68 w1 w.heap.size (.slice (some ⟨w.heap.size, 0, none⟩) ps.length ps.length) (List.replicate ps.length (0, 0)) := by
    have := hown; simp only [Value.cells] at this; exact made_pairs this
  have hB : Below w.heap.size w w1 := (Below.refl _ _).grown hgrow (Nat.le_refl _) (fun k hk => by cases hk)
  clear hown hgrow hi hz0 hz1 hz2
  go_loopw [4] (fun i wr => ∃ k : Nat, k ≤ ps.length ∧ i = .int .i64 k ∧ ∃ zs : List (Int × Int), Hid (zs.length = ps.length ∧ zs.take k = ps.take k) ∧ OwnP 68 wr w.heap.size (.slice (some ⟨w.heap.size, 0, none⟩) ps.length ps.length) zs ∧ Below w.heap.size w wr) (fun i _ => ps.length - (intOf i).toNat)
  case atStart => exact ⟨0, Nat.zero_le _, rfl, List.replicate ps.length (0, 0), ⟨by simp, rfl⟩, hO, hB⟩
  case round =>
    obtain ⟨k, hk, rfl, zs, hzs, hown, hbel⟩ := hrel
    by_cases hlt : k < ps.length
    · obtain ⟨b, o, rfl, hcell⟩ := hc (by omega)
      have d1 := (hcell k hlt).1
      have d2 := (hcell k hlt).2
      have hbb := World.block_lt_of_cell? w _ d1
      have c1 := (hbel.cell (p := ⟨b, o + k * 2, none⟩) hbb).trans d1
      have c2 := (hbel.cell (p := ⟨b, o + k * 2 + 1, none⟩) hbb).trans d2
      have t1 : ps.take (k + 1) = ps.take k ++ [ps.getD k (0, 0)] := by rw [List.take_succ_eq_append_getElem hlt]; simp [List.getD, hlt]
      have t2 : ∀ x, (zs.set k x).take (k + 1) = zs.take k ++ [x] := by
        intro x
        have hk' : k < (zs.set k x).length := by have := hzs.out.1; simp; omega
        rw [List.take_succ_eq_append_getElem hk', List.take_set, List.set_eq_of_length_le (by simp; omega)]; simp
      clear hcell hc d1 d2 hbb
      generalize ps.getD k (0, 0) = x at *
      obtain ⟨x1, x2⟩ := x
      have T1 := Lib.hid t1; clear t1
      have T2 := Lib.hid (t2 (x1, x2)); clear t2
      simp only at c1 c2
      go_wp2_with fail
      refine (toSegment_any _ _ _).mono ?_; rintro e w2 ⟨rfl, b2⟩
      have hown2 := hown.below b2
      have hbel2 := hbel.trans (b2.mono hbel.size)
      have d3 := (hown2.cell k (by have := hzs.out.1; omega)).1
      have d4 := (hown2.cell k (by have := hzs.out.1; omega)).2
      have f3 := hown2.unfrozen (k * 2)
      have f4 := hown2.unfrozen (k * 2 + 1)
      generalize zs.getD k (0, 0) = z at *
      have hown' := hown2.set k (x1, x2)
      have hbel' := (hbel2.setCell (p := ⟨w.heap.size, k * 2, none⟩) (Nat.le_refl _) (.int .i64 x1)).setCell (p := ⟨w.heap.size, k * 2 + 1, none⟩) (Nat.le_refl _) (.int .i64 x2)
      clear hown hbel hown2 hbel2 b2
      go_wp2
      go_roundw
      case rel => exact ⟨k + 1, by omega, by go_num, _, ⟨by have := hzs.out.1; simpa using this, by rw [T1.out, T2.out, hzs.out.2]⟩, hown', hbel'⟩
      case measure => simp [intOf]; omega
    · have e : zs = ps := by
        have h1 := hzs.out.1
        have h2 := hzs.out.2
        rwa [List.take_of_length_le (by omega), List.take_of_length_le (by omega)] at h2
      clear hc
      go_wp2
      go_ret
      exact ⟨_, rfl, e ▸ hown, hbel⟩
theorem toFracS_any (v : Value) (ps : List (Int × Int)) (w : World) (h : Pairs w v ps) (hb : ps.length ≤ 1048576) :
    Calls Try.prog 29 #[v] w fun e w' => ∃ v', e = .returned v' ∧ OwnP 29 w' w.heap.size v' ps ∧ Below w.heap.size w w' := by
  obtain ⟨hl, a, cap, rfl, hc⟩ := h
  obtain ⟨i0, hi, hz0, hz1, hz2⟩ := info_parts infoFrac
  go_enter Try.func29, Try.ntmps29
  go_wp2_with (at_make; refine wpList_make_full _ rfl (.tmp 6) (.tmp 6) 30 rfl w.heap.size 29 i0 (.agg #[.int .i64 0, .int .i64 0]) 2 Try.underlying30 hi hz0 hz1 .i64 .i64 _ _ ps.length rfl rfl rfl rfl (by rw [hz2]; omega) (by unfold maxLen; omega) (Nat.le_refl _) ?_; intro w1 hown hgrow)
  have hO : OwnP 29 w1 w.heap.size (.slice (some ⟨w.heap.size, 0, none⟩) ps.length ps.length) (List.replicate ps.length (0, 0)) := by
    have := hown; simp only [Value.cells] at this; exact made_pairs this
  have hB : Below w.heap.size w w1 := (Below.refl _ _).grown hgrow (Nat.le_refl _) (fun k hk => by cases hk)
  clear hown hgrow hi hz0 hz1 hz2
  go_loopw [4] (fun i wr => ∃ k : Nat, k ≤ ps.length ∧ i = .int .i64 k ∧ ∃ zs : List (Int × Int), Hid (zs.length = ps.length ∧ zs.take k = ps.take k) ∧ OwnP 29 wr w.heap.size (.slice (some ⟨w.heap.size, 0, none⟩) ps.length ps.length) zs ∧ Below w.heap.size w wr) (fun i _ => ps.length - (intOf i).toNat)
  case atStart => exact ⟨0, Nat.zero_le _, rfl, List.replicate ps.length (0, 0), ⟨by simp, rfl⟩, hO, hB⟩
  case round =>
    obtain ⟨k, hk, rfl, zs, hzs, hown, hbel⟩ := hrel
    by_cases hlt : k < ps.length
    · obtain ⟨b, o, rfl, hcell⟩ := hc (by omega)
      have d1 := (hcell k hlt).1
      have d2 := (hcell k hlt).2
      have hbb := World.block_lt_of_cell? w _ d1
      have c1 := (hbel.cell (p := ⟨b, o + k * 2, none⟩) hbb).trans d1
      have c2 := (hbel.cell (p := ⟨b, o + k * 2 + 1, none⟩) hbb).trans d2
      have t1 : ps.take (k + 1) = ps.take k ++ [ps.getD k (0, 0)] := by rw [List.take_succ_eq_append_getElem hlt]; simp [List.getD, hlt]
      have t2 : ∀ x, (zs.set k x).take (k + 1) = zs.take k ++ [x] := by
        intro x
        have hk' : k < (zs.set k x).length := by have := hzs.out.1; simp; omega
        rw [List.take_succ_eq_append_getElem hk', List.take_set, List.set_eq_of_length_le (by simp; omega)]; simp
      clear hcell hc d1 d2 hbb
      generalize ps.getD k (0, 0) = x at *
      obtain ⟨x1, x2⟩ := x
      have T1 := Lib.hid t1; clear t1
      have T2 := Lib.hid (t2 (x1, x2)); clear t2
      simp only at c1 c2
      go_wp2_with fail
      refine (toFracP_any _ _ _).mono ?_; rintro e w2 ⟨rfl, b2⟩
      have hown2 := hown.below b2
      have hbel2 := hbel.trans (b2.mono hbel.size)
      have d3 := (hown2.cell k (by have := hzs.out.1; omega)).1
      have d4 := (hown2.cell k (by have := hzs.out.1; omega)).2
      have f3 := hown2.unfrozen (k * 2)
      have f4 := hown2.unfrozen (k * 2 + 1)
      generalize zs.getD k (0, 0) = z at *
      have hown' := hown2.set k (x1, x2)
      have hbel' := (hbel2.setCell (p := ⟨w.heap.size, k * 2, none⟩) (Nat.le_refl _) (.int .i64 x1)).setCell (p := ⟨w.heap.size, k * 2 + 1, none⟩) (Nat.le_refl _) (.int .i64 x2)
      clear hown hbel hown2 hbel2 b2
      go_wp2
      go_roundw
      case rel => exact ⟨k + 1, by omega, by go_num, _, ⟨by have := hzs.out.1; simpa using this, by rw [T1.out, T2.out, hzs.out.2]⟩, hown', hbel'⟩
      case measure => simp [intOf]; omega
    · have e : zs = ps := by
        have h1 := hzs.out.1
        have h2 := hzs.out.2
        rwa [List.take_of_length_le (by omega), List.take_of_length_le (by omega)] at h2
      clear hc
      go_wp2
      go_ret
      exact ⟨_, rfl, e ▸ hown, hbel⟩

set_option maxHeartbeats 1000000 in
theorem eqSegmentS_same (v1 v2 : Value) (ps : List (Int × Int)) (w : World) (h1 : Pairs w v1 ps) (h2 : Pairs w v2 ps) :
    Calls Try.prog 41 #[v1, v2] w fun e w' => e = .returned (.bool true) ∧ Below w.heap.size w w' := by
  obtain ⟨hl1, a1, cap1, rfl, hc1⟩ := h1
  obtain ⟨hl2, a2, cap2, rfl, hc2⟩ := h2
  go_enter Try.func41, Try.ntmps41
  go_wp2
  go_loopw [5] (fun i wr => ∃ k : Nat, k ≤ ps.length ∧ i = .int .i64 k ∧ Below w.heap.size w wr) (fun i _ => ps.length - (intOf i).toNat)
  case atStart => exact ⟨0, Nat.zero_le _, rfl, Below.refl _ _⟩
  case round =>
    obtain ⟨k, hk, rfl, hbel⟩ := hrel
    by_cases hlt : k < ps.length
    · obtain ⟨b1, o1, rfl, hcell1⟩ := hc1 (by omega)
      obtain ⟨b2, o2, rfl, hcell2⟩ := hc2 (by omega)
      obtain ⟨d1, d2⟩ := hcell1 k hlt
      obtain ⟨d3, d4⟩ := hcell2 k hlt
      have hb1 := World.block_lt_of_cell? w _ d1
      have hb2 := World.block_lt_of_cell? w _ d3
      have c1 := (hbel.cell (p := ⟨b1, o1 + k * 2, none⟩) hb1).trans d1
      have c2 := (hbel.cell (p := ⟨b1, o1 + k * 2 + 1, none⟩) hb1).trans d2
      have c3 := (hbel.cell (p := ⟨b2, o2 + k * 2, none⟩) hb2).trans d3
      have c4 := (hbel.cell (p := ⟨b2, o2 + k * 2 + 1, none⟩) hb2).trans d4
      clear hcell1 hcell2 hc1 hc2 d1 d2 d3 d4 hb1 hb2
      generalize ps.getD k (0, 0) = x at *
      obtain ⟨x1, x2⟩ := x
      simp only at c1 c2 c3 c4
      have j1 : (k : Int) < (ps.length : Int) := by omega
      go_wp2
      go_region_held3 (fun w' => w'.cell? ⟨b1, o1 + k * 2, none⟩ = some (.int .i64 x1) ∧ w'.cell? ⟨b1, o1 + k * 2 + 1, none⟩ = some (.int .i64 x2) ∧ w'.cell? ⟨b2, o2 + k * 2, none⟩ = some (.int .i64 x1) ∧ w'.cell? ⟨b2, o2 + k * 2 + 1, none⟩ = some (.int .i64 x2)) (first | exact ⟨c1, c2, c3, c4⟩ | exact ⟨e1, e2, e3, e4⟩) (first | (go_at_call 68; refine (eqSegment_same x1 x2 _).mono ?_; rintro e w2 ⟨rfl, bb⟩; have e1 := (bb.cell (p := ⟨b1, o1 + k * 2, none⟩) (World.block_lt_of_cell? wr _ c1)).trans c1; have e2 := (bb.cell (p := ⟨b1, o1 + k * 2 + 1, none⟩) (World.block_lt_of_cell? wr _ c2)).trans c2; have e3 := (bb.cell (p := ⟨b2, o2 + k * 2, none⟩) (World.block_lt_of_cell? wr _ c3)).trans c3; have e4 := (bb.cell (p := ⟨b2, o2 + k * 2 + 1, none⟩) (World.block_lt_of_cell? wr _ c4)).trans c4))
      have hbel2 := (hbel.drew).trans (bb.mono hbel.size)
      clear hbel bb c1 c2 c3 c4 e1 e2 e3 e4
      go_wp2
      go_roundw
      case rel => exact ⟨k + 1, by omega, by go_num, hbel2⟩
      case measure => simp [intOf]; omega
    · clear hc1 hc2
      go_wp2
      go_ret
      exact ⟨rfl, hbel⟩
set_option maxHeartbeats 1000000 in
theorem eqFracS_same (v1 v2 : Value) (ps : List (Int × Int)) (w : World) (h1 : Pairs w v1 ps) (h2 : Pairs w v2 ps) :
    Calls Try.prog 31 #[v1, v2] w fun e w' => e = .returned (.bool true) ∧ Below w.heap.size w w' := by
  obtain ⟨hl1, a1, cap1, rfl, hc1⟩ := h1
  obtain ⟨hl2, a2, cap2, rfl, hc2⟩ := h2
  go_enter Try.func31, Try.ntmps31
  go_wp2
  go_loopw [5] (fun i wr => ∃ k : Nat, k ≤ ps.length ∧ i = .int .i64 k ∧ Below w.heap.size w wr) (fun i _ => ps.length - (intOf i).toNat)
  case atStart => exact ⟨0, Nat.zero_le _, rfl, Below.refl _ _⟩
  case round =>
    obtain ⟨k, hk, rfl, hbel⟩ := hrel
    by_cases hlt : k < ps.length
    · obtain ⟨b1, o1, rfl, hcell1⟩ := hc1 (by omega)
      obtain ⟨b2, o2, rfl, hcell2⟩ := hc2 (by omega)
      obtain ⟨d1, d2⟩ := hcell1 k hlt
      obtain ⟨d3, d4⟩ := hcell2 k hlt
      have hb1 := World.block_lt_of_cell? w _ d1
      have hb2 := World.block_lt_of_cell? w _ d3
      have c1 := (hbel.cell (p := ⟨b1, o1 + k * 2, none⟩) hb1).trans d1
      have c2 := (hbel.cell (p := ⟨b1, o1 + k * 2 + 1, none⟩) hb1).trans d2
      have c3 := (hbel.cell (p := ⟨b2, o2 + k * 2, none⟩) hb2).trans d3
      have c4 := (hbel.cell (p := ⟨b2, o2 + k * 2 + 1, none⟩) hb2).trans d4
      clear hcell1 hcell2 hc1 hc2 d1 d2 d3 d4 hb1 hb2
      generalize ps.getD k (0, 0) = x at *
      obtain ⟨x1, x2⟩ := x
      simp only at c1 c2 c3 c4
      have j1 : (k : Int) < (ps.length : Int) := by omega
      go_wp2
      go_region_held3 (fun w' => w'.cell? ⟨b1, o1 + k * 2, none⟩ = some (.int .i64 x1) ∧ w'.cell? ⟨b1, o1 + k * 2 + 1, none⟩ = some (.int .i64 x2) ∧ w'.cell? ⟨b2, o2 + k * 2, none⟩ = some (.int .i64 x1) ∧ w'.cell? ⟨b2, o2 + k * 2 + 1, none⟩ = some (.int .i64 x2)) (first | exact ⟨c1, c2, c3, c4⟩ | exact ⟨e1, e2, e3, e4⟩) (first | (go_at_call 22; refine (eqFrac_same x1 x2 _).mono ?_; rintro e w2 ⟨rfl, bb⟩; have e1 := (bb.cell (p := ⟨b1, o1 + k * 2, none⟩) (World.block_lt_of_cell? wr _ c1)).trans c1; have e2 := (bb.cell (p := ⟨b1, o1 + k * 2 + 1, none⟩) (World.block_lt_of_cell? wr _ c2)).trans c2; have e3 := (bb.cell (p := ⟨b2, o2 + k * 2, none⟩) (World.block_lt_of_cell? wr _ c3)).trans c3; have e4 := (bb.cell (p := ⟨b2, o2 + k * 2 + 1, none⟩) (World.block_lt_of_cell? wr _ c4)).trans c4))
      have hbel2 := (hbel.drew).trans (bb.mono hbel.size)
      clear hbel bb c1 c2 c3 c4 e1 e2 e3 e4
      go_wp2
      go_roundw
      case rel => exact ⟨k + 1, by omega, by go_num, hbel2⟩
      case measure => simp [intOf]; omega
    · clear hc1 hc2
      go_wp2
      go_ret
      exact ⟨rfl, hbel⟩

/-- Its length taken off what is left. -/
def szF (n : Nat) (m : Int) : Int := if m - n < 0 then -1 else m - n
theorem szSegmentS_any (v : Value) (ps : List (Int × Int)) (m : Int) (w : World) (h : Pairs w v ps) (hm : 0 ≤ m ∧ m ≤ 1048576) :
    Calls Try.prog 32 #[v, .int .i64 m] w fun e w' => e = .returned (.int .i64 (szF ps.length m)) ∧ w = w' := by
  obtain ⟨hl, a, cap, rfl, hc⟩ := h
  clear hc
  by_cases h : m - ps.length < 0
  · go_enter Try.func32, Try.ntmps32
    go_wp2
    go_ret
    exact ⟨ret_int (by simp [szF, h]), rfl⟩
  · have h' : 0 ≤ m - (ps.length : Int) := by omega
    go_enter Try.func32, Try.ntmps32
    go_wp2
    go_ret
    exact ⟨ret_int (by simp [szF]; omega), rfl⟩
theorem szFracS_any (v : Value) (ps : List (Int × Int)) (m : Int) (w : World) (h : Pairs w v ps) (hm : 0 ≤ m ∧ m ≤ 1048576) :
    Calls Try.prog 27 #[v, .int .i64 m] w fun e w' => e = .returned (.int .i64 (szF ps.length m)) ∧ w = w' := by
  obtain ⟨hl, a, cap, rfl, hc⟩ := h
  clear hc
  by_cases h : m - ps.length < 0
  · go_enter Try.func27, Try.ntmps27
    go_wp2
    go_ret
    exact ⟨ret_int (by simp [szF, h]), rfl⟩
  · have h' : 0 ≤ m - (ps.length : Int) := by omega
    go_enter Try.func27, Try.ntmps27
    go_wp2
    go_ret
    exact ⟨ret_int (by simp [szF]; omega), rfl⟩

/-- An envelope's value: its start, its slice of segments, its release. -/
abbrev envV (s : Int) (v : Value) (r : Int) : Value := .agg #[.int .i64 s, v, .int .i64 r]

theorem szEnvelope_any (s : Int) (v : Value) (r : Int) (ps : List (Int × Int)) (m : Int) (w : World) (h : Pairs w v ps) (hm : 0 ≤ m ∧ m ≤ 1048576) :
    Calls Try.prog 12 #[envV s v r, .int .i64 m] w fun e w' => e = .returned (.int .i64 (szF ps.length m)) ∧ Below w.heap.size w w' := by
  have h0 := h.below ((Below.refl _ _).alloc (Nat.le_refl _) (.cells #[.int .i64 s, v, .int .i64 r] 38))
  obtain ⟨hl, a, cap, rfl, hc⟩ := h
  clear hc
  by_cases h : szF ps.length m < 0
  · go_enter Try.func12, Try.ntmps12
    go_wp2_with (go_at_call 32; refine (szSegmentS_any _ ps _ _ h0 hm).mono ?_; rintro e w' ⟨rfl, rfl⟩)
    go_ret
    refine ⟨ret_int ?_, (Below.refl _ _).alloc (Nat.le_refl _) _⟩
    unfold szF at *; split <;> simp_all
  · have h' : 0 ≤ szF ps.length m := by omega
    go_enter Try.func12, Try.ntmps12
    go_wp2_with (go_at_call 32; refine (szSegmentS_any _ ps _ _ h0 hm).mono ?_; rintro e w' ⟨rfl, rfl⟩)
    go_ret
    exact ⟨rfl, (Below.refl _ _).alloc (Nat.le_refl _) _⟩

theorem toEnvelope_any (s : Int) (v : Value) (r : Int) (ps : List (Int × Int)) (w : World) (h : Pairs w v ps) (hb : ps.length ≤ 1048576) :
    Calls Try.prog 14 #[envV s v r] w fun e w' => ∃ v', e = .returned (envV s v' r) ∧ OwnP 68 w' w.heap.size v' ps ∧ Below w.heap.size w w' := by
  go_enter Try.func14, Try.ntmps14
  go_wp2_with fail
  refine (toSegmentS_any v ps _ (h.below ?_) hb).mono ?_
  · repeat (first | exact Below.refl _ _ | refine Below.alloc ?_ (by simp <;> omega) _ | refine Below.setCell ?_ (by simp) _)
  rintro e w1 ⟨v', rfl, ov, b1⟩
  have kcw1wheapsize_0 : w1.cell? ⟨w.heap.size, 0, none⟩ = some (.int .i64 s) := (b1.cell (p := ⟨w.heap.size, 0, none⟩) (by simp <;> omega)).trans (by simp [go_sem])
  have kfw1wheapsize_0 : w1.frozen? ⟨w.heap.size, 0, none⟩ = false := (b1.frozen (p := ⟨w.heap.size, 0, none⟩) (by simp <;> omega)).trans (by simp [go_sem])
  have kcw1wheapsize_1 : w1.cell? ⟨w.heap.size, 1, none⟩ = some (v) := (b1.cell (p := ⟨w.heap.size, 1, none⟩) (by simp <;> omega)).trans (by simp [go_sem])
  have kfw1wheapsize_1 : w1.frozen? ⟨w.heap.size, 1, none⟩ = false := (b1.frozen (p := ⟨w.heap.size, 1, none⟩) (by simp <;> omega)).trans (by simp [go_sem])
  have kcw1wheapsize_2 : w1.cell? ⟨w.heap.size, 2, none⟩ = some (.int .i64 r) := (b1.cell (p := ⟨w.heap.size, 2, none⟩) (by simp <;> omega)).trans (by simp [go_sem])
  have kfw1wheapsize_2 : w1.frozen? ⟨w.heap.size, 2, none⟩ = false := (b1.frozen (p := ⟨w.heap.size, 2, none⟩) (by simp <;> omega)).trans (by simp [go_sem])
  have kcw1wheapsize1_0 : w1.cell? ⟨w.heap.size + 1, 0, none⟩ = some (.int .i64 0) := (b1.cell (p := ⟨w.heap.size + 1, 0, none⟩) (by simp <;> omega)).trans (by simp [go_sem])
  have kfw1wheapsize1_0 : w1.frozen? ⟨w.heap.size + 1, 0, none⟩ = false := (b1.frozen (p := ⟨w.heap.size + 1, 0, none⟩) (by simp <;> omega)).trans (by simp [go_sem])
  have kcw1wheapsize1_1 : w1.cell? ⟨w.heap.size + 1, 1, none⟩ = some (.slice none 0 0) := (b1.cell (p := ⟨w.heap.size + 1, 1, none⟩) (by simp <;> omega)).trans (by simp [go_sem])
  have kfw1wheapsize1_1 : w1.frozen? ⟨w.heap.size + 1, 1, none⟩ = false := (b1.frozen (p := ⟨w.heap.size + 1, 1, none⟩) (by simp <;> omega)).trans (by simp [go_sem])
  have kcw1wheapsize1_2 : w1.cell? ⟨w.heap.size + 1, 2, none⟩ = some (.int .i64 0) := (b1.cell (p := ⟨w.heap.size + 1, 2, none⟩) (by simp <;> omega)).trans (by simp [go_sem])
  have kfw1wheapsize1_2 : w1.frozen? ⟨w.heap.size + 1, 2, none⟩ = false := (b1.frozen (p := ⟨w.heap.size + 1, 2, none⟩) (by simp <;> omega)).trans (by simp [go_sem])
  have kcw1wheapsize2_0 : w1.cell? ⟨w.heap.size + 2, 0, none⟩ = some (.int .i64 s) := (b1.cell (p := ⟨w.heap.size + 2, 0, none⟩) (by simp <;> omega)).trans (by simp [go_sem])
  have kfw1wheapsize2_0 : w1.frozen? ⟨w.heap.size + 2, 0, none⟩ = false := (b1.frozen (p := ⟨w.heap.size + 2, 0, none⟩) (by simp <;> omega)).trans (by simp [go_sem])
  have kcw1wheapsize2_1 : w1.cell? ⟨w.heap.size + 2, 1, none⟩ = some (.slice none 0 0) := (b1.cell (p := ⟨w.heap.size + 2, 1, none⟩) (by simp <;> omega)).trans (by simp [go_sem])
  have kfw1wheapsize2_1 : w1.frozen? ⟨w.heap.size + 2, 1, none⟩ = false := (b1.frozen (p := ⟨w.heap.size + 2, 1, none⟩) (by simp <;> omega)).trans (by simp [go_sem])
  have kcw1wheapsize2_2 : w1.cell? ⟨w.heap.size + 2, 2, none⟩ = some (.int .i64 0) := (b1.cell (p := ⟨w.heap.size + 2, 2, none⟩) (by simp <;> omega)).trans (by simp [go_sem])
  have kfw1wheapsize2_2 : w1.frozen? ⟨w.heap.size + 2, 2, none⟩ = false := (b1.frozen (p := ⟨w.heap.size + 2, 2, none⟩) (by simp <;> omega)).trans (by simp [go_sem])
  have hz : w.heap.size + 2 < w1.heap.size := by have := b1.size; simp at this; omega
  have hbel : Below w.heap.size w w1 := by
    refine Below.trans ?_ (b1.mono (by simp <;> omega))
    repeat (first | exact Below.refl _ _ | refine Below.alloc ?_ (by simp <;> omega) _ | refine Below.setCell ?_ (by simp) _)
  obtain ⟨a, cap, rfl, _, hob⟩ := ov.shape1
  have ovb : ∀ g, a.map (·.block) = some g → w.heap.size + 3 ≤ g := fun g hg => by have := (ov.blk g (hob.trans hg)).1; simp at this; omega
  have OV := Lib.hid (ov.mono (base' := w.heap.size) (by simp <;> omega))
  have HB := Lib.hid hbel
  have HO := Lib.hid ovb
  clear b1 ov hbel ovb hob
  go_wp2
  refine bodyPost_ret (v := envV s (.slice a ps.length cap) r) (by simp [results, Try.results14, go_sem, *]) rfl ⟨_, rfl, ?_, ?_⟩
  · have keep : ∀ {w1 : World} (b j : Nat) (u : Value), b < w.heap.size + 3 → OwnP 68 w1 w.heap.size (.slice a ps.length cap) ps → OwnP 68 (w1.setCell ⟨b, j, none⟩ u) w.heap.size (.slice a ps.length cap) ps := by
      intro w1 b j u hb h
      refine h.keep (grown_set _ _ _ _) (fun g hg e => ?_)
      have := HO.out g (by cases a with
        | none => simp [Value.ownBlock] at hg
        | some x => simpa [Value.ownBlock] using hg)
      simp at e
      omega
    have hov := OV.out
    repeat (with_reducible refine keep _ _ _ ?_ ?_; · omega)
    exact hov
  · have hhb := HB.out
    repeat (with_reducible refine Below.setCell ?_ ?_ _; rotate_left; · (simp <;> omega))
    exact hhb

theorem szF_in {n : Nat} {m : Int} (h : ¬ szF n m < 0) (hm : m ≤ 1048576) : n ≤ 1048576 ∧ 0 ≤ szF n m ∧ szF n m ≤ 1048576 ∧ szF n m = m - n := by
  unfold szF at *; split at h <;> simp_all <;> omega

end Go.Proofs.Ytpngabaeekjhmaa
