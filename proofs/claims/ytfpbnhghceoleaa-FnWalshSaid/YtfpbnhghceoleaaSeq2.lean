/-
  Contracts: l13Ok, isWave, ValidTable twice, eqInt64S, toInt64S, markInt64S, heldInt64S.
-/
import Derived.Test.YtfpbnhghceoleaaSeq
namespace Go.Proofs.Ytfpbnhghceoleaa
open Go.RowKit

/-- A table. -/
def waveB (xs : List Int) : Bool := szB xs.length && samB xs

theorem l13Ok_any (v : Value) (xs : List Int) (w : World) (h : Ints w v xs) : Calls Try.prog 66 #[v] w fun e w' => e = .returned (.bool (waveB xs)) ∧ w = w' := by
  obtain ⟨hl, a, cap, rfl, hc⟩ := h
  go_enter Try.func66, Try.ntmps66
  go_wp2
  go_loop [3] (fun i => ∃ k : Nat, k ≤ xs.length ∧ i = .int .i64 k ∧ Hid (samB (xs.take k) = true)) (fun i => xs.length - (intOf i).toNat)
  case atStart => exact ⟨0, Nat.zero_le _, rfl, rfl⟩
  case round =>
    obtain ⟨k, hk, rfl, hs⟩ := hrel
    by_cases hlt : k < xs.length
    · obtain ⟨b, off, rfl, hcell⟩ := hc (by omega)
      have hc1 := hcell k hlt
      clear hcell hc
      have hst := samB_take hlt
      have hsf := samB_false hlt
      generalize hx : xs.getD k 0 = x at *
      have HX := Lib.hid hx; clear hx
      have HT := Lib.hid hst; clear hst
      have HF := Lib.hid hsf; clear hsf
      cases h1 : inB x (-2147483648) 2147483647
      · go_wp2_with (go_at_call 67; refine (l01Sample_any _ _).mono ?_; rintro e w' ⟨rfl, rfl⟩)
        go_ret
        exact ⟨ret_bool (by rw [waveB, HF.out h1]; simp), rfl⟩
      · go_wp2_with (go_at_call 67; refine (l01Sample_any _ _).mono ?_; rintro e w' ⟨rfl, rfl⟩)
        go_round
        case rel => exact ⟨k + 1, by omega, by go_num, by unfold Hid; rw [HT.out, hs.out, h1]; rfl⟩
        case measure => simp [intOf]; omega
    · go_wp2_with (go_at_call 77; refine (l13Size_any _ _).mono ?_; rintro e w' ⟨rfl, rfl⟩)
      go_ret
      exact ⟨ret_bool (by have := hs.out; rw [List.take_of_length_le (by omega)] at this; simp [waveB, this]), rfl⟩

theorem isWave_any (v : Value) (xs : List Int) (w : World) (h : Ints w v xs) : Calls Try.prog 71 #[v] w fun e w' => e = .returned (.bool (waveB xs)) ∧ w = w' := by
  cases h1 : szB xs.length
  · go_enter Try.func71, Try.ntmps71
    go_wp2_with (first | (go_at_call 76; refine (size_any _ _ _ h).mono ?_; rintro e w' ⟨rfl, rfl⟩) | (go_at_call 80; refine (isSize_any _ _).mono ?_; rintro e w' ⟨rfl, rfl⟩))
    go_ret
    exact ⟨ret_bool (by simp [waveB, h1]), rfl⟩
  · go_enter Try.func71, Try.ntmps71
    go_wp2_with (first | (go_at_call 76; refine (size_any _ _ _ h).mono ?_; rintro e w' ⟨rfl, rfl⟩) | (go_at_call 80; refine (isSize_any _ _).mono ?_; rintro e w' ⟨rfl, rfl⟩) | (go_at_call 112; refine (areSamples_any _ _ _ h).mono ?_; rintro e w' ⟨rfl, rfl⟩))
    go_ret
    exact ⟨ret_bool (by simp [waveB, h1]), rfl⟩

theorem eqInt64S_any (v1 v2 : Value) (xs ys : List Int) (w : World) (h1 : Ints w v1 xs) (h2 : Ints w v2 ys) :
    Calls Try.prog 23 #[v1, v2] w fun e w' => e = .returned (.bool (decide (xs = ys))) ∧ ∃ n, w' = w.drewN n := by
  obtain ⟨hl1, a1, cap1, rfl, hc1⟩ := h1
  obtain ⟨hl2, a2, cap2, rfl, hc2⟩ := h2
  obtain ⟨r, hr⟩ : ∃ r, r = decide (xs = ys) := ⟨_, rfl⟩
  rw [← hr]
  have HR := Lib.hid hr; clear hr
  by_cases hlen : xs.length = ys.length
  · have e1 : ((xs.length : Int) != (ys.length : Int)) = false := by simp; omega
    have e2 : (xs.length != ys.length) = false := by simp; omega
    have HL := Lib.hid hlen; clear hlen
    go_enter Try.func23, Try.ntmps23
    go_wp2
    go_loopw [5] (fun i wr => ∃ k : Nat, k ≤ xs.length ∧ i = .int .i64 k ∧ Hid (xs.take k = ys.take k) ∧ ∃ n, wr = w.drewN n) (fun i _ => xs.length - (intOf i).toNat)
    case atStart => exact ⟨0, Nat.zero_le _, rfl, rfl, 0, rfl⟩
    case round =>
      obtain ⟨k, hk, rfl, hs, n, rfl⟩ := hrel
      by_cases hlt : k < xs.length
      · have hlt2 : k < ys.length := by have := HL.out; omega
        obtain ⟨b1, o1, rfl, hcell1⟩ := hc1 (by omega)
        obtain ⟨b2, o2, rfl, hcell2⟩ := hc2 (by omega)
        have d1 := hcell1 k hlt
        have d2 := hcell2 k hlt2
        clear hcell1 hcell2 hc1 hc2
        have t1 : xs.take (k + 1) = xs.take k ++ [xs.getD k 0] := by rw [List.take_succ_eq_append_getElem hlt]; simp [List.getD, hlt]
        have t2 : ys.take (k + 1) = ys.take k ++ [ys.getD k 0] := by rw [List.take_succ_eq_append_getElem hlt2]; simp [List.getD, hlt2]
        generalize hx : xs.getD k 0 = x at *
        generalize hy : ys.getD k 0 = y at *
        have HX := Lib.hid hx; clear hx
        have HY := Lib.hid hy; clear hy
        have T1 := Lib.hid t1; clear t1
        have T2 := Lib.hid t2; clear t2
        have j1 : (k : Int) < (xs.length : Int) := by omega
        have j2 : (k : Int) < (ys.length : Int) := by omega
        by_cases hxy : x = y
        · subst hxy
          go_wp2
          go_quiet (fail)
          go_wp2
          go_roundw
          case rel => exact ⟨k + 1, by omega, by go_num, by unfold Hid; rw [T1.out, T2.out, hs.out], n + nq, by simp⟩
          case measure => simp [intOf]; omega
        · have e3 : (x != y) = true := by simpa using hxy
          go_wp2
          go_quiet (fail)
          go_wp2
          go_ret
          refine ⟨ret_bool ?_, n + nq, by simp⟩
          rw [HR.out]
          refine (decide_eq_false ?_).symm
          intro he
          apply hxy
          rw [← HX.out, ← HY.out, he]
      · go_wp2
        go_ret
        refine ⟨ret_bool ?_, n, rfl⟩
        rw [HR.out]
        refine (decide_eq_true ?_).symm
        have := hs.out
        rwa [List.take_of_length_le (by omega), List.take_of_length_le (by have := HL.out; omega)] at this
  · have e1 : ((xs.length : Int) != (ys.length : Int)) = true := by simp; omega
    have e2 : (xs.length != ys.length) = true := by simp; omega
    have hne : Hid (xs ≠ ys) := fun h => hlen (by rw [h])
    clear hlen
    go_enter Try.func23, Try.ntmps23
    go_wp2
    go_ret
    exact ⟨ret_bool (by rw [HR.out]; exact (decide_eq_false hne.out).symm), 0, rfl⟩

theorem infoI : (Try.prog.info? 2).map (fun i => (i.zero, i.size, i.bytes)) = some (some (.int .i64 0), 1, 8) := by kernel_rfl

theorem toInt64S_any (v : Value) (xs : List Int) (w : World) (h : Ints w v xs) (hb : xs.length ≤ 1048576) :
    Calls Try.prog 21 #[v] w fun e w' => ∃ v', e = .returned v' ∧ Own w' w.heap.size v' xs ∧ Below w.heap.size w w' := by
  obtain ⟨hl, a, cap, rfl, hc⟩ := h
  obtain ⟨i0, hi, hz0, hz1, hz2⟩ := info_parts infoI
  go_enter Try.func21, Try.ntmps21
  go_wp2_with (at_make; refine wpList_make_full _ rfl (.tmp 6) (.tmp 6) 30 rfl w.heap.size 2 i0 (.int .i64 0) 1 Try.underlying30 hi hz0 hz1 .i64 .i64 _ _ xs.length rfl rfl rfl rfl (by rw [hz2]; omega) (by unfold maxLen; omega) (Nat.le_refl _) ?_; intro w1 hown hgrow)
  have hO : Own w1 w.heap.size (.slice (some ⟨w.heap.size, 0, none⟩) xs.length xs.length) (List.replicate xs.length 0) := by
    unfold Own; have := hown; simp only [Value.cells, Nat.mul_one] at this; rw [toList_madeCells_one] at this; simpa using this
  have hB : Below w.heap.size w w1 := (Below.refl _ _).grown hgrow (Nat.le_refl _) (fun k hk => by cases hk)
  clear hown hgrow hi hz0 hz1 hz2
  go_loopw [4] (fun i wr => ∃ k : Nat, k ≤ xs.length ∧ i = .int .i64 k ∧ ∃ zs : List Int, Hid (zs.length = xs.length ∧ zs.take k = xs.take k) ∧ Own wr w.heap.size (.slice (some ⟨w.heap.size, 0, none⟩) xs.length xs.length) zs ∧ Below w.heap.size w wr) (fun i _ => xs.length - (intOf i).toNat)
  case atStart => exact ⟨0, Nat.zero_le _, rfl, List.replicate xs.length 0, ⟨by simp, rfl⟩, hO, hB⟩
  case round =>
    obtain ⟨k, hk, rfl, zs, hzs, hown, hbel⟩ := hrel
    by_cases hlt : k < xs.length
    · obtain ⟨b, o, rfl, hcell⟩ := hc (by omega)
      have d1 := hcell k hlt
      have d2 := (hbel.cell (p := ⟨b, o + k, none⟩) (World.block_lt_of_cell? w _ d1)).trans d1
      have d3 := hown.cell k (by have := hzs.out.1; omega)
      have d4 := hown.unfrozen k
      have t1 : xs.take (k + 1) = xs.take k ++ [xs.getD k 0] := by rw [List.take_succ_eq_append_getElem hlt]; simp [List.getD, hlt]
      have t2 : ∀ x, (zs.set k x).take (k + 1) = zs.take k ++ [x] := by
        intro x
        have hk' : k < (zs.set k x).length := by have := hzs.out.1; simp; omega
        rw [List.take_succ_eq_append_getElem hk', List.take_set, List.set_eq_of_length_le (by simp; omega)]; simp
      clear hcell hc d1
      generalize xs.getD k 0 = x at *
      generalize zs.getD k 0 = z at *
      have T1 := Lib.hid t1; clear t1
      have T2 := Lib.hid (t2 x); clear t2
      have hown' := hown.set k x
      have hbel' := hbel.setCell (p := ⟨w.heap.size, k, none⟩) (Nat.le_refl _) (.int .i64 x)
      clear hown hbel
      go_wp2
      go_roundw
      case rel => exact ⟨k + 1, by omega, by go_num, _, ⟨by have := hzs.out.1; simpa using this, by rw [T1.out, T2.out, hzs.out.2]⟩, hown', hbel'⟩
      case measure => simp [intOf]; omega
    · have e : zs = xs := by
        have h1 := hzs.out.1
        have h2 := hzs.out.2
        rwa [List.take_of_length_le (by omega), List.take_of_length_le (by omega)] at h2
      go_wp2
      go_ret
      exact ⟨_, rfl, e ▸ hown, hbel⟩

theorem markInt64S_any (v : Value) (xs : List Int) (base : Nat) (m : Int) (w : World) (h : Own w base v xs) (hm : 0 ≤ m ∧ m ≤ 1099511627776) (hb : xs.length ≤ 1099511627776) :
    Calls Try.prog 24 #[v, .int .i64 m] w fun e w' => e = .returned (.int .i64 (m + xs.length)) ∧ Own w' base v (seqI m xs.length) ∧ w.grownBy w' v.ownBlock := by
  obtain ⟨a, cap, rfl, ha, hob⟩ := h.shape1
  have hlx := h.len
  go_enter Try.func24, Try.ntmps24
  go_wp2
  go_loopw [1, 5] (fun c i wr => ∃ k : Nat, k ≤ xs.length ∧ i = .int .i64 k ∧ c = .int .i64 (m + k) ∧ ∃ zs : List Int, Hid (zs.length = xs.length ∧ zs.take k = seqI m k) ∧ Own wr base (.slice a xs.length cap) zs ∧ w.grownBy wr (Value.ownBlock (.slice a xs.length cap))) (fun _ i _ => xs.length - (intOf i).toNat)
  case atStart => exact ⟨0, Nat.zero_le _, rfl, by simp, xs, ⟨rfl, rfl⟩, h, grown_refl _ _⟩
  case round =>
    obtain ⟨k, hk, rfl, rfl, zs, hzs, hown, hgr⟩ := hrel
    by_cases hlt : k < xs.length
    · obtain ⟨g, rfl⟩ := ha (by omega)
      have d3 := hown.cell k (by have := hzs.out.1; omega)
      have d4 := hown.unfrozen k
      have t2 : (zs.set k (m + k)).take (k + 1) = zs.take k ++ [m + (k : Int)] := by
        have hk' : k < (zs.set k (m + k)).length := by have := hzs.out.1; simp; omega
        rw [List.take_succ_eq_append_getElem hk', List.take_set, List.set_eq_of_length_le (by simp; omega)]; simp
      have T2 := Lib.hid t2; clear t2
      generalize zs.getD k 0 = z at *
      have hown' := hown.set k (m + k)
      have hgr' := grown_trans hgr (grown_set wr g k (.int .i64 (m + k)))
      clear hown hgr ha hob
      go_wp2
      go_roundw
      case rel => exact ⟨k + 1, by omega, by go_num, by go_num, _, ⟨by have := hzs.out.1; simpa using this, by rw [T2.out, hzs.out.2, seqI_succ]⟩, hown', hgr'⟩
      case measure => simp [intOf]; omega
    · have e : k = xs.length := by omega
      have hz : zs = seqI m xs.length := by
        have h1 := hzs.out.1
        have h2 := hzs.out.2
        rwa [List.take_of_length_le (by omega), e] at h2
      have HE := Lib.hid e; clear e
      clear ha hob
      go_wp2
      go_ret
      exact ⟨ret_int (by rw [HE.out]), hz ▸ hown, hgr⟩

theorem heldInt64S_any (v : Value) (n : Nat) (m : Int) (w : World) (h : Ints w v (seqI m n)) (hm : 0 ≤ m ∧ m ≤ 1099511627776) (hb : n ≤ 1099511627776) :
    Calls Try.prog 25 #[v, .int .i64 m] w fun e w' => e = .returned (.int .i64 (m + n)) ∧ ∃ k, w' = w.drewN k := by
  obtain ⟨hl, a, cap, rfl, hc⟩ := h
  have hlen := seqI_length m n
  rw [hlen] at hc hl ⊢
  clear hlen
  go_enter Try.func25, Try.ntmps25
  go_wp2
  go_loopw [1, 5] (fun c i wr => ∃ k : Nat, k ≤ n ∧ i = .int .i64 k ∧ c = .int .i64 (m + k) ∧ ∃ q, wr = w.drewN q) (fun _ i _ => n - (intOf i).toNat)
  case atStart => exact ⟨0, Nat.zero_le _, rfl, by simp, 0, rfl⟩
  case round =>
    obtain ⟨k, hk, rfl, rfl, q, rfl⟩ := hrel
    by_cases hlt : k < n
    · obtain ⟨b, o, rfl, hcell⟩ := hc (by omega)
      have d1 := hcell k hlt
      rw [seqI_getD m hlt] at d1
      have j1 : (k : Int) < (n : Int) := by omega
      clear hcell hc
      go_wp2
      first
        | (go_quiet (fail); go_wp2)
        | skip
      go_roundw
      case rel => exact ⟨k + 1, by omega, by go_num, by go_num, _, by first | rfl | simp⟩
      case measure => simp [intOf]; omega
    · have e : k = n := by omega
      have HE := Lib.hid e; clear e
      clear hc
      go_wp2
      go_ret
      exact ⟨ret_int (by rw [HE.out]), q, rfl⟩



theorem eqInt64S_same (v1 v2 : Value) (xs : List Int) (w : World) (h1 : Ints w v1 xs) (h2 : Ints w v2 xs) :
    Calls Try.prog 23 #[v1, v2] w fun e w' => e = .returned (.bool true) ∧ Below w.heap.size w w' :=
  (eqInt64S_any v1 v2 xs xs w h1 h2).mono fun _ _ ⟨he, k, hk⟩ => ⟨by rw [he]; simp, by rw [hk]; exact below_drewN (Below.refl _ _) _⟩
theorem heldInt64S_b (v : Value) (n : Nat) (m : Int) (w : World) (h : Ints w v (seqI m n)) (hm : 0 ≤ m ∧ m ≤ 1099511627776) (hb : n ≤ 1099511627776) :
    Calls Try.prog 25 #[v, .int .i64 m] w fun e w' => e = .returned (.int .i64 (m + n)) ∧ Below w.heap.size w w' :=
  (heldInt64S_any v n m w h hm hb).mono fun _ _ ⟨he, k, hk⟩ => ⟨he, by rw [hk]; exact below_drewN (Below.refl _ _) _⟩

end Go.Proofs.Ytfpbnhghceoleaa
