/-
  Contracts: markSegmentS, heldSegmentS and their twins over fractions; markEnvelope, heldEnvelope, markTuning, heldTuning.
-/
import Derived.Test.YtpngabaeekjhmaaObj
import Derived.Test.YtpngabaeekjhmaaSeg
namespace Go.Proofs.Ytpngabaeekjhmaa
open Go.RowKit

/-- (m, m + 1), (m + 2, m + 3), .. : n pairs. -/
def seqP (m : Int) (n : Nat) : List (Int × Int) := (List.range n).map fun (i : Nat) => (m + 2 * (i : Int), m + 2 * (i : Int) + 1)
@[simp] theorem seqP_length (m : Int) (n : Nat) : (seqP m n).length = n := by simp [seqP]
theorem seqP_succ (m : Int) (n : Nat) : seqP m (n + 1) = seqP m n ++ [(m + 2 * (n : Int), m + 2 * (n : Int) + 1)] := by simp [seqP, List.range_succ]
theorem seqP_getD (m : Int) {n i : Nat} (h : i < n) : (seqP m n).getD i (0, 0) = (m + 2 * (i : Int), m + 2 * (i : Int) + 1) := by simp [seqP, List.getD, h]

set_option maxHeartbeats 1000000 in
theorem markSegmentS_any (v : Value) (ps : List (Int × Int)) (base : Nat) (m : Int) (w : World) (h : OwnP 68 w base v ps) (hm : 0 ≤ m ∧ m ≤ 1099511627776) (hb : ps.length ≤ 1099511627776) :
    Calls Try.prog 42 #[v, .int .i64 m] w fun e w' => e = .returned (.int .i64 (m + 2 * ps.length)) ∧ OwnP 68 w' base v (seqP m ps.length) ∧ w.grownBy w' v.ownBlock := by
  obtain ⟨a, cap, rfl, ha, hob⟩ := h.shape1
  have hlx := h.len
  go_enter Try.func42, Try.ntmps42
  go_wp2
  go_loopw [1, 5] (fun c i wr => ∃ k : Nat, k ≤ ps.length ∧ i = .int .i64 k ∧ c = .int .i64 (m + 2 * k) ∧ ∃ zs : List (Int × Int), Hid (zs.length = ps.length ∧ zs.take k = seqP m k) ∧ OwnP 68 wr base (.slice a ps.length cap) zs ∧ w.grownBy wr (Value.ownBlock (.slice a ps.length cap))) (fun _ i _ => ps.length - (intOf i).toNat)
  case atStart => exact ⟨0, Nat.zero_le _, rfl, by simp, ps, ⟨rfl, rfl⟩, h, grown_refl _ _⟩
  case round =>
    obtain ⟨k, hk, rfl, rfl, zs, hzs, hown, hgr⟩ := hrel
    by_cases hlt : k < ps.length
    · obtain ⟨g, rfl⟩ := ha (by omega)
      have hkz : k < zs.length := by have := hzs.out.1; omega
      have d1 := (hown.cell k hkz).1
      have d2 := (hown.cell k hkz).2
      have f1 := hown.unfrozen (k * 2)
      have f2 := hown.unfrozen (k * 2 + 1)
      have t2 : (zs.set k (m + 2 * (k : Int), m + 2 * (k : Int) + 1)).take (k + 1) = zs.take k ++ [(m + 2 * (k : Int), m + 2 * (k : Int) + 1)] := by
        have hk' : k < (zs.set k (m + 2 * (k : Int), m + 2 * (k : Int) + 1)).length := by simp; omega
        rw [List.take_succ_eq_append_getElem hk', List.take_set, List.set_eq_of_length_le (by simp; omega)]; simp
      have T2 := Lib.hid t2; clear t2
      generalize zs.getD k (0, 0) = z at *
      have hown' := hown.set k (m + 2 * (k : Int), m + 2 * (k : Int) + 1)
      have hgr' := grown_trans (grown_trans hgr (grown_set wr g (k * 2) (.int .i64 (m + 2 * k)))) (grown_set _ g (k * 2 + 1) (.int .i64 (m + 2 * k + 1)))
      have HO := Lib.hid hown'; have HG := Lib.hid hgr'
      clear hown hgr ha hob hown' hgr' hkz h
      go_wp2
      go_roundw
      case rel => exact ⟨k + 1, by omega, by go_num, by go_num, _, ⟨by have := hzs.out.1; simpa using this, by rw [T2.out, hzs.out.2, seqP_succ]⟩, HO.out, HG.out⟩
      case measure => simp [intOf]; omega
    · have e : k = ps.length := by omega
      have hz : zs = seqP m ps.length := by
        have h1 := hzs.out.1
        have h2 := hzs.out.2
        rwa [List.take_of_length_le (by omega), e] at h2
      have HE := Lib.hid e; clear e
      clear ha hob h
      go_wp2
      go_ret
      exact ⟨ret_int (by rw [HE.out]), hz ▸ hown, hgr⟩
set_option maxHeartbeats 1000000 in
theorem markFracS_any (v : Value) (ps : List (Int × Int)) (base : Nat) (m : Int) (w : World) (h : OwnP 29 w base v ps) (hm : 0 ≤ m ∧ m ≤ 1099511627776) (hb : ps.length ≤ 1099511627776) :
    Calls Try.prog 52 #[v, .int .i64 m] w fun e w' => e = .returned (.int .i64 (m + 2 * ps.length)) ∧ OwnP 29 w' base v (seqP m ps.length) ∧ w.grownBy w' v.ownBlock := by
  obtain ⟨a, cap, rfl, ha, hob⟩ := h.shape1
  have hlx := h.len
  go_enter Try.func52, Try.ntmps52
  go_wp2
  go_loopw [1, 5] (fun c i wr => ∃ k : Nat, k ≤ ps.length ∧ i = .int .i64 k ∧ c = .int .i64 (m + 2 * k) ∧ ∃ zs : List (Int × Int), Hid (zs.length = ps.length ∧ zs.take k = seqP m k) ∧ OwnP 29 wr base (.slice a ps.length cap) zs ∧ w.grownBy wr (Value.ownBlock (.slice a ps.length cap))) (fun _ i _ => ps.length - (intOf i).toNat)
  case atStart => exact ⟨0, Nat.zero_le _, rfl, by simp, ps, ⟨rfl, rfl⟩, h, grown_refl _ _⟩
  case round =>
    obtain ⟨k, hk, rfl, rfl, zs, hzs, hown, hgr⟩ := hrel
    by_cases hlt : k < ps.length
    · obtain ⟨g, rfl⟩ := ha (by omega)
      have hkz : k < zs.length := by have := hzs.out.1; omega
      have d1 := (hown.cell k hkz).1
      have d2 := (hown.cell k hkz).2
      have f1 := hown.unfrozen (k * 2)
      have f2 := hown.unfrozen (k * 2 + 1)
      have t2 : (zs.set k (m + 2 * (k : Int), m + 2 * (k : Int) + 1)).take (k + 1) = zs.take k ++ [(m + 2 * (k : Int), m + 2 * (k : Int) + 1)] := by
        have hk' : k < (zs.set k (m + 2 * (k : Int), m + 2 * (k : Int) + 1)).length := by simp; omega
        rw [List.take_succ_eq_append_getElem hk', List.take_set, List.set_eq_of_length_le (by simp; omega)]; simp
      have T2 := Lib.hid t2; clear t2
      generalize zs.getD k (0, 0) = z at *
      have hown' := hown.set k (m + 2 * (k : Int), m + 2 * (k : Int) + 1)
      have hgr' := grown_trans (grown_trans hgr (grown_set wr g (k * 2) (.int .i64 (m + 2 * k)))) (grown_set _ g (k * 2 + 1) (.int .i64 (m + 2 * k + 1)))
      have HO := Lib.hid hown'; have HG := Lib.hid hgr'
      clear hown hgr ha hob hown' hgr' hkz h
      go_wp2
      go_roundw
      case rel => exact ⟨k + 1, by omega, by go_num, by go_num, _, ⟨by have := hzs.out.1; simpa using this, by rw [T2.out, hzs.out.2, seqP_succ]⟩, HO.out, HG.out⟩
      case measure => simp [intOf]; omega
    · have e : k = ps.length := by omega
      have hz : zs = seqP m ps.length := by
        have h1 := hzs.out.1
        have h2 := hzs.out.2
        rwa [List.take_of_length_le (by omega), e] at h2
      have HE := Lib.hid e; clear e
      clear ha hob h
      go_wp2
      go_ret
      exact ⟨ret_int (by rw [HE.out]), hz ▸ hown, hgr⟩

set_option maxHeartbeats 1000000 in
theorem heldSegmentS_any (v : Value) (n : Nat) (m : Int) (w : World) (h : Pairs w v (seqP m n)) (hm : 0 ≤ m ∧ m ≤ 1099511627776) (hb : n ≤ 1099511627776) :
    Calls Try.prog 43 #[v, .int .i64 m] w fun e w' => e = .returned (.int .i64 (m + 2 * n)) ∧ Below w.heap.size w w' := by
  obtain ⟨hl, a, cap, rfl, hc⟩ := h
  have hlen := seqP_length m n
  rw [hlen] at hc hl ⊢
  clear hlen
  go_enter Try.func43, Try.ntmps43
  go_wp2
  go_loopw [1, 5] (fun c i wr => ∃ k : Nat, k ≤ n ∧ i = .int .i64 k ∧ c = .int .i64 (m + 2 * k) ∧ ∃ q, wr = w.drewN q) (fun _ i _ => n - (intOf i).toNat)
  case atStart => exact ⟨0, Nat.zero_le _, rfl, by simp, 0, rfl⟩
  case round =>
    obtain ⟨k, hk, rfl, rfl, q, rfl⟩ := hrel
    by_cases hlt : k < n
    · obtain ⟨b, o, rfl, hcell⟩ := hc (by omega)
      have d1 := (hcell k hlt).1
      have d2 := (hcell k hlt).2
      rw [seqP_getD m hlt] at d1 d2
      simp only at d1 d2
      have j1 : (k : Int) < (n : Int) := by omega
      clear hcell hc
      go_wp2
      first
        | (go_quiet (fail); go_wp2)
        | skip
      first
        | (go_quiet (fail); go_wp2)
        | skip
      go_roundw
      case rel => exact ⟨k + 1, by omega, by go_num, by go_num, _, by first | rfl | simp⟩
      case measure => simp [intOf]; omega
    · have e : k = n := by omega
      have HE := Lib.hid e; clear e
      clear hc
      go_wp2
      go_ret
      exact ⟨ret_int (by rw [HE.out]), below_drewN (Below.refl _ _) _⟩
set_option maxHeartbeats 1000000 in
theorem heldFracS_any (v : Value) (n : Nat) (m : Int) (w : World) (h : Pairs w v (seqP m n)) (hm : 0 ≤ m ∧ m ≤ 1099511627776) (hb : n ≤ 1099511627776) :
    Calls Try.prog 53 #[v, .int .i64 m] w fun e w' => e = .returned (.int .i64 (m + 2 * n)) ∧ Below w.heap.size w w' := by
  obtain ⟨hl, a, cap, rfl, hc⟩ := h
  have hlen := seqP_length m n
  rw [hlen] at hc hl ⊢
  clear hlen
  go_enter Try.func53, Try.ntmps53
  go_wp2
  go_loopw [1, 5] (fun c i wr => ∃ k : Nat, k ≤ n ∧ i = .int .i64 k ∧ c = .int .i64 (m + 2 * k) ∧ ∃ q, wr = w.drewN q) (fun _ i _ => n - (intOf i).toNat)
  case atStart => exact ⟨0, Nat.zero_le _, rfl, by simp, 0, rfl⟩
  case round =>
    obtain ⟨k, hk, rfl, rfl, q, rfl⟩ := hrel
    by_cases hlt : k < n
    · obtain ⟨b, o, rfl, hcell⟩ := hc (by omega)
      have d1 := (hcell k hlt).1
      have d2 := (hcell k hlt).2
      rw [seqP_getD m hlt] at d1 d2
      simp only at d1 d2
      have j1 : (k : Int) < (n : Int) := by omega
      clear hcell hc
      go_wp2
      first
        | (go_quiet (fail); go_wp2)
        | skip
      first
        | (go_quiet (fail); go_wp2)
        | skip
      go_roundw
      case rel => exact ⟨k + 1, by omega, by go_num, by go_num, _, by first | rfl | simp⟩
      case measure => simp [intOf]; omega
    · have e : k = n := by omega
      have HE := Lib.hid e; clear e
      clear hc
      go_wp2
      go_ret
      exact ⟨ret_int (by rw [HE.out]), below_drewN (Below.refl _ _) _⟩

theorem markEnvelope_any (s : Int) (v : Value) (r : Int) (ps : List (Int × Int)) (base : Nat) (m : Int) (w : World) (h : OwnP 68 w base v ps) (hm : 0 ≤ m ∧ m ≤ 1099511627776) (hb : ps.length ≤ 1099511627776) :
    Calls Try.prog 18 #[envV s v r, .int .i64 m] w fun e w' => e = .returned (.int .i64 (m + 2 * ps.length)) ∧ OwnP 68 w' base v (seqP m ps.length) ∧ w.grownBy w' v.ownBlock := by
  have b0 : Below w.heap.size w (w.alloc (.cells #[.int .i64 s, v, .int .i64 r] 42)) := (Below.refl _ _).alloc (Nat.le_refl _) _
  have h0 := h.below b0
  have g0 := grown_of_below (r := v.ownBlock) b0
  go_enter Try.func18, Try.ntmps18
  go_wp2_with fail
  refine (markSegmentS_any v ps base m _ h0 hm hb).mono ?_; rintro e w1 ⟨rfl, o1, g1⟩
  have G := grown_trans g0 g1
  clear g0 g1 h0 b0 h
  go_wp2_with fail
  go_ret
  exact ⟨rfl, o1, G⟩
theorem heldEnvelope_any (s : Int) (v : Value) (r : Int) (n : Nat) (m : Int) (w : World) (h : Pairs w v (seqP m n)) (hm : 0 ≤ m ∧ m ≤ 1099511627776) (hb : n ≤ 1099511627776) :
    Calls Try.prog 19 #[envV s v r, .int .i64 m] w fun e w' => e = .returned (.int .i64 (m + 2 * n)) ∧ Below w.heap.size w w' := by
  have b0 : Below w.heap.size w (w.alloc (.cells #[.int .i64 s, v, .int .i64 r] 42)) := (Below.refl _ _).alloc (Nat.le_refl _) _
  go_enter Try.func19, Try.ntmps19
  go_wp2_with fail
  refine (heldSegmentS_any v n m _ (h.below b0) hm hb).mono ?_; rintro e w1 ⟨rfl, b1⟩
  have B := b0.trans (b1.mono b0.size)
  clear b0 b1 h
  have hp : 0 ≤ m + 2 * (n : Int) := by omega
  go_wp2_with fail
  go_ret
  exact ⟨rfl, B⟩

theorem markEnvelope_obj (s : Int) (v : Value) (r : Int) (ps : List (Int × Int)) (lo hi : Nat) (m : Int) (w : World) (h : Obj lo hi (PairsR 68 lo hi v ps) w) (hm : 0 ≤ m ∧ m ≤ 1099511627776) (hb : ps.length ≤ 1099511627776) :
    Calls Try.prog 18 #[envV s v r, .int .i64 m] w fun e w' => e = .returned (.int .i64 (m + 2 * ps.length)) ∧ Obj lo hi (PairsR 68 lo hi v (seqP m ps.length)) w' ∧ Chg lo hi w w' :=
  (markEnvelope_any s v r ps lo m w h.now.1 hm hb).mono fun _ _ ⟨he, o, g⟩ =>
    ⟨he, PairsR.obj ⟨o, h.now.2⟩ (Nat.le_trans h.le g.size), Chg.of_grown g fun k hk => ⟨(h.now.1.blk k hk).1, h.now.2 k hk⟩⟩

theorem markTuning_any (bn bd on od : Int) (v : Value) (ps : List (Int × Int)) (base : Nat) (m : Int) (w : World) (h : OwnP 29 w base v ps) (hm : 0 ≤ m ∧ m ≤ 1099511627776) (hb : ps.length ≤ 1099511627776) :
    Calls Try.prog 25 #[.agg #[.int .i64 bn, .int .i64 bd, .int .i64 on, .int .i64 od, v], .int .i64 m] w fun e w' => e = .returned (.int .i64 (m + 2 * ps.length)) ∧ OwnP 29 w' base v (seqP m ps.length) ∧ w.grownBy w' v.ownBlock := by
  have b0 : Below w.heap.size w (w.alloc (.cells #[.int .i64 bn, .int .i64 bd, .int .i64 on, .int .i64 od, v] 32)) := (Below.refl _ _).alloc (Nat.le_refl _) _
  have h0 := h.below b0
  have g0 := grown_of_below (r := v.ownBlock) b0
  go_enter Try.func25, Try.ntmps25
  go_wp2_with fail
  refine (markFracS_any v ps base m _ h0 hm hb).mono ?_; rintro e w1 ⟨rfl, o1, g1⟩
  have G := grown_trans g0 g1
  clear g0 g1 h0 b0 h
  go_wp2_with fail
  go_ret
  exact ⟨rfl, o1, G⟩
theorem heldTuning_any (bn bd on od : Int) (v : Value) (n : Nat) (m : Int) (w : World) (h : Pairs w v (seqP m n)) (hm : 0 ≤ m ∧ m ≤ 1099511627776) (hb : n ≤ 1099511627776) :
    Calls Try.prog 26 #[.agg #[.int .i64 bn, .int .i64 bd, .int .i64 on, .int .i64 od, v], .int .i64 m] w fun e w' => e = .returned (.int .i64 (m + 2 * n)) ∧ Below w.heap.size w w' := by
  have b0 : Below w.heap.size w (w.alloc (.cells #[.int .i64 bn, .int .i64 bd, .int .i64 on, .int .i64 od, v] 32)) := (Below.refl _ _).alloc (Nat.le_refl _) _
  go_enter Try.func26, Try.ntmps26
  go_wp2_with fail
  refine (heldFracS_any v n m _ (h.below b0) hm hb).mono ?_; rintro e w1 ⟨rfl, b1⟩
  have B := b0.trans (b1.mono b0.size)
  clear b0 b1 h
  have hp : 0 ≤ m + 2 * (n : Int) := by omega
  go_wp2_with fail
  go_ret
  exact ⟨rfl, B⟩
theorem markTuning_obj (bn bd on od : Int) (v : Value) (ps : List (Int × Int)) (lo hi : Nat) (m : Int) (w : World) (h : Obj lo hi (PairsR 29 lo hi v ps) w) (hm : 0 ≤ m ∧ m ≤ 1099511627776) (hb : ps.length ≤ 1099511627776) :
    Calls Try.prog 25 #[.agg #[.int .i64 bn, .int .i64 bd, .int .i64 on, .int .i64 od, v], .int .i64 m] w fun e w' => e = .returned (.int .i64 (m + 2 * ps.length)) ∧ Obj lo hi (PairsR 29 lo hi v (seqP m ps.length)) w' ∧ Chg lo hi w w' :=
  (markTuning_any bn bd on od v ps lo m w h.now.1 hm hb).mono fun _ _ ⟨he, o, g⟩ =>
    ⟨he, PairsR.obj ⟨o, h.now.2⟩ (Nat.le_trans h.le g.size), Chg.of_grown g fun k hk => ⟨(h.now.1.blk k hk).1, h.now.2 k hk⟩⟩

end Go.Proofs.Ytpngabaeekjhmaa
