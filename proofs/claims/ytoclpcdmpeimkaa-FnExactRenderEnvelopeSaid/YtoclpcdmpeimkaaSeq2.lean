/-
  Contracts: l13Ok, isWave, ValidTable twice, eqInt64S, toInt64S, markInt64S, heldInt64S.
-/
import Derived.Test.YtoclpcdmpeimkaaSeq
namespace Go.Proofs.Ytoclpcdmpeimkaa
open Go.RowKit

/-- A table. -/
def waveB (xs : List Int) : Bool := szB xs.length && samB xs





theorem eqInt64S_any (v1 v2 : Value) (xs ys : List Int) (w : World) (h1 : Ints w v1 xs) (h2 : Ints w v2 ys) :
    Calls Try.prog 21 #[v1, v2] w fun e w' => e = .returned (.bool (decide (xs = ys))) ∧ ∃ n, w' = w.drewN n := by
  obtain ⟨hl1, a1, cap1, rfl, hc1⟩ := h1
  obtain ⟨hl2, a2, cap2, rfl, hc2⟩ := h2
  obtain ⟨r, hr⟩ : ∃ r, r = decide (xs = ys) := ⟨_, rfl⟩
  rw [← hr]
  have HR := Lib.hid hr; clear hr
  by_cases hlen : xs.length = ys.length
  · have e1 : ((xs.length : Int) != (ys.length : Int)) = false := by simp; omega
    have e2 : (xs.length != ys.length) = false := by simp; omega
    have HL := Lib.hid hlen; clear hlen
    go_enter Try.func21, Try.ntmps21
    go_wp2
    go_loopw [5] (fun i wr => ∃ k : Nat, k ≤ xs.length ∧ i = .int .i64 k ∧ Hid (xs.take k = ys.take k) ∧ ∃ n, wr = w.drewN n) (fun i _ => xs.length - (intOf i).toNat)
    case atStart => exact ⟨0, Nat.zero_le _, rfl, rfl, 0, rfl⟩
    case round =>
      obtain ⟨k, hk, rfl, hs, n, rfl⟩ := hrel
      by_cases hlt : k < xs.length
      · have hlt2 : k < ys.length := by have := HL.out; omega
        obtain ⟨b1, o1, rfl, hcell1⟩ := hc1 (by omega)
        obtain ⟨b2, o2, rfl, hcell2⟩ := hc2 (by omega)
        have d1 := hcell1 k hlt
        have d2 := hcell2 k hlt2
        clear hcell1 hcell2 hc1 hc2
        have t1 : xs.take (k + 1) = xs.take k ++ [xs.getD k 0] := by rw [List.take_succ_eq_append_getElem hlt]; simp [List.getD, hlt]
        have t2 : ys.take (k + 1) = ys.take k ++ [ys.getD k 0] := by rw [List.take_succ_eq_append_getElem hlt2]; simp [List.getD, hlt2]
        generalize hx : xs.getD k 0 = x at *
        generalize hy : ys.getD k 0 = y at *
        have HX := Lib.hid hx; clear hx
        have HY := Lib.hid hy; clear hy
        have T1 := Lib.hid t1; clear t1
        have T2 := Lib.hid t2; clear t2
        have j1 : (k : Int) < (xs.length : Int) := by omega
        have j2 : (k : Int) < (ys.length : Int) := by omega
        by_cases hxy : x = y
        · subst hxy
          go_wp2
          go_quiet (fail)
          go_wp2
          go_roundw
          case rel => exact ⟨k + 1, by omega, by go_num, by unfold Hid; rw [T1.out, T2.out, hs.out], n + nq, by simp⟩
          case measure => simp [intOf]; omega
        · have e3 : (x != y) = true := by simpa using hxy
          go_wp2
          go_quiet (fail)
          go_wp2
          go_ret
          refine ⟨ret_bool ?_, n + nq, by simp⟩
          rw [HR.out]
          refine (decide_eq_false ?_).symm
          intro he
          apply hxy
          rw [← HX.out, ← HY.out, he]
      · go_wp2
        go_ret
        refine ⟨ret_bool ?_, n, rfl⟩
        rw [HR.out]
        refine (decide_eq_true ?_).symm
        have := hs.out
        rwa [List.take_of_length_le (by omega), List.take_of_length_le (by have := HL.out; omega)] at this
  · have e1 : ((xs.length : Int) != (ys.length : Int)) = true := by simp; omega
    have e2 : (xs.length != ys.length) = true := by simp; omega
    have hne : Hid (xs ≠ ys) := fun h => hlen (by rw [h])
    clear hlen
    go_enter Try.func21, Try.ntmps21
    go_wp2
    go_ret
    exact ⟨ret_bool (by rw [HR.out]; exact (decide_eq_false hne.out).symm), 0, rfl⟩

theorem infoI : (Try.prog.info? 2).map (fun i => (i.zero, i.size, i.bytes)) = some (some (.int .i64 0), 1, 8) := by kernel_rfl



theorem markInt64S_any (v : Value) (xs : List Int) (base : Nat) (m : Int) (w : World) (h : Own w base v xs) (hm : 0 ≤ m ∧ m ≤ 1099511627776) (hb : xs.length ≤ 1099511627776) :
    Calls Try.prog 22 #[v, .int .i64 m] w fun e w' => e = .returned (.int .i64 (m + xs.length)) ∧ Own w' base v (seqI m xs.length) ∧ w.grownBy w' v.ownBlock := by
  obtain ⟨a, cap, rfl, ha, hob⟩ := h.shape1
  have hlx := h.len
  go_enter Try.func22, Try.ntmps22
  go_wp2
  go_loopw [1, 5] (fun c i wr => ∃ k : Nat, k ≤ xs.length ∧ i = .int .i64 k ∧ c = .int .i64 (m + k) ∧ ∃ zs : List Int, Hid (zs.length = xs.length ∧ zs.take k = seqI m k) ∧ Own wr base (.slice a xs.length cap) zs ∧ w.grownBy wr (Value.ownBlock (.slice a xs.length cap))) (fun _ i _ => xs.length - (intOf i).toNat)
  case atStart => exact ⟨0, Nat.zero_le _, rfl, by simp, xs, ⟨rfl, rfl⟩, h, grown_refl _ _⟩
  case round =>
    obtain ⟨k, hk, rfl, rfl, zs, hzs, hown, hgr⟩ := hrel
    by_cases hlt : k < xs.length
    · obtain ⟨g, rfl⟩ := ha (by omega)
      have d3 := hown.cell k (by have := hzs.out.1; omega)
      have d4 := hown.unfrozen k
      have t2 : (zs.set k (m + k)).take (k + 1) = zs.take k ++ [m + (k : Int)] := by
        have hk' : k < (zs.set k (m + k)).length := by have := hzs.out.1; simp; omega
        rw [List.take_succ_eq_append_getElem hk', List.take_set, List.set_eq_of_length_le (by simp; omega)]; simp
      have T2 := Lib.hid t2; clear t2
      generalize zs.getD k 0 = z at *
      have hown' := hown.set k (m + k)
      have hgr' := grown_trans hgr (grown_set wr g k (.int .i64 (m + k)))
      clear hown hgr ha hob
      go_wp2
      go_roundw
      case rel => exact ⟨k + 1, by omega, by go_num, by go_num, _, ⟨by have := hzs.out.1; simpa using this, by rw [T2.out, hzs.out.2, seqI_succ]⟩, hown', hgr'⟩
      case measure => simp [intOf]; omega
    · have e : k = xs.length := by omega
      have hz : zs = seqI m xs.length := by
        have h1 := hzs.out.1
        have h2 := hzs.out.2
        rwa [List.take_of_length_le (by omega), e] at h2
      have HE := Lib.hid e; clear e
      clear ha hob
      go_wp2
      go_ret
      exact ⟨ret_int (by rw [HE.out]), hz ▸ hown, hgr⟩

theorem heldInt64S_any (v : Value) (n : Nat) (m : Int) (w : World) (h : Ints w v (seqI m n)) (hm : 0 ≤ m ∧ m ≤ 1099511627776) (hb : n ≤ 1099511627776) :
    Calls Try.prog 23 #[v, .int .i64 m] w fun e w' => e = .returned (.int .i64 (m + n)) ∧ ∃ k, w' = w.drewN k := by
  obtain ⟨hl, a, cap, rfl, hc⟩ := h
  have hlen := seqI_length m n
  rw [hlen] at hc hl ⊢
  clear hlen
  go_enter Try.func23, Try.ntmps23
  go_wp2
  go_loopw [1, 5] (fun c i wr => ∃ k : Nat, k ≤ n ∧ i = .int .i64 k ∧ c = .int .i64 (m + k) ∧ ∃ q, wr = w.drewN q) (fun _ i _ => n - (intOf i).toNat)
  case atStart => exact ⟨0, Nat.zero_le _, rfl, by simp, 0, rfl⟩
  case round =>
    obtain ⟨k, hk, rfl, rfl, q, rfl⟩ := hrel
    by_cases hlt : k < n
    · obtain ⟨b, o, rfl, hcell⟩ := hc (by omega)
      have d1 := hcell k hlt
      rw [seqI_getD m hlt] at d1
      have j1 : (k : Int) < (n : Int) := by omega
      clear hcell hc
      go_wp2
      first
        | (go_quiet (fail); go_wp2)
        | skip
      go_roundw
      case rel => exact ⟨k + 1, by omega, by go_num, by go_num, _, by first | rfl | simp⟩
      case measure => simp [intOf]; omega
    · have e : k = n := by omega
      have HE := Lib.hid e; clear e
      clear hc
      go_wp2
      go_ret
      exact ⟨ret_int (by rw [HE.out]), q, rfl⟩



theorem eqInt64S_same (v1 v2 : Value) (xs : List Int) (w : World) (h1 : Ints w v1 xs) (h2 : Ints w v2 xs) :
    Calls Try.prog 21 #[v1, v2] w fun e w' => e = .returned (.bool true) ∧ Below w.heap.size w w' :=
  (eqInt64S_any v1 v2 xs xs w h1 h2).mono fun _ _ ⟨he, k, hk⟩ => ⟨by rw [he]; simp, by rw [hk]; exact below_drewN (Below.refl _ _) _⟩
theorem heldInt64S_b (v : Value) (n : Nat) (m : Int) (w : World) (h : Ints w v (seqI m n)) (hm : 0 ≤ m ∧ m ≤ 1099511627776) (hb : n ≤ 1099511627776) :
    Calls Try.prog 23 #[v, .int .i64 m] w fun e w' => e = .returned (.int .i64 (m + n)) ∧ Below w.heap.size w w' :=
  (heldInt64S_any v n m w h hm hb).mono fun _ _ ⟨he, k, hk⟩ => ⟨he, by rw [hk]; exact below_drewN (Below.refl _ _) _⟩

end Go.Proofs.Ytoclpcdmpeimkaa
