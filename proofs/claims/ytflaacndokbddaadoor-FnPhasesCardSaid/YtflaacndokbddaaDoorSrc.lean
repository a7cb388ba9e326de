/-
 The source of drawn numbers: each draw gives some number within its bounds, and turns no memory but the source's own.
-/
import Derived.Test.YtflaacndokbddaaDoorBoxU
import Derived.Test.YtflaacndokbddaaDoorNum
namespace Go.Proofs.YtflaacndokbddaaDoor
open Go.RowKit

theorem grown_drew (w : World) (r : Option Nat) : w.grownBy w.drew r := ⟨rfl, rfl, rfl, Nat.le_refl _, fun _ _ _ => rfl⟩
theorem grown_drewN (w : World) (n : Nat) (r : Option Nat) : w.grownBy (w.drewN n) r := by
 induction n with
 | zero => exact grown_refl _ _
 | succ n ih => exact grown_trans ih (grown_drew _ r)

def Src (w : World) (p : Nat) (v : Value) (bs : List Int) (n : Nat) : Prop :=
 ∃ (k : Nat) (seed : Int), k ≤ n ∧ (0 ≤ seed ∧ seed ≤ 18446744073709551615) ∧ BoxU w p [v, .int .i64 k, .int .u64 seed] ∧ (∀ x ∈ bs, 0 ≤ x ∧ x ≤ 255) ∧
   ∃ w0 : World, Nums .u8 w0 v bs ∧ Below w0.heap.size w0 w ∧ w0.heap.size ≤ p

theorem u64_in (n : Int) : 0 ≤ IntKind.u64.wrap n ∧ IntKind.u64.wrap n ≤ 18446744073709551615 := by
 rw [IntKind.wrap_u64]; omega

theorem and255 (n : Int) : bits .and .u64 n 255 = n % 256 := by
 have h : (255 : Int) = ((255 : Nat) : Int) := rfl
 unfold bits
 rw [h]
 simp only [BitVec.ofInt_natCast, BitVec.toNat_and]
 have e : (BitVec.ofInt IntKind.u64.bits n).toNat = (n % 18446744073709551616).toNat := by
  simp [BitVec.toNat_ofInt, IntKind.bits]
 have e2 : (BitVec.ofNat IntKind.u64.bits 255).toNat = 2 ^ 8 - 1 := by simp [IntKind.bits]
 rw [e, e2, Nat.and_two_pow_sub_one_eq_mod, IntKind.wrap_u64]
 omega

theorem src_after {w : World} {p : Nat} {v : Value} {bs : List Int} {n k : Nat} {seed : Int} (hk : k ≤ n) (hx : BoxU w p [v, .int .i64 k, .int .u64 seed]) (hbs : ∀ x ∈ bs, 0 ≤ x ∧ x ≤ 255)
 {w0 : World} (hnum : Nums .u8 w0 v bs) (hbel : Below w0.heap.size w0 w) (hp : w0.heap.size ≤ p) (a b : Nat) (z : Int) (hz : 0 ≤ z ∧ z ≤ 18446744073709551615) :
 Src ((((w.drewN a).setCell ⟨p, 1, none⟩ (.int .i64 ((k : Int) + 1))).setCell ⟨p, 2, none⟩ (.int .u64 z)).drewN b) p v bs (n + 1) ∧
  w.grownBy ((((w.drewN a).setCell ⟨p, 1, none⟩ (.int .i64 ((k : Int) + 1))).setCell ⟨p, 2, none⟩ (.int .u64 z)).drewN b) (some p) := by
 have hg : w.grownBy ((((w.drewN a).setCell ⟨p, 1, none⟩ (.int .i64 ((k : Int) + 1))).setCell ⟨p, 2, none⟩ (.int .u64 z)).drewN b) (some p) :=
  grown_trans (grown_trans (grown_trans (grown_drewN w a _) (grown_set _ _ _ _)) (grown_set _ _ _ _)) (grown_drewN _ b _)
 refine ⟨⟨k + 1, z, by omega, hz, ?_, hbs, w0, hnum, hbel.grown hg hbel.size (fun k hk => by simp at hk; omega), hp⟩, hg⟩
 have h1 := hx.below (below_drewN (Below.refl _ _) a)
 have h2 := (h1.set 1 (.int .i64 ((k : Int) + 1)) (by simp)).set 2 (.int .u64 z) (by simp)
 have h3 := h2.below (below_drewN (Below.refl _ _) b)
 exact h3

set_option maxHeartbeats 1000000 in
theorem next_any (p : Nat) (v : Value) (bs : List Int) (n : Nat) (w : World) (h : Src w p v bs n) (hn : n ≤ 1000000000) :
 Calls Tryd.prog 31 #[.pointer (some ⟨p, 0, none⟩)] w fun e w' => ∃ r : Int, e = .returned (.int .i64 r) ∧ (0 ≤ r ∧ r ≤ 255) ∧ Src w' p v bs (n + 1) ∧ w.grownBy w' (some p) := by
 obtain ⟨k, seed, hk, hs, hx, hbs, w0, hnum, hbel, hp⟩ := h
 have hnum' := hnum.below hbel
 obtain ⟨hl, a, cap, rfl, hc⟩ := hnum'
 have c0 := hx.1.at 0 rfl; have c1 := hx.1.at 1 rfl; have c2 := hx.1.at 2 rfl
 have f1 := hx.2 1; have f2 := hx.2 2
 have X := Lib.hid hx; have HB := Lib.hid hbs; have HN := Lib.hid hnum; have HW := Lib.hid hbel
 clear hx hbs hnum hbel
 by_cases hlt : k < bs.length
 · obtain ⟨b, o, rfl, hcell⟩ := hc (by omega)
   have d := hcell k hlt
   have hr := HB.out (bs.getD k 0) (by rw [show bs.getD k 0 = bs[k] by simp [List.getD, hlt]]; exact List.getElem_mem hlt)
   clear hcell hc
   generalize bs.getD k 0 = r at *
   have j1 : (k : Int) < (bs.length : Int) := by omega
   have j2 : (k : Int) + 1 ≤ (bs.length : Int) := by omega
   go_enter Tryd.func31, Tryd.ntmps31
   go_wp2
   go_quiet (fail)
   go_wp2
   go_quiet (fail)
   go_wp2
   go_quiet (fail)
   go_wp2
   go_ret
   have hsrc := src_after hk X.out HB.out HN.out HW.out hp
   exact ⟨_, rfl, hr, hsrc _ _ _ (u64_in _)⟩
 · have j1 : (bs.length : Int) ≤ (k : Int) := by omega
   have j2 : (bs.length : Int) < (k : Int) + 1 := by omega
   clear hc
   go_enter Tryd.func31, Tryd.ntmps31
   go_wp2
   go_quiet (fail)
   go_wp2
   go_quiet (fail)
   go_wp2
   go_ret
   have hsrc := src_after hk X.out HB.out HN.out HW.out hp
   refine ⟨_, rfl, ?_, hsrc _ _ _ (u64_in _)⟩
   rw [and255]
   unfold wrap64
   omega

theorem Src.le {w : World} {p : Nat} {v : Value} {bs : List Int} {n m : Nat} (h : Src w p v bs n) (hm : n ≤ m) : Src w p v bs m := by
 obtain ⟨k, seed, hk, r⟩ := h
 exact ⟨k, seed, by omega, r⟩
theorem Src.below {w w' : World} {p : Nat} {v : Value} {bs : List Int} {n : Nat} (h : Src w p v bs n) (hb : Below w.heap.size w w') : Src w' p v bs n := by
 obtain ⟨k, seed, hk, hs, hx, hbs, w0, hnum, hbel, hp⟩ := h
 exact ⟨k, seed, hk, hs, hx.below hb, hbs, w0, hnum, hbel.trans (hb.mono hbel.size), hp⟩
theorem Src.lt {w : World} {p : Nat} {v : Value} {bs : List Int} {n : Nat} (h : Src w p v bs n) : p < w.heap.size := by
 obtain ⟨k, seed, hk, hs, hx, _⟩ := h
 exact hx.1.1

theorem emod_bd {x n : Int} (hx : 0 ≤ x) (hn : 0 < n) : 0 ≤ x % n ∧ x % n < n :=
 ⟨Int.emod_nonneg _ (by omega), Int.emod_lt_of_pos _ hn⟩

theorem pick_any (m : Int) (p : Nat) (v : Value) (bs : List Int) (n : Nat) (w : World) (h : Src w p v bs n) (hn : n ≤ 999999998) (hm : 1 ≤ m ∧ m ≤ 1000000000) :
 Calls Tryd.prog 29 #[.pointer (some ⟨p, 0, none⟩), .int .i64 m] w fun e w' => ∃ r : Int, e = .returned (.int .i64 r) ∧ (0 ≤ r ∧ r < m) ∧ Src w' p v bs (n + 2) ∧ w.grownBy w' (some p) := by
 by_cases h1 : m ≤ 1
 · have e1 : m = 1 := by omega
   subst e1
   go_enter Tryd.func29, Tryd.ntmps29
   go_wp2
   go_ret
   exact ⟨0, rfl, by omega, h.le (by omega), grown_refl _ _⟩
 have h1' : 1 < m := by omega
 by_cases h2 : m ≤ 200
 · go_enter Tryd.func29, Tryd.ntmps29
   go_wp2_with fail
   refine (next_any p v bs n _ h (by omega)).mono ?_; rintro e w1 ⟨x, rfl, hx, hs, hg⟩
   have hb := emod_bd (n := m) hx.1 (by omega)
   go_wp2
   go_ret
   exact ⟨_, rfl, by omega, hs.le (by omega), hg⟩
 have h2' : 200 < m := by omega
 go_enter Tryd.func29, Tryd.ntmps29
 go_wp2_with fail
 refine (next_any p v bs n _ h (by omega)).mono ?_; rintro e w1 ⟨x, rfl, hx, hs, hg⟩
 go_wp2_with fail
 refine (next_any p v bs (n + 1) _ hs (by omega)).mono ?_; rintro e w2 ⟨y, rfl, hy, hs2, hg2⟩
 have hb := emod_bd (x := x * 256 + y) (n := m) (by omega) (by omega)
 go_wp2
 go_ret
 exact ⟨_, rfl, by omega, hs2, grown_trans hg hg2⟩

theorem among_any (vl : Value) (xs : List Int) (p : Nat) (v : Value) (bs : List Int) (n base : Nat) (w : World) (h : Src w p v bs n) (hn : n ≤ 999999998) (ho : Own w base vl xs) (hpb : p < base) (hx : 0 < xs.length ∧ xs.length ≤ 1000000) :
 Calls Tryd.prog 30 #[.pointer (some ⟨p, 0, none⟩), vl] w fun e w' => ∃ i : Nat, i < xs.length ∧ e = .returned (.int .i64 (xs.getD i 0)) ∧ Src w' p v bs (n + 2) ∧ w.grownBy w' (some p) := by
 obtain ⟨a, cap, rfl, ha, hown⟩ := ho.shape1
 obtain ⟨g, rfl⟩ := ha hx.1
 clear ha hown
 have h1 : 1 ≤ (xs.length : Int) := by omega
 have h2 : (xs.length : Int) ≤ 1000000000 := by omega
 have HO := Lib.hid ho; clear ho
 go_enter Tryd.func30, Tryd.ntmps30
 go_wp2_with fail
 refine (pick_any xs.length p v bs n _ h hn ⟨h1, h2⟩).mono ?_; rintro e w1 ⟨x, rfl, hx1, hs, hg⟩
 obtain ⟨i, rfl⟩ := Int.eq_ofNat_of_zero_le hx1.1
 have hi : i < xs.length := by omega
 have ho1 := HO.out.kept hg (fun g hg => by simp at hg; omega)
 have c := ho1.cell i hi
 clear ho1 HO
 generalize hgv : xs.getD i 0 = z at *
 have HG := Lib.hid hgv; clear hgv
 go_wp2
 go_ret
 exact ⟨i, hi, ret_int HG.out.symm, hs, hg⟩

theorem l00From_any (v : Value) (bs : List Int) (w : World) (h : Nums .u8 w v bs) (hb : ∀ x ∈ bs, 0 ≤ x ∧ x ≤ 255) :
 Calls Tryd.prog 14 #[v] w fun e w' => e = .returned (.pointer (some ⟨w.heap.size, 0, none⟩)) ∧ Src w' w.heap.size v bs 0 ∧ Below w.heap.size w w' := by
 obtain ⟨a, cap, rfl⟩ : ∃ a cap, v = .slice a bs.length cap := by obtain ⟨_, a, cap, hv, _⟩ := h; exact ⟨a, cap, hv⟩
 have H := Lib.hid h; have HB := Lib.hid hb; clear h hb
 have B0 := (Below.refl w.heap.size w).alloc (Nat.le_refl _) (.cells #[.slice a bs.length cap, .int .i64 0, .int .u64 0] 48)
 have X0 := BoxU.newAt w [.slice a bs.length cap, .int .i64 0, .int .u64 0] 48 rfl
 go_enter Tryd.func14, Tryd.ntmps14
 go_wp2
 go_ret
 exact ⟨rfl, ⟨0, 0, Nat.le_refl _, by omega, X0, HB.out, w, H.out, B0, Nat.le_refl _⟩, B0⟩

end Go.Proofs.YtflaacndokbddaaDoor
