/-
 A2Tables: two tables of one size; a2At, a2Same.
-/
import Derived.Test.YtflaacndokbddaaDoorDraw2
namespace Go.Proofs.YtflaacndokbddaaDoor
open Go.RowKit

theorem Dr.below0 {w w1 w2 : World} {v : Value} {bs : List Int} {n : Nat} (h : Dr w1 w2 w.heap.size v bs n) (b : Below w.heap.size w w1) : Below w.heap.size w w2 :=
 b.grown h.grown b.size (fun k hk => by simp at hk; omega)

set_option maxHeartbeats 1000000 in
theorem a2Tables_any (v : Value) (bs : List Int) (w : World) (h : Nums .u8 w v bs) (hb : ∀ x ∈ bs, 0 ≤ x ∧ x ≤ 255) :
 Calls Tryd.prog 10 #[v] w fun e w' => ∃ (xs ys : List Int) (v1 v2 : Value), e = .returned (.tuple #[v1, v2]) ∧ (xs.length = 2 ∨ xs.length = 4 ∨ xs.length = 8 ∨ xs.length = 16) ∧ ys.length = xs.length ∧ samB xs = true ∧ samB ys = true ∧
  Own w' w.heap.size v1 xs ∧ Own w' w.heap.size v2 ys ∧ Below w.heap.size w w' := by
 go_enter Tryd.func10, Tryd.ntmps10
 go_wp2_with fail
 refine (l00From_any v bs _ h hb).mono ?_; rintro e w1 ⟨rfl, s1, b1⟩
 have D1 := Lib.hid (Dr.start s1); have B1 := Lib.hid b1; clear s1 b1 h hb
 go_wp2_with fail
 refine (l13Draw_any D1.out (by omega)).mono ?_; rintro e w2 ⟨xs, v1, rfl, hl, hxs, o1, d2⟩
 have hp : w.heap.size < w1.heap.size := D1.out.src.lt
 have e2 := D1.out.next d2.src d2.grown
 have ob := o1.objR
 obtain ⟨a1, cap1, rfl, _, _⟩ := o1.shape1
 have D2 := Lib.hid e2; have OB := Lib.hid ob; have HL := Lib.hid hl; have HXS := Lib.hid hxs
 have hs2 := e2.size
 have hlb : xs.length ≤ 16 := by omega
 clear d2 e2 ob o1 hl hxs
 have hbk : w2.heap.size ≤ (w2.alloc (.cells #[] 2)).heap.size := by simp
 have S2 := Lib.hid (Dr.start (D2.out.src.below ((Below.refl _ _).alloc (Nat.le_refl _) (.cells #[] 2))))
 have D3 := Lib.hid (D2.out.alloc (.cells #[] 2))
 have OB3 := Lib.hid (OB.out.below ((Below.refl _ _).alloc (Nat.le_refl _) (.cells #[] 2)))
 clear hbk
 go_wp2
 go_loopw [6, 14] (fun out i wr => ∃ k : Nat, k ≤ xs.length ∧ i = .int .i64 k ∧ ∃ ys : List Int, Hid (ys.length = k ∧ samB ys = true) ∧ Own wr w2.heap.size out ys ∧ Obj w1.heap.size w2.heap.size (IntsR w1.heap.size w2.heap.size (.slice a1 xs.length cap1) xs) wr ∧ Dr w1 wr w.heap.size v bs (200 + 8 * k) ∧ w2.heap.size ≤ wr.heap.size) (fun _ i _ => xs.length - (intOf i).toNat)
 case atStart => exact ⟨0, by omega, rfl, [], ⟨rfl, rfl⟩, Own.made, OB3.out, D3.out.le (by omega), by simp⟩
 case round =>
  obtain ⟨k, hk, rfl, ys, hys, hown, hob, d, hsz⟩ := hrel
  by_cases hlt : k < xs.length
  · have j1 : (k : Int) < (xs.length : Int) := by omega
    have D := Lib.hid d; have HO := Lib.hid hown; have HB := Lib.hid hob; clear d hown hob
    go_wp2_with fail
    refine (l01Draw_any (Dr.start D.out.src) (by omega)).mono ?_; rintro e w3 ⟨x, rfl, hx, d2⟩
    have o2 := HO.out.kept d2.grown (fun g hg => by simp at hg; have := D.out.lt; omega)
    have b2 := HB.out.chg (Chg.of_grown (lo := w.heap.size) (hi := w.heap.size + 1) d2.grown (fun g hg => by simp at hg; omega)) (.inr (by omega))
    have e2 := D.out.next d2.src d2.grown
    have hs3 := Nat.le_trans hsz d2.size
    have D4 := Lib.hid e2; have O4 := Lib.hid o2; have B4 := Lib.hid b2; clear d2 D HO HB e2 o2 b2
    go_wp2_with (first
     | (at_builtin; refine append_oneG rfl _ _ rfl _ _ _ rfl O4.out hs3 rfl (by have := hys.out.1; omega) ?_; intro v' w4 o3 g3))
    have D5 := Lib.hid (D4.out.row g3 (fun g hg => by have := (O4.out.blk g hg).1; omega))
    have B5 := Lib.hid (B4.out.chg (Chg.of_grown (lo := w2.heap.size) (hi := w3.heap.size) g3 (fun g hg => O4.out.blk g hg)) (.inl (Nat.le_refl _)))
    have O5 := Lib.hid o3
    have hs5 : w2.heap.size ≤ w4.heap.size := Nat.le_trans hs3 g3.size
    clear g3 o3 O4 D4 B4
    go_roundw
    case rel => exact ⟨k + 1, by omega, by go_num, _, ⟨by have := hys.out.1; simp; omega, samB_snoc hys.out.2 hx⟩, O5.out, B5.out, D5.out.le (by omega), hs5⟩
    case measure => simp [intOf]; omega
  · have e : k = xs.length := by omega
    have HE := Lib.hid e
    have D := Lib.hid d; have HO := Lib.hid hown; have HB := Lib.hid hob; clear d hown hob e
    go_wp2
    go_ret2
    exact ⟨xs, ys, _, _, rfl, HL.out, by rw [hys.out.1, HE.out], HXS.out, hys.out.2, HB.out.now.1.mono (by omega), HO.out.mono (by omega), D.out.below0 B1.out⟩

theorem a2At_any (v : Value) (bs : List Int) (i : Nat) (n : Int) (w : World) (h : Nums .u8 w v bs) (hb : ∀ x ∈ bs, 0 ≤ x ∧ x ≤ 255) (hi : i ≤ 1000) (hn : 1 ≤ n ∧ n ≤ 1000000) :
 Calls Tryd.prog 6 #[v, .int .i64 i, .int .i64 n] w fun e w' => ∃ r : Int, e = .returned (.int .i64 r) ∧ (0 ≤ r ∧ r < n) ∧ w = w' := by
 obtain ⟨hl, a, cap, rfl, hc⟩ := h
 by_cases hlt : i < bs.length
 · obtain ⟨b, o, rfl, hcell⟩ := hc (by omega)
   have d := hcell i hlt
   have hr := hb (bs.getD i 0) (by rw [show bs.getD i 0 = bs[i] by simp [List.getD, hlt]]; exact List.getElem_mem hlt)
   generalize bs.getD i 0 = x at *
   have hm := emod_bd (x := x) (n := n) hr.1 (by omega)
   have j1 : (i : Int) < (bs.length : Int) := by omega
   have j2 : decide ((bs.length : Int) ≤ (i : Int)) = false := decide_eq_false (by omega)
   clear hcell hc hb
   go_enter Tryd.func6, Tryd.ntmps6
   go_wp2
   go_ret
   exact ⟨_, rfl, by omega, rfl⟩
 · have j1 : (bs.length : Int) ≤ (i : Int) := by omega
   clear hc hb
   go_enter Tryd.func6, Tryd.ntmps6
   go_wp2
   go_ret
   exact ⟨0, rfl, by omega, rfl⟩



end Go.Proofs.YtflaacndokbddaaDoor
