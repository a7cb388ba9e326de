/-
 Draws of samples, tables, fractions: whatever the bytes.
-/
import Derived.Test.YtflaacndokbddaaDoorDraw
import Derived.Test.YtflaacndokbddaaDoorPick
import Derived.Test.YtflaacndokbddaaDoorWrap
namespace Go.Proofs.YtflaacndokbddaaDoor
open Go.RowKit

set_option maxHeartbeats 1000000 in
theorem l01Draw_any {w0 w : World} {p n : Nat} {v : Value} {bs : List Int} (h : Dr w0 w p v bs n) (hn : n ≤ 999999000) :
 Calls Tryd.prog 20 #[.pointer (some ⟨p, 0, none⟩)] w fun e w' => ∃ r : Int, e = .returned (.int .i64 r) ∧ (-2147483648 ≤ r ∧ r ≤ 2147483647) ∧ Dr w0 w' p v bs (n + 8) := by
 go_enter Tryd.func20, Tryd.ntmps20
 go_wp2_with fail
 refine (pickD h 8 (by omega) (by omega)).mono ?_; rintro e w1 ⟨r, rfl, hr, d1⟩
 clear h
 by_cases r0 : r = 0
 · subst r0
   have D := Lib.hid d1; clear d1
   go_wp2_with fail
   refine (amongD D.out [-2147483648, 2147483647, -2147483647, 65536, -65536, 1073741824] (fun x => -2147483648 ≤ x ∧ x ≤ 2147483647) (by decide) (by omega) (by decide)).mono ?_; rintro e w2 ⟨x, rfl, hx, d2⟩
   go_wp2
   go_ret
   exact ⟨_, rfl, hx, d2.le (by omega)⟩
 have e0 : (r == 0) = false := by simpa using r0
 by_cases r1 : r = 1
 · subst r1
   have D := Lib.hid d1; clear d1
   go_wp2_with fail
   refine (nextD D.out (by omega)).mono ?_; rintro e w2 ⟨x, rfl, hx, d2⟩
   have D2 := Lib.hid d2; clear d2 D
   go_wp2
   go_loopw [3, 4] (fun a i wr => ∃ k : Nat, k ≤ 3 ∧ i = .int .i64 k ∧ ∃ y : Int, a = .int .i64 y ∧ (0 ≤ y ∧ y < 256 ^ (k + 1)) ∧ Dr w0 wr p v bs (n + 3 + k)) (fun _ i _ => 3 - (intOf i).toNat)
   case atStart => exact ⟨0, by omega, rfl, x, rfl, by omega, D2.out⟩
   case round =>
    obtain ⟨k, hk, rfl, y, rfl, hy, d⟩ := hrel
    have hp : (256 : Int) ^ (k + 1) ≤ 256 ^ 4 := by
     have : k = 0 ∨ k = 1 ∨ k = 2 ∨ k = 3 := by omega
     rcases this with rfl | rfl | rfl | rfl <;> decide
    have hyb : 0 ≤ y ∧ y ≤ 4294967296 := by omega
    by_cases hlt : k < 3
    · have hq : (256 : Int) ^ (k + 1 + 1) = 256 * 256 ^ (k + 1) := by rw [Int.pow_succ]; omega
      have HQ := Lib.hid hq; have HY := Lib.hid hy
      have D := Lib.hid d; clear hq hy hp d
      have j1 : (k : Int) < 3 := by omega
      go_wp2_with fail
      refine (nextD D.out (by omega)).mono ?_; rintro e w3 ⟨z, rfl, hz, d3⟩
      have D3 := Lib.hid d3; clear d3 D
      go_wp2
      go_roundw
      case rel => exact ⟨k + 1, by omega, by go_num, _, rfl, ⟨by omega, by have := HY.out; have := HQ.out; omega⟩, D3.out⟩
      case measure => simp [intOf]; omega
    · have j1 : (3 : Int) ≤ (k : Int) := by omega
      have hb := wrap32_bd y
      have D := Lib.hid d; clear d hp hy
      go_wp2_with (go_at_call 18; refine (specWrap_any _ _).mono ?_; rintro e w' ⟨rfl, rfl⟩)
      go_ret
      exact ⟨_, rfl, hb, D.out.le (by omega)⟩
 have e1 : (r == 1) = false := by simpa using r1
 by_cases r2 : r = 2
 · subst r2
   go_wp2
   go_ret
   exact ⟨_, rfl, by omega, d1.le (by omega)⟩
 have e2 : (r == 2) = false := by simpa using r2
 clear r0 r1 r2
 have D := Lib.hid d1; clear d1
 go_wp2_with fail
 refine (pickD D.out 41 (by omega) (by omega)).mono ?_; rintro e w2 ⟨x, rfl, hx, d2⟩
 go_wp2
 go_ret
 exact ⟨_, rfl, by omega, d2.le (by omega)⟩

theorem samB_snoc {xs : List Int} {x : Int} (h : samB xs = true) (hx : -2147483648 ≤ x ∧ x ≤ 2147483647) : samB (xs ++ [x]) = true := by
 simp only [samB, List.all_append, List.all_cons, List.all_nil, Bool.and_true, Bool.and_eq_true]
 exact ⟨h, inB_of hx⟩

set_option maxHeartbeats 1000000 in
theorem l13Draw_any {w0 w : World} {p n : Nat} {v : Value} {bs : List Int} (h : Dr w0 w p v bs n) (hn : n ≤ 999990000) :
 Calls Tryd.prog 19 #[.pointer (some ⟨p, 0, none⟩)] w fun e w' => ∃ (xs : List Int) (v' : Value), e = .returned v' ∧ (xs.length = 2 ∨ xs.length = 4 ∨ xs.length = 8 ∨ xs.length = 16) ∧ samB xs = true ∧ Own w' w.heap.size v' xs ∧ Dr w0 w' p v bs (n + 200) := by
 have ha := Dr.start (h.src.below ((Below.refl _ _).alloc (Nat.le_refl _) (.cells #[] 2)))
 have hs := (Dr.start h.src).alloc (.cells #[] 2)
 have H := Lib.hid ha; have H0 := Lib.hid h; have HS := Lib.hid hs; clear ha h hs
 go_enter Tryd.func19, Tryd.ntmps19
 go_wp2_with fail
 refine (amongD H.out [2, 4, 4, 8, 8, 16] (fun x => x = 2 ∨ x = 4 ∨ x = 8 ∨ x = 16) (by decide) (by omega) (by decide) (World.size_alloc _ _)).mono ?_; rintro e w1 ⟨m, rfl, hm, d1⟩
 obtain ⟨N, rfl⟩ := Int.eq_ofNat_of_zero_le (by omega : 0 ≤ m)
 have hN : N = 2 ∨ N = 4 ∨ N = 8 ∨ N = 16 := by omega
 have o0 : Own w1 w.heap.size (.slice (some ⟨w.heap.size, 0, none⟩) 0 0) [] := Own.made.kept d1.grown (fun g hg => by simp at hg; have := H0.out.src.lt; omega)
 have D1 := Lib.hid (HS.out.next d1.src d1.grown); have O0 := Lib.hid o0; have HN := Lib.hid hN
 have hNb : N ≤ 16 := by omega
 clear d1 o0 hm hN H HS
 go_wp2
 go_loopw [3, 4] (fun out i wr => ∃ k : Nat, k ≤ N ∧ i = .int .i64 ((N : Int) - k) ∧ ∃ xs : List Int, Hid (xs.length = k ∧ samB xs = true) ∧ Own wr w.heap.size out xs ∧ Dr w wr p v bs (n + 2 + 8 * k)) (fun _ i _ => (intOf i).toNat)
 case atStart => exact ⟨0, by omega, by go_num, [], ⟨rfl, rfl⟩, O0.out, D1.out⟩
 case round =>
  obtain ⟨k, hk, rfl, xs, hxs, hown, d⟩ := hrel
  by_cases hlt : k < N
  · have j1 : (0 : Int) < (N : Int) - (k : Int) := by omega
    have D := Lib.hid d; have HO := Lib.hid hown; clear d hown
    go_wp2_with fail
    refine (l01Draw_any (Dr.start D.out.src) (by omega)).mono ?_; rintro e w2 ⟨x, rfl, hx, d2⟩
    have o2 := HO.out.kept d2.grown (fun g hg => by simp at hg; have := D.out.lt; omega)
    have e2 := D.out.next d2.src d2.grown
    have hsz := e2.size
    have D2 := Lib.hid e2; have O2 := Lib.hid o2; clear d2 D HO e2 o2
    go_wp2_with (first
     | (at_builtin; refine append_oneG rfl _ _ rfl _ _ _ rfl O2.out hsz rfl (by have := hxs.out.1; omega) ?_; intro v' w3 o3 g3))
    have D3 := Lib.hid (D2.out.row g3 (fun g hg => (O2.out.blk g hg).1))
    have O3 := Lib.hid o3
    clear g3 o3 O2 D2
    go_roundw
    case rel => exact ⟨k + 1, by omega, by go_num, _, ⟨by have := hxs.out.1; simp; omega, samB_snoc hxs.out.2 hx⟩, O3.out, D3.out.le (by omega)⟩
    case measure => simp [intOf]; omega
  · have e : k = N := by omega
    subst e
    have D := Lib.hid d; have HO := Lib.hid hown; clear d hown
    go_wp2
    go_ret
    exact ⟨xs, _, rfl, by have := hxs.out.1; have := HN.out; omega, hxs.out.2, HO.out, H0.out.next (D.out.src.le (by omega)) D.out.grown⟩

end Go.Proofs.YtflaacndokbddaaDoor
