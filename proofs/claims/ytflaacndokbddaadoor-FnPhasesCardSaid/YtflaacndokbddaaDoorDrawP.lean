/-
 Draws of phases: whatever the bytes, three numbers that an int64 holds.
-/
import Derived.Test.YtflaacndokbddaaDoorDrawT
namespace Go.Proofs.YtflaacndokbddaaDoor
open Go.RowKit

def big (r : Int) : Prop := -9223372036854775808 ≤ r ∧ r ≤ 9223372036854775807
theorem big_wrap (n : Int) : big (wrap64 n) := by unfold big wrap64; omega
instance (r : Int) : Decidable (big r) := by unfold big; exact inferInstance

set_option maxHeartbeats 1000000 in
theorem wide_any {w0 w : World} {p n : Nat} {v : Value} {bs : List Int} (h : Dr w0 w p v bs n) (hn : n ≤ 999990000) :
 Calls Tryd.prog 15 #[.pointer (some ⟨p, 0, none⟩)] w fun e w' => ∃ r : Int, e = .returned (.int .i64 r) ∧ big r ∧ Dr w0 w' p v bs (n + 16) := by
 go_enter Tryd.func15, Tryd.ntmps15
 go_wp2_with fail
 refine (pickD h 4 (by omega) (by omega)).mono ?_; rintro e w1 ⟨r, rfl, hr, d1⟩
 clear h
 by_cases r0 : r = 0
 · subst r0
   have D := Lib.hid d1; clear d1
   go_wp2_with fail
   refine (amongD D.out [-9223372036854775808, 9223372036854775807, 4294967296, -4294967296, 2147483648, -2147483649, 4294967295] big (by decide) (by omega) (by decide)).mono ?_; rintro e w2 ⟨x, rfl, hx, d2⟩
   go_wp2
   go_ret
   exact ⟨_, rfl, hx, d2.le (by omega)⟩
 have e0 : (r == 0) = false := by simpa using r0
 by_cases r1 : r = 1
 · subst r1
   have D := Lib.hid d1; clear d1
   go_wp2_with fail
   refine (nextD D.out (by omega)).mono ?_; rintro e w2 ⟨x, rfl, hx, d2⟩
   have hx2 : big x := by unfold big; omega
   have D2 := Lib.hid d2; clear d2 D
   go_wp2
   go_loopw [3, 4] (fun a i wr => ∃ k : Nat, k ≤ 7 ∧ i = .int .i64 k ∧ ∃ y : Int, a = .int .i64 y ∧ big y ∧ Dr w0 wr p v bs (n + 3 + k)) (fun _ i _ => 7 - (intOf i).toNat)
   case atStart => exact ⟨0, by omega, rfl, x, rfl, hx2, D2.out⟩
   case round =>
    obtain ⟨k, hk, rfl, y, rfl, hy, d⟩ := hrel
    by_cases hlt : k < 7
    · have D := Lib.hid d; have HY := Lib.hid hy; clear d hy
      have j1 : (k : Int) < 7 := by omega
      go_wp2_with fail
      refine (nextD D.out (by omega)).mono ?_; rintro e w3 ⟨z, rfl, hz, d3⟩
      have D3 := Lib.hid d3; clear d3 D
      go_wp2
      go_roundw
      case rel => exact ⟨k + 1, by omega, by go_num, _, rfl, big_wrap _, D3.out⟩
      case measure => simp [intOf]; omega
    · have j1 : (7 : Int) ≤ (k : Int) := by omega
      have D := Lib.hid d; have HY := Lib.hid hy; clear d hy
      go_wp2
      go_ret
      exact ⟨_, rfl, HY.out, D.out.le (by omega)⟩
 have e1 : (r == 1) = false := by simpa using r1
 clear r0 r1
 have D := Lib.hid d1; clear d1
 go_wp2_with fail
 refine (l01Draw_any D.out (by omega)).mono ?_; rintro e w2 ⟨x, rfl, hx, d2⟩
 go_wp2
 go_ret
 exact ⟨_, rfl, by unfold big; omega, d2.le (by omega)⟩

theorem drawPhase_any (v : Value) (bs : List Int) (w : World) (h : Nums .u8 w v bs) (hb : ∀ x ∈ bs, 0 ≤ x ∧ x ≤ 255) :
 Calls Tryd.prog 5 #[v] w fun e w' => ∃ a b n : Int, e = .returned (.tuple #[.int .i64 a, .int .i64 b, .int .i64 n]) ∧ big a ∧ big b ∧ big n ∧ Below w.heap.size w w' := by
 go_enter Tryd.func5, Tryd.ntmps5
 go_wp2_with fail
 refine (l00From_any v bs _ h hb).mono ?_; rintro e w1 ⟨rfl, s1, b1⟩
 have D1 := Lib.hid (Dr.start s1); have B1 := Lib.hid b1; clear s1 b1 h hb
 go_wp2_with fail
 refine (wide_any D1.out (by omega)).mono ?_; rintro e w2 ⟨a, rfl, ha, d2⟩
 have D2 := Lib.hid d2; have HA := Lib.hid ha; clear d2 ha
 go_wp2_with fail
 refine (wide_any D2.out (by omega)).mono ?_; rintro e w3 ⟨b, rfl, hb, d3⟩
 have D3 := Lib.hid d3; have HB := Lib.hid hb; clear d3 hb
 go_wp2_with fail
 refine (wide_any D3.out (by omega)).mono ?_; rintro e w4 ⟨n, rfl, hn, d4⟩
 have D4 := Lib.hid d4; have HN := Lib.hid hn; clear d4 hn
 go_wp2
 go_ret3
 exact ⟨_, _, _, rfl, HA.out, HB.out, HN.out, D4.out.below0 B1.out⟩

end Go.Proofs.YtflaacndokbddaaDoor
