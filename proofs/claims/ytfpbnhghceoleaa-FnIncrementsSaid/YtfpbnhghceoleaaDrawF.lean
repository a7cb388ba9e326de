/-
  Draws of fractions: whatever the bytes, two numbers.
-/
import Derived.Test.YtfpbnhghceoleaaDraw2
import Derived.Test.YtfpbnhghceoleaaMakeF
import Derived.Test.YtfpbnhghceoleaaDrawT
namespace Go.Proofs.Ytfpbnhghceoleaa
open Go.RowKit

theorem mkF_bd (n d : Int) : -1000000000 ≤ (mkF n d).1.1 ∧ (mkF n d).1.1 ≤ 1000000000 ∧ 0 ≤ (mkF n d).1.2 ∧ (mkF n d).1.2 ≤ 1000000 := by
  unfold mkF
  generalize n.natAbs / Nat.gcd n.natAbs d.natAbs = P
  generalize d.natAbs / Nat.gcd n.natAbs d.natAbs = Q
  split
  · simp
  split
  · simp
  · simp only
    split <;> omega

theorem specMake_r {n d : Int} (w : World) (hn : -1000000000 ≤ n ∧ n ≤ 1000000000) (hd : -1000000000 ≤ d ∧ d ≤ 1000000000) :
    Calls Try.prog 91 #[.int .i64 n, .int .i64 d] w fun e w' => ∃ a b c : Int, e = .returned (.tuple #[.agg #[.int .i64 a, .int .i64 b], .int .i64 c]) ∧ (-1000000000 ≤ a ∧ a ≤ 1000000000) ∧ (-1000000000 ≤ b ∧ b ≤ 1000000000) ∧ Below w.heap.size w w' := by
  have h := mkF_bd n d
  exact (specMake_any n d w (by omega) (by omega)).mono fun _ _ ⟨he, hb⟩ => ⟨_, _, _, he, by omega, by omega, hb⟩

/-- The struct's block, beside draws and the call's own stores. -/
theorem BoxU.dr {w0 w : World} {p n b : Nat} {v : Value} {bs : List Int} {vs : List Value} (h : BoxU w0 b vs) (d : Dr w0 w p v bs n) (hb : b ≠ p) : BoxU w b vs :=
  h.grown d.grown (fun e => hb (by simpa using e))

set_option maxHeartbeats 1000000 in
theorem l02Draw_any {w : World} {p n : Nat} {v : Value} {bs : List Int} (h : Src w p v bs n) (hn : n ≤ 999990000) :
    Calls Try.prog 131 #[.pointer (some ⟨p, 0, none⟩)] w fun e w' => ∃ a b : Int, e = .returned (.agg #[.int .i64 a, .int .i64 b]) ∧ (-1000000000 ≤ a ∧ a ≤ 1000000000) ∧ (-1000000000 ≤ b ∧ b ≤ 1000000000) ∧ Dr w w' p v bs (n + 20) := by
  have x0 := BoxU.newAt w [.int .i64 0, .int .i64 0] 46 rfl
  have hp : p < w.heap.size := h.lt
  have H := Lib.hid (Dr.start (h.below ((Below.refl _ _).alloc (Nat.le_refl _) (.cells #[.int .i64 0, .int .i64 0] 46))))
  have HW := Lib.hid ((Dr.start h).alloc (.cells #[.int .i64 0, .int .i64 0] 46))
  have X := Lib.hid x0
  clear x0 h
  go_enter Try.func131, Try.ntmps131
  go_wp2_with fail
  refine (pickD H.out 40 (by omega) (by omega)).mono ?_; rintro e w1 ⟨r, rfl, hr, d1⟩
  have D1 := Lib.hid d1; clear d1
  go_wp2_with fail
  refine (pickD D1.out 12 (by omega) (by omega)).mono ?_; rintro e w2 ⟨s, rfl, hs, d2⟩
  have D2 := Lib.hid d2; clear d2
  go_wp2_with fail
  refine (oneD D2.out 8 (by omega) (by omega)).mono ?_; rintro e w3 ⟨b, rfl, d3⟩
  have D3 := Lib.hid d3; clear d3 D1 D2
  cases b
  · go_wp2_with fail
    refine (specMake_r _ (by omega) (by omega)).mono ?_; rintro e w4 ⟨a, b, c, rfl, ha, hb, b4⟩
    have D4 := D3.out.below b4
    have x4 := X.out.dr D4 (by omega)
    have i0 := x4.1.at 0 rfl; have i1 := x4.1.at 1 rfl; have f0 := x4.2 0; have f1 := x4.2 1
    have DD := Lib.hid (HW.out.next D4.src D4.grown)
    have hz : w.heap.size < w4.heap.size := x4.1.1
    clear D4 D3 b4 x4 HW
    by_cases hc : c = 0
    · subst hc
      go_wp2
      refine bodyPost_ret (v := .agg #[.int .i64 a, .int .i64 b]) (by simp [results, Try.results131, go_sem, *]) rfl ⟨a, b, rfl, ha, hb, ?_⟩
      refine Dr.le (n := n + 2 + 2 + 2) ?_ (by omega)
      repeat (first | exact DD.out | refine Dr.alloc ?_ _ | refine Dr.set ?_ _ (by first | omega | (simp <;> omega)))
    · have hc' : (c != 0) = true := by simpa using hc
      clear hc
      go_wp2
      refine bodyPost_ret (v := .agg #[.int .i64 1, .int .i64 1]) (by simp [results, Try.results131, go_sem, *]) rfl ⟨1, 1, rfl, by omega, by omega, ?_⟩
      refine Dr.le (n := n + 2 + 2 + 2) ?_ (by omega)
      repeat (first | exact DD.out | refine Dr.alloc ?_ _ | refine Dr.set ?_ _ (by first | omega | (simp <;> omega)))
  · go_wp2_with fail
    refine (amongD D3.out [1000000000, -1000000000, 355, 999999, 123456789, 0] (fun x => -1000000000 ≤ x ∧ x ≤ 1000000000) (by decide) (by omega) (by decide)).mono ?_; rintro e w5 ⟨x, rfl, hx, d5⟩
    have D5 := Lib.hid d5; clear d5 D3
    go_wp2_with fail
    refine (amongD D5.out [1, 7, 113, 999983, 1000000] (fun x => -1000000000 ≤ x ∧ x ≤ 1000000000) (by decide) (by omega) (by decide)).mono ?_; rintro e w6 ⟨y, rfl, hy, d6⟩
    have D6 := Lib.hid d6; clear d6 D5
    go_wp2_with fail
    refine (specMake_r _ (by omega) (by omega)).mono ?_; rintro e w4 ⟨a, b, c, rfl, ha, hb, b4⟩
    have D4 := D6.out.below b4
    have x4 := X.out.dr D4 (by omega)
    have i0 := x4.1.at 0 rfl; have i1 := x4.1.at 1 rfl; have f0 := x4.2 0; have f1 := x4.2 1
    have DD := Lib.hid (HW.out.next D4.src D4.grown)
    have hz : w.heap.size < w4.heap.size := x4.1.1
    clear D4 D6 b4 x4 HW
    by_cases hc : c = 0
    · subst hc
      go_wp2
      refine bodyPost_ret (v := .agg #[.int .i64 a, .int .i64 b]) (by simp [results, Try.results131, go_sem, *]) rfl ⟨a, b, rfl, ha, hb, ?_⟩
      refine Dr.le (n := n + 2 + 2 + 2 + 2 + 2) ?_ (by omega)
      repeat (first | exact DD.out | refine Dr.alloc ?_ _ | refine Dr.set ?_ _ (by first | omega | (simp <;> omega)))
    · have hc' : (c != 0) = true := by simpa using hc
      clear hc
      go_wp2
      refine bodyPost_ret (v := .agg #[.int .i64 1, .int .i64 1]) (by simp [results, Try.results131, go_sem, *]) rfl ⟨1, 1, rfl, by omega, by omega, ?_⟩
      refine Dr.le (n := n + 2 + 2 + 2 + 2 + 2) ?_ (by omega)
      repeat (first | exact DD.out | refine Dr.alloc ?_ _ | refine Dr.set ?_ _ (by first | omega | (simp <;> omega)))

def Wide (x : Int) : Prop := -9223372036854775808 ≤ x ∧ x ≤ 9223372036854775807

set_option maxHeartbeats 2000000 in
theorem l02Bent_any {w : World} {p n : Nat} {v : Value} {bs : List Int} (h : Src w p v bs n) (hn : n ≤ 999980000) :
    Calls Try.prog 90 #[.pointer (some ⟨p, 0, none⟩)] w fun e w' => ∃ a b : Int, e = .returned (.agg #[.int .i64 a, .int .i64 b]) ∧ Wide a ∧ Wide b ∧ Dr w w' p v bs (n + 40) := by
  have x0 := BoxU.newAt w [.int .i64 0, .int .i64 0] 46 rfl
  have hp : p < w.heap.size := h.lt
  have hS := h.below ((Below.refl _ _).alloc (Nat.le_refl _) (.cells #[.int .i64 0, .int .i64 0] 46))
  have HS := Lib.hid hS
  have HW := Lib.hid ((Dr.start h).alloc (.cells #[.int .i64 0, .int .i64 0] 46))
  have X := Lib.hid x0
  clear x0 h hS
  go_enter Try.func90, Try.ntmps90
  go_wp2_with fail
  refine (l02Draw_any HS.out (by omega)).mono ?_; rintro e w1 ⟨a, b, rfl, ha, hb, d1⟩
  have x1 := X.out.dr d1 (by omega)
  have hz1 : w.heap.size < w1.heap.size := x1.1.1
  have D1 := Lib.hid (HW.out.next d1.src d1.grown)
  have S1 := Lib.hid (Dr.start (d1.src.below ((Below.refl _ _).alloc (Nat.le_refl _) (.cells #[.int .i64 a, .int .i64 b] 46))))
  have D2 := Lib.hid (D1.out.alloc (.cells #[.int .i64 a, .int .i64 b] 46))
  have X1 := Lib.hid (x1.below ((Below.refl _ _).alloc (Nat.le_refl _) (.cells #[.int .i64 a, .int .i64 b] 46)))
  have Y1 := Lib.hid (BoxU.newAt w1 [.int .i64 a, .int .i64 b] 46 rfl)
  clear d1 x1 X HS HW D1
  go_wp2_with fail
  refine (pickD S1.out 24 (by omega) (by omega)).mono ?_; rintro e w2 ⟨r, rfl, hr, d2⟩
  have X2 := Lib.hid (X1.out.dr d2 (by omega)); have Y2 := Lib.hid (Y1.out.dr d2 (by omega))
  have D3 := Lib.hid (D2.out.next d2.src d2.grown); have S2 := Lib.hid (Dr.start d2.src)
  have hz2 : w1.heap.size < w2.heap.size := Y2.out.1.1
  clear d2 X1 Y1 S1 D2
  by_cases r0 : r = 0
  · subst r0
    go_wp2_with fail
    refine (amongD S2.out [0, -1, 1000001, -9223372036854775808] Wide (by unfold Wide; decide) (by omega) (by decide)).mono ?_; rintro e w3 ⟨x, rfl, hx, d3⟩
    have x3 := X2.out.dr d3 (by omega); have y3 := Y2.out.dr d3 (by omega)
    have DD := Lib.hid (D3.out.next d3.src d3.grown)
    have i0 := x3.1.at 0 rfl; have i1 := x3.1.at 1 rfl; have f0 := x3.2 0; have f1 := x3.2 1
    have j0 := y3.1.at 0 rfl; have j1 := y3.1.at 1 rfl; have g0 := y3.2 0; have g1 := y3.2 1
    have hz3 : w1.heap.size < w3.heap.size := y3.1.1
    have hne : ¬ w.heap.size = w1.heap.size := by omega
    have hne2 : ¬ w1.heap.size = w.heap.size := by omega
    clear x3 y3 d3 X2 Y2 D3 S2
    go_wp2
    refine bodyPost_ret (v := .agg #[.int .i64 a, .int .i64 x]) (by simp [results, Try.results90, go_sem, *]) rfl ⟨_, _, rfl, by unfold Wide; omega, hx, ?_⟩
    refine Dr.le (n := n + 20 + 2 + 2) ?_ (by omega)
    repeat (first | exact DD.out | refine Dr.alloc ?_ _ | refine Dr.set ?_ _ (by first | omega | (simp <;> omega)))
  have e0 : (r == 0) = false := by simpa using r0
  by_cases r1 : r = 1
  · subst r1
    go_wp2_with fail
    refine (amongD S2.out [1000000001, -1000000001, -9223372036854775808] Wide (by unfold Wide; decide) (by omega) (by decide)).mono ?_; rintro e w3 ⟨x, rfl, hx, d3⟩
    have x3 := X2.out.dr d3 (by omega); have y3 := Y2.out.dr d3 (by omega)
    have DD := Lib.hid (D3.out.next d3.src d3.grown)
    have i0 := x3.1.at 0 rfl; have i1 := x3.1.at 1 rfl; have f0 := x3.2 0; have f1 := x3.2 1
    have j0 := y3.1.at 0 rfl; have j1 := y3.1.at 1 rfl; have g0 := y3.2 0; have g1 := y3.2 1
    have hz3 : w1.heap.size < w3.heap.size := y3.1.1
    have hne : ¬ w.heap.size = w1.heap.size := by omega
    have hne2 : ¬ w1.heap.size = w.heap.size := by omega
    clear x3 y3 d3 X2 Y2 D3 S2
    go_wp2
    refine bodyPost_ret (v := .agg #[.int .i64 x, .int .i64 b]) (by simp [results, Try.results90, go_sem, *]) rfl ⟨_, _, rfl, hx, by unfold Wide; omega, ?_⟩
    refine Dr.le (n := n + 20 + 2 + 2) ?_ (by omega)
    repeat (first | exact DD.out | refine Dr.alloc ?_ _ | refine Dr.set ?_ _ (by first | omega | (simp <;> omega)))
  have e1 : (r == 1) = false := by simpa using r1
  have x3 := X2.out; have y3 := Y2.out
  have DD := D3
  have i0 := x3.1.at 0 rfl; have i1 := x3.1.at 1 rfl; have f0 := x3.2 0; have f1 := x3.2 1
  have j0 := y3.1.at 0 rfl; have j1 := y3.1.at 1 rfl; have g0 := y3.2 0; have g1 := y3.2 1
  have hne : ¬ w.heap.size = w1.heap.size := by omega
  have hne2 : ¬ w1.heap.size = w.heap.size := by omega
  clear x3 y3 X2 Y2 D3 S2 r0 r1
  by_cases r2 : r = 2
  · subst r2
    go_wp2
    refine bodyPost_ret (v := .agg #[.int .i64 (a * 2), .int .i64 (b * 2)]) (by simp [results, Try.results90, go_sem, *]) rfl ⟨_, _, rfl, by unfold Wide; omega, by unfold Wide; omega, ?_⟩
    refine Dr.le (n := n + 20 + 2) ?_ (by omega)
    repeat (first | exact DD.out | refine Dr.alloc ?_ _ | refine Dr.set ?_ _ (by first | omega | (simp <;> omega)))
  · have e2 : (r == 2) = false := by simpa using r2
    clear r2
    go_wp2
    refine bodyPost_ret (v := .agg #[.int .i64 a, .int .i64 b]) (by simp [results, Try.results90, go_sem, *]) rfl ⟨_, _, rfl, by unfold Wide; omega, by unfold Wide; omega, ?_⟩
    refine Dr.le (n := n + 20 + 2) ?_ (by omega)
    repeat (first | exact DD.out | refine Dr.alloc ?_ _ | refine Dr.set ?_ _ (by first | omega | (simp <;> omega)))

set_option maxHeartbeats 2000000 in
theorem drawFreq_any (v : Value) (bs : List Int) (w : World) (h : Nums .u8 w v bs) (hb : ∀ x ∈ bs, 0 ≤ x ∧ x ≤ 255) :
    Calls Try.prog 34 #[v] w fun e w' => ∃ a b r : Int, e = .returned (.tuple #[.agg #[.int .i64 a, .int .i64 b], .int .i64 r]) ∧ Below w.heap.size w w' := by
  have x0 := BoxU.newAt w [.int .i64 0, .int .i64 0] 46 rfl
  have B0 : Below w.heap.size w (w.alloc (.cells #[.int .i64 0, .int .i64 0] 46)) := (Below.refl _ _).alloc (Nat.le_refl _) _
  have H := Lib.hid (h.below B0); have HB := Lib.hid hb; have BB := Lib.hid B0; have X := Lib.hid x0
  clear h hb B0 x0
  go_enter Try.func34, Try.ntmps34
  go_wp2_with fail
  refine (l00From_any v bs _ H.out HB.out).mono ?_; rintro e w1 ⟨rfl, s1, b1⟩
  have hlt := s1.lt
  simp only [World.size_alloc] at s1 b1 hlt ⊢
  have X1 := Lib.hid (X.out.below (by simpa using b1))
  have B1 := Lib.hid (BB.out.trans (b1.mono (by simp)))
  have D1 := Lib.hid (Dr.start s1)
  clear X BB b1 s1 H HB
  have hz1 : w.heap.size + 1 < w1.heap.size := hlt
  go_wp2_with fail
  refine (amongD D1.out [1, 4, 48, 1000, 48000, 1000000, 1000001, 0, -5] (fun _ => True) (fun _ _ => trivial) (by omega) (by decide)).mono ?_; rintro e w2 ⟨r, rfl, _, d2⟩
  have D2 := Lib.hid d2; clear d2 D1
  go_wp2_with fail
  refine (oneD D2.out 3 (by omega) (by omega)).mono ?_; rintro e w3 ⟨b, rfl, d3⟩
  have D3 := Lib.hid d3; clear d3 D2
  have fin : Hid (∀ w' m, Dr w1 w' (w.heap.size + 1) v bs m → Below w.heap.size w w') := fun w' m d => B1.out.grown d.grown B1.out.size (fun k hk => by simp at hk; omega)
  cases b
  · go_wp2_with fail
    refine (pickD D3.out 1000 (by omega) (by omega)).mono ?_; rintro e w4 ⟨m, rfl, hm, d4⟩
    have D4 := Lib.hid d4; clear d4 D3
    go_wp2_with fail
    refine (amongD D4.out [1, 2, 3, 7, 16, 1000] (fun x => -1000000000 ≤ x ∧ x ≤ 1000000000) (by decide) (by omega) (by decide)).mono ?_; rintro e w5 ⟨q, rfl, hq, d5⟩
    have D5 := Lib.hid d5; clear d5 D4
    go_wp2_with fail
    refine (specMake_r _ (by omega) hq).mono ?_; rintro e w6 ⟨a, b, c, rfl, ha, hb, b6⟩
    have D6 := D5.out.below b6
    have x6 := X1.out.dr D6 (by omega)
    have i0 := x6.1.at 0 rfl; have i1 := x6.1.at 1 rfl; have f0 := x6.2 0; have f1 := x6.2 1
    have hz : w.heap.size < w6.heap.size := x6.1.1
    have FF := Lib.hid (fin.out _ _ D6)
    have hsz := FF.out.size
    clear D6 x6 b6 D5 X1 B1 fin hlt
    go_wp2
    refine bodyPost_ret (v := .tuple #[.agg #[.int .i64 a, .int .i64 b], .int .i64 r]) (by simp [results, Try.results34, go_sem, *]) rfl ⟨_, _, _, rfl, ?_⟩
    repeat (first | exact FF.out | refine Below.alloc ?_ (by first | omega | (simp <;> omega)) _ | refine Below.setCell ?_ (by first | omega | (simp <;> omega)) _)
  · go_wp2_with fail
    refine (l02Bent_any D3.out.src (by omega)).mono ?_; rintro e w6 ⟨a, b, rfl, ha, hb, d6⟩
    have D6 := D3.out.next d6.src d6.grown
    have x6 := X1.out.dr D6 (by omega)
    have i0 := x6.1.at 0 rfl; have i1 := x6.1.at 1 rfl; have f0 := x6.2 0; have f1 := x6.2 1
    have hz : w.heap.size < w6.heap.size := x6.1.1
    have FF := Lib.hid (fin.out _ _ D6)
    have hsz := FF.out.size
    clear D6 x6 d6 D3 X1 B1 fin hlt
    go_wp2
    refine bodyPost_ret (v := .tuple #[.agg #[.int .i64 a, .int .i64 b], .int .i64 r]) (by simp [results, Try.results34, go_sem, *]) rfl ⟨_, _, _, rfl, ?_⟩
    repeat (first | exact FF.out | refine Below.alloc ?_ (by first | omega | (simp <;> omega)) _ | refine Below.setCell ?_ (by first | omega | (simp <;> omega)) _)

end Go.Proofs.Ytfpbnhghceoleaa
