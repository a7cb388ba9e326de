/-
  ValidEnvelope of both sides; the law FnExactValidEnvelope, walked.
-/
import Derived.Test.YtbahhkpfbmlcjaaEnv
namespace Go.Proofs.Ytbahhkpfbmlcjaa
open Go.RowKit

theorem implValidEnv_any (s : Int) (v : Value) (r : Int) (ps : List (Int × Int)) (w : World) (h : Pairs w v ps) :
    Calls Try.prog 36 #[envV s v r] w fun e w' => e = .returned (.bool (envB s ps r)) ∧ Below w.heap.size w w' := by
  have b0 : Below w.heap.size w (w.alloc (.cells #[.int .i64 s, v, .int .i64 r] 53)) := (Below.refl _ _).alloc (Nat.le_refl _) _
  go_enter Try.func36, Try.ntmps36
  go_wp2_with fail
  refine (isEnvelope_any s v r ps _ (h.below b0)).mono ?_
  rintro e w1 ⟨rfl, b1⟩
  go_wp2_with fail
  go_ret
  exact ⟨rfl, b0.trans (b1.mono (by simp))⟩

theorem specValidEnv_any (s : Int) (v : Value) (r : Int) (ps : List (Int × Int)) (w : World) (h : Pairs w v ps) :
    Calls Try.prog 35 #[envV s v r] w fun e w' => e = .returned (.bool (envB s ps r)) ∧ Below w.heap.size w w' := by
  have b0 : Below w.heap.size w (w.alloc (.cells #[.int .i64 s, v, .int .i64 r] 53)) := (Below.refl _ _).alloc (Nat.le_refl _) _
  go_enter Try.func35, Try.ntmps35
  go_wp2_with fail
  refine (l14Ok_any s v r ps _ _ (h.below b0) (by simp [go_sem]) (by simp [go_sem]) (by simp [go_sem])).mono ?_
  rintro e w1 ⟨rfl, rfl⟩
  go_wp2_with fail
  go_ret
  exact ⟨rfl, b0⟩

theorem szF_in {n : Nat} {m : Int} (h : ¬ szF n m < 0) (hm : m ≤ 1048576) : n ≤ 1048576 ∧ 0 ≤ szF n m ∧ szF n m ≤ 1048576 ∧ szF n m = m - n := by
  unfold szF at *; split at h <;> simp_all <;> omega

theorem law_FnExactValidEnvelope (s : Int) (a : Option Addr) (len cap : Nat) (r : Int) (ps : List (Int × Int)) (w : World) (hx : Pairs w (.slice a len cap) ps) (_ : InRP ps) :
    Calls Try.prog 10 #[envV s (.slice a len cap) r] w fun e w' => e = .returned (.bool true) ∧ Below w.heap.size w w' := by
  have B0 : Below w.heap.size w (w.alloc (.cells #[.int .i64 s, .slice a len cap, .int .i64 r] 48)) := (Below.refl _ _).alloc (Nat.le_refl _) _
  by_cases hsz : szF ps.length 1048576 < 0
  · go_enter Try.func10, Try.ntmps10
    go_wp2_with fail
    refine (szEnvelope_any s _ r ps 1048576 _ (hx.below B0) (by omega)).mono ?_; rintro e w1 ⟨rfl, b1⟩
    go_wp2_with fail
    go_ret
    exact ⟨rfl, B0.trans (b1.mono B0.size)⟩
  have hs := szF_in hsz (by omega)
  have hs1 := hs.1
  have hs2 := hs.2.1
  clear hs hsz
  go_enter Try.func10, Try.ntmps10
  go_wp2_with fail
  refine (szEnvelope_any s _ r ps 1048576 _ (hx.below B0) (by omega)).mono ?_; rintro e w1 ⟨rfl, b1⟩
  have B1 := B0.trans (b1.mono B0.size)
  have kcw1wheapsize_0 : w1.cell? ⟨w.heap.size, 0, none⟩ = some (.int .i64 s) := (b1.cell (p := ⟨w.heap.size, 0, none⟩) (by simp <;> omega)).trans (by simp [go_sem])
  have kfw1wheapsize_0 : w1.frozen? ⟨w.heap.size, 0, none⟩ = false := (b1.frozen (p := ⟨w.heap.size, 0, none⟩) (by simp <;> omega)).trans (by simp [go_sem])
  have kcw1wheapsize_1 : w1.cell? ⟨w.heap.size, 1, none⟩ = some (.slice a len cap) := (b1.cell (p := ⟨w.heap.size, 1, none⟩) (by simp <;> omega)).trans (by simp [go_sem])
  have kfw1wheapsize_1 : w1.frozen? ⟨w.heap.size, 1, none⟩ = false := (b1.frozen (p := ⟨w.heap.size, 1, none⟩) (by simp <;> omega)).trans (by simp [go_sem])
  have kcw1wheapsize_2 : w1.cell? ⟨w.heap.size, 2, none⟩ = some (.int .i64 r) := (b1.cell (p := ⟨w.heap.size, 2, none⟩) (by simp <;> omega)).trans (by simp [go_sem])
  have kfw1wheapsize_2 : w1.frozen? ⟨w.heap.size, 2, none⟩ = false := (b1.frozen (p := ⟨w.heap.size, 2, none⟩) (by simp <;> omega)).trans (by simp [go_sem])
  clear B0 b1
  go_wp2_with fail
  refine (toEnvelope_any s _ r ps _ (hx.below B1) hs1).mono ?_; rintro e w2 ⟨v2, rfl, o2, b2⟩
  have B2 := B1.trans (b2.mono B1.size)
  have d0 := (b2.cell (World.block_lt_of_cell? _ _ kcw1wheapsize_0)).trans kcw1wheapsize_0
  have d1 := (b2.cell (World.block_lt_of_cell? _ _ kcw1wheapsize_1)).trans kcw1wheapsize_1
  have d2 := (b2.cell (World.block_lt_of_cell? _ _ kcw1wheapsize_2)).trans kcw1wheapsize_2
  clear B1 b2 kcw1wheapsize_0 kcw1wheapsize_1 kcw1wheapsize_2 kfw1wheapsize_0 kfw1wheapsize_1 kfw1wheapsize_2
  go_wp2_with fail
  refine (specValidEnv_any s v2 r ps _ (o2.pairs (by omega))).mono ?_; rintro e w3 ⟨rfl, b3⟩
  have B3 := B2.trans (b3.mono B2.size)
  have e0 := (b3.cell (World.block_lt_of_cell? _ _ d0)).trans d0
  have e1 := (b3.cell (World.block_lt_of_cell? _ _ d1)).trans d1
  have e2 := (b3.cell (World.block_lt_of_cell? _ _ d2)).trans d2
  clear B2 b3 d0 d1 d2 o2
  go_wp2_with fail
  refine (toEnvelope_any s _ r ps _ (hx.below B3) hs1).mono ?_; rintro e w4 ⟨v4, rfl, o4, b4⟩
  have B4 := B3.trans (b4.mono B3.size)
  have d0 := (b4.cell (World.block_lt_of_cell? _ _ e0)).trans e0
  have d1 := (b4.cell (World.block_lt_of_cell? _ _ e1)).trans e1
  have d2 := (b4.cell (World.block_lt_of_cell? _ _ e2)).trans e2
  clear B3 b4 e0 e1 e2
  obtain ⟨a4, cap4, rfl, _, _⟩ := o4.shape1
  go_wp2_with fail
  have A4 : Below w4.heap.size w4 (w4.alloc (.cells #[.int .i64 s, .slice a4 ps.length cap4, .int .i64 r] 53)) := (Below.refl _ _).alloc (Nat.le_refl _) _
  have B5 := B4.trans (A4.mono B4.size)
  refine (implValidEnv_any s _ r ps _ ((o4.below A4).pairs (by omega))).mono ?_; rintro e w6 ⟨rfl, b6⟩
  have B6 := B5.trans (b6.mono B5.size)
  have hz4 : w4.heap.size < w6.heap.size := by have := b6.size; simp at this; omega
  have x0 : w6.cell? ⟨w4.heap.size, 0, none⟩ = some (.int .i64 s) := (b6.cell (p := ⟨w4.heap.size, 0, none⟩) (by simp)).trans (by simp [go_sem])
  have x1 : w6.cell? ⟨w4.heap.size, 1, none⟩ = some (.slice a4 ps.length cap4) := (b6.cell (p := ⟨w4.heap.size, 1, none⟩) (by simp)).trans (by simp [go_sem])
  have x2 : w6.cell? ⟨w4.heap.size, 2, none⟩ = some (.int .i64 r) := (b6.cell (p := ⟨w4.heap.size, 2, none⟩) (by simp)).trans (by simp [go_sem])
  have l6 : Below w4.heap.size w4 w6 := A4.trans (b6.mono A4.size)
  have e0 := (l6.cell (World.block_lt_of_cell? _ _ d0)).trans d0
  have e1 := (l6.cell (World.block_lt_of_cell? _ _ d1)).trans d1
  have e2 := (l6.cell (World.block_lt_of_cell? _ _ d2)).trans d2
  have o6 := o4.below l6
  clear B5 b6 A4 B4 d0 d1 d2 l6 o4
  go_wp2
  have B6d := B6.drew
  have K1 : ∀ w7, Below w6.drew.heap.size w6.drew w7 → (w7.cell? ⟨w4.heap.size, 0, none⟩ = some (.int .i64 s) ∧ w7.cell? ⟨w4.heap.size, 1, none⟩ = some (.slice a4 ps.length cap4) ∧ w7.cell? ⟨w4.heap.size, 2, none⟩ = some (.int .i64 r) ∧ w7.cell? ⟨w.heap.size, 0, none⟩ = some (.int .i64 s) ∧ w7.cell? ⟨w.heap.size, 1, none⟩ = some (.slice a len cap) ∧ w7.cell? ⟨w.heap.size, 2, none⟩ = some (.int .i64 r)) := fun w7 b7 =>
    have l := Below.trans ((Below.refl w6.heap.size w6).drew) b7
    ⟨(l.cell (World.block_lt_of_cell? _ _ x0)).trans x0, (l.cell (World.block_lt_of_cell? _ _ x1)).trans x1, (l.cell (World.block_lt_of_cell? _ _ x2)).trans x2, (l.cell (World.block_lt_of_cell? _ _ e0)).trans e0, (l.cell (World.block_lt_of_cell? _ _ e1)).trans e1, (l.cell (World.block_lt_of_cell? _ _ e2)).trans e2⟩
  have HK := Lib.hid K1; clear K1
  go_region_held3 (fun w' => w'.cell? ⟨w4.heap.size, 0, none⟩ = some (.int .i64 s) ∧ w'.cell? ⟨w4.heap.size, 1, none⟩ = some (.slice a4 ps.length cap4) ∧ w'.cell? ⟨w4.heap.size, 2, none⟩ = some (.int .i64 r) ∧ w'.cell? ⟨w.heap.size, 0, none⟩ = some (.int .i64 s) ∧ w'.cell? ⟨w.heap.size, 1, none⟩ = some (.slice a len cap) ∧ w'.cell? ⟨w.heap.size, 2, none⟩ = some (.int .i64 r)) (first | exact ⟨x0, x1, x2, e0, e1, e2⟩ | exact t0 | exact u0) (first | (go_at_call 32; refine (toEnvelope_any s _ r ps _ (hx.below B6d) hs1).mono ?_; rintro e w7 ⟨v7, rfl, o7, b7⟩; have t0 := HK.out _ b7; have l7 := Below.trans ((Below.refl w6.heap.size w6).drew) b7) | (go_at_call 34; refine (eqEnvelope_same s _ _ r ps _ ((o6.below l7).pairs (by omega)) (o7.pairs (by omega))).mono ?_; rintro e w8 ⟨rfl, b8⟩; have u0 := HK.out _ (b7.trans (b8.mono b7.size))))
  have B8 := (B6d.trans (b7.mono B6d.size)).trans (b8.mono (B6d.trans (b7.mono B6d.size)).size)
  clear b7 b8 B6 B6d o6 o7
  go_wp2
  go_ret
  exact ⟨rfl, B8⟩

end Go.Proofs.Ytbahhkpfbmlcjaa
