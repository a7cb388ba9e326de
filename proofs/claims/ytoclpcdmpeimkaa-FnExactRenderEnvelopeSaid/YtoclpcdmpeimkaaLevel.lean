/-
  Contracts: the level of an envelope for a gate, on both sides.
-/
import Derived.Test.YtoclpcdmpeimkaaHeld
import Derived.Deep.RegionHeld3
namespace Go.Proofs.Ytoclpcdmpeimkaa
open Go.RowKit

theorem l14Line_past (f t l a : Int) (w : World) (ha : l ≤ a) :
    Calls Try.prog 82 #[.int .i64 f, .int .i64 t, .int .i64 l, .int .i64 a] w fun e w' => e = .returned (.int .i64 t) ∧ w = w' := by
  go_enter Try.func82, Try.ntmps82
  go_wp2
  go_ret
  exact ⟨rfl, rfl⟩

set_option maxHeartbeats 1000000 in
theorem levelAt_any (s : Int) (v : Value) (r : Int) (ps : List (Int × Int)) (g a : Int) (w : World) (h : Pairs w v ps) (hv : envB s ps r = true) (hg : 0 ≤ g ∧ g ≤ 1000000000) (ha : 0 ≤ a ∧ a ≤ 1000000000) :
    Calls Try.prog 84 #[envV s v r, .int .i64 g, .int .i64 a] w fun e w' => e = .returned (.int .i64 (levelF s ps r g a)) ∧ Below w.heap.size w w' := by
  have b0 : Below w.heap.size w (w.alloc (.cells #[.int .i64 s, v, .int .i64 r] 36)) := (Below.refl _ _).alloc (Nat.le_refl _) _
  have h0 := h.below b0
  have x0 := Box.newAt w [.int .i64 s, v, .int .i64 r] 36 rfl
  obtain ⟨hp, hs, hr, h8⟩ := envB_out hv
  have hgb := heldF_bd hp hs hg.1
  have wag : IntKind.i64.wrap (a - g) = a - g := IntWalk.i64_in _ (by omega)
  obtain ⟨E, hE⟩ : ∃ E, E = levelF s ps r g a := ⟨_, rfl⟩
  rw [← hE]
  have HE := Lib.hid hE; have H0 := Lib.hid h0; have HV := Lib.hid hv; have X0 := Lib.hid x0; have B0 := Lib.hid b0
  clear hE h h0 hv hp h8 x0 b0
  by_cases m1 : a < g
  · have hT : Hid (E = heldF s ps a) := by unfold Hid; rw [HE.out, levelF, if_pos m1]
    go_enter Try.func84, Try.ntmps84
    go_wp2_with fail
    refine (held_any s v r ps a _ H0.out HV.out ha).mono ?_
    rintro e w1 ⟨rfl, b1⟩
    have b2 := B0.out.trans (b1.mono B0.out.size)
    go_wp2
    go_ret
    exact ⟨ret_int hT.out.symm, b2⟩
  by_cases m2 : r < a - g
  · have hT : Hid (E = 0) := by unfold Hid; rw [HE.out, levelF, if_neg m1, if_pos m2]
    go_enter Try.func84, Try.ntmps84
    go_wp2
    go_ret
    exact ⟨ret_int hT.out.symm, B0.out⟩
  have hT : Hid (E = lineF (heldF s ps g) 0 r (a - g)) := by unfold Hid; rw [HE.out, levelF, if_neg m1, if_neg m2]
  have K : ∀ w', Below (w.alloc (.cells #[.int .i64 s, v, .int .i64 r] 36)).heap.size (w.alloc (.cells #[.int .i64 s, v, .int .i64 r] 36)) w' → (w'.cell? ⟨w.heap.size, 0, none⟩ = some (.int .i64 s) ∧ w'.cell? ⟨w.heap.size, 1, none⟩ = some v ∧ w'.cell? ⟨w.heap.size, 2, none⟩ = some (.int .i64 r)) :=
    fun w' b' => ⟨(X0.out.below b').at 0 rfl, (X0.out.below b').at 1 rfl, (X0.out.below b').at 2 rfl⟩
  have HK := Lib.hid K; clear K
  have l0 : Below (w.alloc (.cells #[.int .i64 s, v, .int .i64 r] 36)).heap.size (w.alloc (.cells #[.int .i64 s, v, .int .i64 r] 36)) (w.alloc (.cells #[.int .i64 s, v, .int .i64 r] 36)).drew := (Below.refl _ _).drew
  have t0 := HK.out _ l0
  have T0 := Lib.hid t0; clear t0
  have m1' : g ≤ a := by omega
  have m2' : a - g ≤ r := by omega
  go_enter Try.func84, Try.ntmps84
  go_wp2
  go_region_held3 (fun w' => w'.cell? ⟨w.heap.size, 0, none⟩ = some (.int .i64 s) ∧ w'.cell? ⟨w.heap.size, 1, none⟩ = some v ∧ w'.cell? ⟨w.heap.size, 2, none⟩ = some (.int .i64 r)) (first | exact T0.out | exact t1) (first | (go_at_call 88; (with_reducible refine (held_any s v r ps g _ (H0.out.below l0) HV.out hg).mono ?_); rintro e w1 ⟨rfl, b1⟩; have l1 := Below.trans l0 (b1.mono (Below.size l0)); have t1 := HK.out _ l1) | (go_at_call 89; (with_reducible refine (lineAt_any (heldF s ps g) 0 r (a - g) _ hgb (by omega) hr (by omega)).mono ?_); rintro e w2 ⟨rfl, rfl⟩))
  have b2 := B0.out.trans (l1.mono B0.out.size)
  clear t1
  go_wp2
  go_ret
  exact ⟨ret_int (by first | exact hT.out.symm | (rw [wag]; exact hT.out.symm)), b2⟩

set_option maxHeartbeats 1000000 in
theorem l14At_any (s : Int) (v : Value) (r : Int) (ps : List (Int × Int)) (p : Nat) (g a : Int) (w : World) (h : Pairs w v ps) (x0 : Box w p [.int .i64 s, v, .int .i64 r]) (hv : envB s ps r = true) (hg : 0 ≤ g ∧ g ≤ 1000000000) (ha : 0 ≤ a ∧ a ≤ 1000000000) :
    Calls Try.prog 54 #[.pointer (some ⟨p, 0, none⟩), .int .i64 g, .int .i64 a] w fun e w' => e = .returned (.int .i64 (levelF s ps r g a)) ∧ Below w.heap.size w w' := by
  obtain ⟨hp, hs, hr, h8⟩ := envB_out hv
  have hgb := heldF_bd hp hs hg.1
  have wag : IntKind.i64.wrap (a - g) = a - g := IntWalk.i64_in _ (by omega)
  obtain ⟨E, hE⟩ : ∃ E, E = levelF s ps r g a := ⟨_, rfl⟩
  rw [← hE]
  have HE := Lib.hid hE; have H0 := Lib.hid h; have HV := Lib.hid hv; have X0 := Lib.hid x0
  clear hE h hv hp h8 x0
  by_cases m1 : a < g
  · have hT : Hid (E = heldF s ps a) := by unfold Hid; rw [HE.out, levelF, if_pos m1]
    go_enter Try.func54, Try.ntmps54
    go_wp2_with fail
    refine (l14Held_any s v r ps p a _ H0.out (X0.out.at 0 rfl) (X0.out.at 1 rfl) HV.out ha).mono ?_
    rintro e w1 ⟨rfl, b1⟩
    go_wp2
    go_ret
    exact ⟨ret_int hT.out.symm, b1⟩
  have K : ∀ w', Below w.heap.size w w' → (w'.cell? ⟨p, 0, none⟩ = some (.int .i64 s) ∧ w'.cell? ⟨p, 1, none⟩ = some v ∧ w'.cell? ⟨p, 2, none⟩ = some (.int .i64 r)) :=
    fun w' b' => ⟨(X0.out.below b').at 0 rfl, (X0.out.below b').at 1 rfl, (X0.out.below b').at 2 rfl⟩
  have HK := Lib.hid K; clear K
  have l0 : Below w.heap.size w w.drew := (Below.refl _ _).drew
  have t0 := HK.out _ l0
  have T0 := Lib.hid t0; clear t0
  have m1' : g ≤ a := by omega
  have c0 := (X0.out.below l0).at 0 rfl
  have C0 := Lib.hid c0; clear c0
  have c1 := (X0.out.below l0).at 1 rfl
  have C1 := Lib.hid c1; clear c1
  by_cases m2 : r ≤ a - g
  · have hT : Hid (E = 0) := by
      unfold Hid; rw [HE.out, levelF, if_neg m1]
      split
      · rfl
      · unfold lineF; rw [if_pos (by omega)]
    go_enter Try.func54, Try.ntmps54
    go_wp2
    go_region_held3 (fun w' => w'.cell? ⟨p, 0, none⟩ = some (.int .i64 s) ∧ w'.cell? ⟨p, 1, none⟩ = some v ∧ w'.cell? ⟨p, 2, none⟩ = some (.int .i64 r)) (first | exact T0.out | exact t1) (first | (go_at_call 81; (with_reducible refine (l14Held_any s v r ps p g _ (H0.out.below l0) C0.out C1.out HV.out hg).mono ?_); rintro e w1 ⟨rfl, b1⟩; have l1 := Below.trans l0 (b1.mono (Below.size l0)); have t1 := HK.out _ l1) | (go_at_call 82; (with_reducible refine (l14Line_past (heldF s ps g) 0 r (a - g) _ (by omega)).mono ?_); rintro e w2 ⟨rfl, rfl⟩))
    clear t1
    go_wp2
    go_ret
    exact ⟨ret_int hT.out.symm, l1⟩
  have hT : Hid (E = lineF (heldF s ps g) 0 r (a - g)) := by unfold Hid; rw [HE.out, levelF, if_neg m1, if_neg (by omega)]
  have m2' : a - g < r := by omega
  go_enter Try.func54, Try.ntmps54
  go_wp2
  go_region_held3 (fun w' => w'.cell? ⟨p, 0, none⟩ = some (.int .i64 s) ∧ w'.cell? ⟨p, 1, none⟩ = some v ∧ w'.cell? ⟨p, 2, none⟩ = some (.int .i64 r)) (first | exact T0.out | exact t1) (first | (go_at_call 81; (with_reducible refine (l14Held_any s v r ps p g _ (H0.out.below l0) C0.out C1.out HV.out hg).mono ?_); rintro e w1 ⟨rfl, b1⟩; have l1 := Below.trans l0 (b1.mono (Below.size l0)); have t1 := HK.out _ l1) | (go_at_call 82; (with_reducible refine (l14Line_any (heldF s ps g) 0 r (a - g) _ hgb (by omega) hr (by omega)).mono ?_); rintro e w2 ⟨rfl, rfl⟩))
  clear t1
  go_wp2
  go_ret
  exact ⟨ret_int (by first | exact hT.out.symm | (rw [wag]; exact hT.out.symm)), l1⟩

end Go.Proofs.Ytoclpcdmpeimkaa
