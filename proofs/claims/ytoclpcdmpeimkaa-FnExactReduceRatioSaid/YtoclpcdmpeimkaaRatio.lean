/-
  ReduceRatio of both sides, and its law.
-/
import Derived.Test.YtoclpcdmpeimkaaReduce
namespace Go.Proofs.Ytoclpcdmpeimkaa
open Go.RowKit

/-- A ratio brought into an octave, and a code. -/
def RatR (a b c d : Int) (R : (Int × Int) × Int × Int) : Prop :=
  if (frB a b && frB c d) = true then (if a ≤ 0 ∨ cmpF c d 1 1 ≤ 0 then R = ((0, 0), 0, 2) else RedR a b c d R) else R = ((0, 0), 0, 1)
theorem RatR.det {a b c d : Int} {R S : (Int × Int) × Int × Int} (h : RatR a b c d R) (h' : RatR a b c d S) : R = S := by
  unfold RatR at h h'
  split at h
  · rename_i h1
    rw [if_pos h1] at h'
    split at h
    · rename_i h2
      rw [if_pos h2] at h'
      rw [h, h']
    · rename_i h2
      rw [if_neg h2] at h'
      exact RedR.det h h'
  · rename_i h1
    rw [if_neg h1] at h'
    rw [h, h']

set_option maxHeartbeats 1000000 in
theorem specRatio_any (a b c d : Int) (w : World) :
    Calls Try.prog 8 #[.agg #[.int .i64 a, .int .i64 b], .agg #[.int .i64 c, .int .i64 d]] w fun e w' => ∃ R, RatR a b c d R ∧ e = .returned (.tuple #[.agg #[.int .i64 (R.1.1), .int .i64 (R.1.2)], .int .i64 (R.2.1), .int .i64 (R.2.2)]) ∧ Below w.heap.size w w' := by
  cases h1 : frB a b
  · have B0 : Below w.heap.size w w := Below.refl _ _
    have A1 : Below w.heap.size w (w.alloc (.cells #[.int .i64 a, .int .i64 b] 24)) := (Below.refl _ _).alloc (Nat.le_refl _) _
    have B1 := B0.trans (A1.mono B0.size)
    have xa_1 : BoxU (w.alloc (.cells #[.int .i64 a, .int .i64 b] 24)) (w.heap.size) [.int .i64 a, .int .i64 b] := BoxU.newAt _ _ _ (by rfl)
    clear A1 B0
    have A2 : Below (w.alloc (.cells #[.int .i64 a, .int .i64 b] 24)).heap.size (w.alloc (.cells #[.int .i64 a, .int .i64 b] 24)) ((w.alloc (.cells #[.int .i64 a, .int .i64 b] 24)).alloc (.cells #[.int .i64 c, .int .i64 d] 24)) := (Below.refl _ _).alloc (Nat.le_refl _) _
    have B2 := B1.trans (A2.mono B1.size)
    have xa_2 := xa_1.below A2; clear xa_1
    have xb_2 : BoxU ((w.alloc (.cells #[.int .i64 a, .int .i64 b] 24)).alloc (.cells #[.int .i64 c, .int .i64 d] 24)) (w.heap.size + 1) [.int .i64 c, .int .i64 d] := BoxU.newAt _ _ _ (by simp)
    clear A2 B1
    have A3 : Below ((w.alloc (.cells #[.int .i64 a, .int .i64 b] 24)).alloc (.cells #[.int .i64 c, .int .i64 d] 24)).heap.size ((w.alloc (.cells #[.int .i64 a, .int .i64 b] 24)).alloc (.cells #[.int .i64 c, .int .i64 d] 24)) (((w.alloc (.cells #[.int .i64 a, .int .i64 b] 24)).alloc (.cells #[.int .i64 c, .int .i64 d] 24)).alloc (.cells #[.int .i64 0, .int .i64 0] 24)) := (Below.refl _ _).alloc (Nat.le_refl _) _
    have B3 := B2.trans (A3.mono B2.size)
    have xa_3 := xa_2.below A3; clear xa_2
    have xb_3 := xb_2.below A3; clear xb_2
    have xr_3 : BoxU (((w.alloc (.cells #[.int .i64 a, .int .i64 b] 24)).alloc (.cells #[.int .i64 c, .int .i64 d] 24)).alloc (.cells #[.int .i64 0, .int .i64 0] 24)) (w.heap.size + 1 + 1) [.int .i64 0, .int .i64 0] := BoxU.newAt _ _ _ (by simp)
    clear A3 B2
    go_enter Try.func8, Try.ntmps8
    have ca0 := xa_3.1.at 0 rfl
    have ca1 := xa_3.1.at 1 rfl
    have cb0 := xb_3.1.at 0 rfl
    have cb1 := xb_3.1.at 1 rfl
    go_wp2_with fail
    clear ca0 ca1 cb0 cb1
    refine (l02Ok_b a b false _ h1).mono ?_; rintro e w4 ⟨rfl, b4⟩
    have B4 := B3.trans (b4.mono B3.size)
    have xa_4 := xa_3.below b4; clear xa_3
    have xb_4 := xb_3.below b4; clear xb_3
    have xr_4 := xr_3.below b4; clear xr_3
    clear b4 B3
    have ca0 := xa_4.1.at 0 rfl
    have ca1 := xa_4.1.at 1 rfl
    have cb0 := xb_4.1.at 0 rfl
    have cb1 := xb_4.1.at 1 rfl
    have cr0 := xr_4.1.at 0 rfl
    have cr1 := xr_4.1.at 1 rfl
    have fr0 := xr_4.2 0
    have fr1 := xr_4.2 1
    have HBB := Lib.hid B4; clear B4
    have hsz := HBB.out.size
    go_wp2
    refine bodyPost_ret (v := .tuple #[.agg #[.int .i64 (0), .int .i64 (0)], .int .i64 (0), .int .i64 (1)]) (by simp [results, Try.results8, go_sem, *]) rfl ⟨((0, 0), 0, 1), by simp [RatR, h1], rfl, ?_⟩
    repeat (first | exact HBB.out | refine Below.alloc ?_ (by simp <;> omega) _ | refine Below.setCell ?_ (by simp <;> omega) _ | refine below_drewN ?_ _)
  cases h2 : frB c d
  · have B0 : Below w.heap.size w w := Below.refl _ _
    have A1 : Below w.heap.size w (w.alloc (.cells #[.int .i64 a, .int .i64 b] 24)) := (Below.refl _ _).alloc (Nat.le_refl _) _
    have B1 := B0.trans (A1.mono B0.size)
    have xa_1 : BoxU (w.alloc (.cells #[.int .i64 a, .int .i64 b] 24)) (w.heap.size) [.int .i64 a, .int .i64 b] := BoxU.newAt _ _ _ (by rfl)
    clear A1 B0
    have A2 : Below (w.alloc (.cells #[.int .i64 a, .int .i64 b] 24)).heap.size (w.alloc (.cells #[.int .i64 a, .int .i64 b] 24)) ((w.alloc (.cells #[.int .i64 a, .int .i64 b] 24)).alloc (.cells #[.int .i64 c, .int .i64 d] 24)) := (Below.refl _ _).alloc (Nat.le_refl _) _
    have B2 := B1.trans (A2.mono B1.size)
    have xa_2 := xa_1.below A2; clear xa_1
    have xb_2 : BoxU ((w.alloc (.cells #[.int .i64 a, .int .i64 b] 24)).alloc (.cells #[.int .i64 c, .int .i64 d] 24)) (w.heap.size + 1) [.int .i64 c, .int .i64 d] := BoxU.newAt _ _ _ (by simp)
    clear A2 B1
    have A3 : Below ((w.alloc (.cells #[.int .i64 a, .int .i64 b] 24)).alloc (.cells #[.int .i64 c, .int .i64 d] 24)).heap.size ((w.alloc (.cells #[.int .i64 a, .int .i64 b] 24)).alloc (.cells #[.int .i64 c, .int .i64 d] 24)) (((w.alloc (.cells #[.int .i64 a, .int .i64 b] 24)).alloc (.cells #[.int .i64 c, .int .i64 d] 24)).alloc (.cells #[.int .i64 0, .int .i64 0] 24)) := (Below.refl _ _).alloc (Nat.le_refl _) _
    have B3 := B2.trans (A3.mono B2.size)
    have xa_3 := xa_2.below A3; clear xa_2
    have xb_3 := xb_2.below A3; clear xb_2
    have xr_3 : BoxU (((w.alloc (.cells #[.int .i64 a, .int .i64 b] 24)).alloc (.cells #[.int .i64 c, .int .i64 d] 24)).alloc (.cells #[.int .i64 0, .int .i64 0] 24)) (w.heap.size + 1 + 1) [.int .i64 0, .int .i64 0] := BoxU.newAt _ _ _ (by simp)
    clear A3 B2
    go_enter Try.func8, Try.ntmps8
    have ca0 := xa_3.1.at 0 rfl
    have ca1 := xa_3.1.at 1 rfl
    have cb0 := xb_3.1.at 0 rfl
    have cb1 := xb_3.1.at 1 rfl
    go_wp2_with fail
    clear ca0 ca1 cb0 cb1
    refine (l02Ok_b a b true _ h1).mono ?_; rintro e w4 ⟨rfl, b4⟩
    have B4 := B3.trans (b4.mono B3.size)
    have xa_4 := xa_3.below b4; clear xa_3
    have xb_4 := xb_3.below b4; clear xb_3
    have xr_4 := xr_3.below b4; clear xr_3
    clear b4 B3
    have ca0 := xa_4.1.at 0 rfl
    have ca1 := xa_4.1.at 1 rfl
    have cb0 := xb_4.1.at 0 rfl
    have cb1 := xb_4.1.at 1 rfl
    go_wp2_with fail
    clear ca0 ca1 cb0 cb1
    refine (l02Ok_b c d false _ h2).mono ?_; rintro e w5 ⟨rfl, b5⟩
    have B5 := B4.trans (b5.mono B4.size)
    have xa_5 := xa_4.below b5; clear xa_4
    have xb_5 := xb_4.below b5; clear xb_4
    have xr_5 := xr_4.below b5; clear xr_4
    clear b5 B4
    have ca0 := xa_5.1.at 0 rfl
    have ca1 := xa_5.1.at 1 rfl
    have cb0 := xb_5.1.at 0 rfl
    have cb1 := xb_5.1.at 1 rfl
    have cr0 := xr_5.1.at 0 rfl
    have cr1 := xr_5.1.at 1 rfl
    have fr0 := xr_5.2 0
    have fr1 := xr_5.2 1
    have HBB := Lib.hid B5; clear B5
    have hsz := HBB.out.size
    go_wp2
    refine bodyPost_ret (v := .tuple #[.agg #[.int .i64 (0), .int .i64 (0)], .int .i64 (0), .int .i64 (1)]) (by simp [results, Try.results8, go_sem, *]) rfl ⟨((0, 0), 0, 1), by simp [RatR, h2], rfl, ?_⟩
    repeat (first | exact HBB.out | refine Below.alloc ?_ (by simp <;> omega) _ | refine Below.setCell ?_ (by simp <;> omega) _ | refine below_drewN ?_ _)
  have q1 := frB_bd h1; have q2 := frB_bd h2
  by_cases h3 : a ≤ 0
  · have B0 : Below w.heap.size w w := Below.refl _ _
    have A1 : Below w.heap.size w (w.alloc (.cells #[.int .i64 a, .int .i64 b] 24)) := (Below.refl _ _).alloc (Nat.le_refl _) _
    have B1 := B0.trans (A1.mono B0.size)
    have xa_1 : BoxU (w.alloc (.cells #[.int .i64 a, .int .i64 b] 24)) (w.heap.size) [.int .i64 a, .int .i64 b] := BoxU.newAt _ _ _ (by rfl)
    clear A1 B0
    have A2 : Below (w.alloc (.cells #[.int .i64 a, .int .i64 b] 24)).heap.size (w.alloc (.cells #[.int .i64 a, .int .i64 b] 24)) ((w.alloc (.cells #[.int .i64 a, .int .i64 b] 24)).alloc (.cells #[.int .i64 c, .int .i64 d] 24)) := (Below.refl _ _).alloc (Nat.le_refl _) _
    have B2 := B1.trans (A2.mono B1.size)
    have xa_2 := xa_1.below A2; clear xa_1
    have xb_2 : BoxU ((w.alloc (.cells #[.int .i64 a, .int .i64 b] 24)).alloc (.cells #[.int .i64 c, .int .i64 d] 24)) (w.heap.size + 1) [.int .i64 c, .int .i64 d] := BoxU.newAt _ _ _ (by simp)
    clear A2 B1
    have A3 : Below ((w.alloc (.cells #[.int .i64 a, .int .i64 b] 24)).alloc (.cells #[.int .i64 c, .int .i64 d] 24)).heap.size ((w.alloc (.cells #[.int .i64 a, .int .i64 b] 24)).alloc (.cells #[.int .i64 c, .int .i64 d] 24)) (((w.alloc (.cells #[.int .i64 a, .int .i64 b] 24)).alloc (.cells #[.int .i64 c, .int .i64 d] 24)).alloc (.cells #[.int .i64 0, .int .i64 0] 24)) := (Below.refl _ _).alloc (Nat.le_refl _) _
    have B3 := B2.trans (A3.mono B2.size)
    have xa_3 := xa_2.below A3; clear xa_2
    have xb_3 := xb_2.below A3; clear xb_2
    have xr_3 : BoxU (((w.alloc (.cells #[.int .i64 a, .int .i64 b] 24)).alloc (.cells #[.int .i64 c, .int .i64 d] 24)).alloc (.cells #[.int .i64 0, .int .i64 0] 24)) (w.heap.size + 1 + 1) [.int .i64 0, .int .i64 0] := BoxU.newAt _ _ _ (by simp)
    clear A3 B2
    have hd : decide (a ≤ 0) = true := decide_eq_true h3
    have HRR := Lib.hid (show RatR a b c d ((0, 0), 0, 2) by unfold RatR; simp [h1, h2, h3])
    go_enter Try.func8, Try.ntmps8
    have ca0 := xa_3.1.at 0 rfl
    have ca1 := xa_3.1.at 1 rfl
    have cb0 := xb_3.1.at 0 rfl
    have cb1 := xb_3.1.at 1 rfl
    go_wp2_with fail
    clear ca0 ca1 cb0 cb1
    refine (l02Ok_b a b true _ h1).mono ?_; rintro e w4 ⟨rfl, b4⟩
    have B4 := B3.trans (b4.mono B3.size)
    have xa_4 := xa_3.below b4; clear xa_3
    have xb_4 := xb_3.below b4; clear xb_3
    have xr_4 := xr_3.below b4; clear xr_3
    clear b4 B3
    have ca0 := xa_4.1.at 0 rfl
    have ca1 := xa_4.1.at 1 rfl
    have cb0 := xb_4.1.at 0 rfl
    have cb1 := xb_4.1.at 1 rfl
    go_wp2_with fail
    clear ca0 ca1 cb0 cb1
    refine (l02Ok_b c d true _ h2).mono ?_; rintro e w5 ⟨rfl, b5⟩
    have B5 := B4.trans (b5.mono B4.size)
    have xa_5 := xa_4.below b5; clear xa_4
    have xb_5 := xb_4.below b5; clear xb_4
    have xr_5 := xr_4.below b5; clear xr_4
    clear b5 B4
    have ca0 := xa_5.1.at 0 rfl
    have ca1 := xa_5.1.at 1 rfl
    have cb0 := xb_5.1.at 0 rfl
    have cb1 := xb_5.1.at 1 rfl
    go_wp2
    go_quiet (fail)
    clear ca0 ca1 cb0 cb1
    have ca0 := xa_5.1.at 0 rfl
    have ca1 := xa_5.1.at 1 rfl
    have cb0 := xb_5.1.at 0 rfl
    have cb1 := xb_5.1.at 1 rfl
    have cr0 := xr_5.1.at 0 rfl
    have cr1 := xr_5.1.at 1 rfl
    have fr0 := xr_5.2 0
    have fr1 := xr_5.2 1
    have HBB := Lib.hid B5; clear B5
    have hsz := HBB.out.size
    go_wp2
    refine bodyPost_ret (v := .tuple #[.agg #[.int .i64 (0), .int .i64 (0)], .int .i64 (0), .int .i64 (2)]) (by simp [results, Try.results8, go_sem, *]) rfl ⟨_, HRR.out, rfl, ?_⟩
    repeat (first | exact HBB.out | refine Below.alloc ?_ (by simp <;> omega) _ | refine Below.setCell ?_ (by simp <;> omega) _ | refine below_drewN ?_ _)
  have hd3 : decide (a ≤ 0) = false := decide_eq_false h3
  by_cases h4 : cmpF c d 1 1 ≤ 0
  · have B0 : Below w.heap.size w w := Below.refl _ _
    have A1 : Below w.heap.size w (w.alloc (.cells #[.int .i64 a, .int .i64 b] 24)) := (Below.refl _ _).alloc (Nat.le_refl _) _
    have B1 := B0.trans (A1.mono B0.size)
    have xa_1 : BoxU (w.alloc (.cells #[.int .i64 a, .int .i64 b] 24)) (w.heap.size) [.int .i64 a, .int .i64 b] := BoxU.newAt _ _ _ (by rfl)
    clear A1 B0
    have A2 : Below (w.alloc (.cells #[.int .i64 a, .int .i64 b] 24)).heap.size (w.alloc (.cells #[.int .i64 a, .int .i64 b] 24)) ((w.alloc (.cells #[.int .i64 a, .int .i64 b] 24)).alloc (.cells #[.int .i64 c, .int .i64 d] 24)) := (Below.refl _ _).alloc (Nat.le_refl _) _
    have B2 := B1.trans (A2.mono B1.size)
    have xa_2 := xa_1.below A2; clear xa_1
    have xb_2 : BoxU ((w.alloc (.cells #[.int .i64 a, .int .i64 b] 24)).alloc (.cells #[.int .i64 c, .int .i64 d] 24)) (w.heap.size + 1) [.int .i64 c, .int .i64 d] := BoxU.newAt _ _ _ (by simp)
    clear A2 B1
    have A3 : Below ((w.alloc (.cells #[.int .i64 a, .int .i64 b] 24)).alloc (.cells #[.int .i64 c, .int .i64 d] 24)).heap.size ((w.alloc (.cells #[.int .i64 a, .int .i64 b] 24)).alloc (.cells #[.int .i64 c, .int .i64 d] 24)) (((w.alloc (.cells #[.int .i64 a, .int .i64 b] 24)).alloc (.cells #[.int .i64 c, .int .i64 d] 24)).alloc (.cells #[.int .i64 0, .int .i64 0] 24)) := (Below.refl _ _).alloc (Nat.le_refl _) _
    have B3 := B2.trans (A3.mono B2.size)
    have xa_3 := xa_2.below A3; clear xa_2
    have xb_3 := xb_2.below A3; clear xb_2
    have xr_3 : BoxU (((w.alloc (.cells #[.int .i64 a, .int .i64 b] 24)).alloc (.cells #[.int .i64 c, .int .i64 d] 24)).alloc (.cells #[.int .i64 0, .int .i64 0] 24)) (w.heap.size + 1 + 1) [.int .i64 0, .int .i64 0] := BoxU.newAt _ _ _ (by simp)
    clear A3 B2
    have hd : decide (cmpF c d 1 1 ≤ 0) = true := decide_eq_true h4
    have HRR := Lib.hid (show RatR a b c d ((0, 0), 0, 2) by unfold RatR; simp [h1, h2, h4])
    go_enter Try.func8, Try.ntmps8
    have ca0 := xa_3.1.at 0 rfl
    have ca1 := xa_3.1.at 1 rfl
    have cb0 := xb_3.1.at 0 rfl
    have cb1 := xb_3.1.at 1 rfl
    go_wp2_with fail
    clear ca0 ca1 cb0 cb1
    refine (l02Ok_b a b true _ h1).mono ?_; rintro e w4 ⟨rfl, b4⟩
    have B4 := B3.trans (b4.mono B3.size)
    have xa_4 := xa_3.below b4; clear xa_3
    have xb_4 := xb_3.below b4; clear xb_3
    have xr_4 := xr_3.below b4; clear xr_3
    clear b4 B3
    have ca0 := xa_4.1.at 0 rfl
    have ca1 := xa_4.1.at 1 rfl
    have cb0 := xb_4.1.at 0 rfl
    have cb1 := xb_4.1.at 1 rfl
    go_wp2_with fail
    clear ca0 ca1 cb0 cb1
    refine (l02Ok_b c d true _ h2).mono ?_; rintro e w5 ⟨rfl, b5⟩
    have B5 := B4.trans (b5.mono B4.size)
    have xa_5 := xa_4.below b5; clear xa_4
    have xb_5 := xb_4.below b5; clear xb_4
    have xr_5 := xr_4.below b5; clear xr_4
    clear b5 B4
    have K6 : ∀ w', Below w5.heap.size w5 w' → (w'.cell? ⟨w.heap.size, 0, none⟩ = some (.int .i64 a) ∧ w'.cell? ⟨w.heap.size, 1, none⟩ = some (.int .i64 b) ∧ w'.cell? ⟨w.heap.size + 1, 0, none⟩ = some (.int .i64 c) ∧ w'.cell? ⟨w.heap.size + 1, 1, none⟩ = some (.int .i64 d)) := fun w' b' => ⟨(xa_5.below b').1.at 0 rfl, (xa_5.below b').1.at 1 rfl, (xb_5.below b').1.at 0 rfl, (xb_5.below b').1.at 1 rfl⟩
    have HK6 := Lib.hid K6; clear K6
    have l6 : Below w5.heap.size w5 w5.drew := (Below.refl _ _).drew
    have t6 := HK6.out _ l6; have T6 := Lib.hid t6; clear t6
    go_wp2
    go_region_held3 (fun w' => w'.cell? ⟨w.heap.size, 0, none⟩ = some (.int .i64 a) ∧ w'.cell? ⟨w.heap.size, 1, none⟩ = some (.int .i64 b) ∧ w'.cell? ⟨w.heap.size + 1, 0, none⟩ = some (.int .i64 c) ∧ w'.cell? ⟨w.heap.size + 1, 1, none⟩ = some (.int .i64 d)) (first | exact T6.out | exact t7 | exact t8) (first | (go_at_call 35; (with_reducible refine (l15One_any _).mono ?_); rintro e w7 ⟨rfl, b7⟩; have l7 := Below.trans l6 (b7.mono (Below.size l6)); have t7 := HK6.out _ l7) | (go_at_call 34; (with_reducible refine (specCmp_any c d 1 1 _ (by omega) (by omega) (by omega) (by omega)).mono ?_); rintro e w8 ⟨rfl, b8⟩; have l8 := Below.trans l7 (b8.mono (Below.size l7)); have t8 := HK6.out _ l8))
    clear T6 HK6 t7 t8
    have B8 := B5.trans (l8.mono B5.size)
    have xa_8 := xa_5.below l8; clear xa_5
    have xb_8 := xb_5.below l8; clear xb_5
    have xr_8 := xr_5.below l8; clear xr_5
    clear b7 b8 l6 l7 l8 B5
    have ca0 := xa_8.1.at 0 rfl
    have ca1 := xa_8.1.at 1 rfl
    have cb0 := xb_8.1.at 0 rfl
    have cb1 := xb_8.1.at 1 rfl
    have cr0 := xr_8.1.at 0 rfl
    have cr1 := xr_8.1.at 1 rfl
    have fr0 := xr_8.2 0
    have fr1 := xr_8.2 1
    have HBB := Lib.hid B8; clear B8
    have hsz := HBB.out.size
    go_wp2
    refine bodyPost_ret (v := .tuple #[.agg #[.int .i64 (0), .int .i64 (0)], .int .i64 (0), .int .i64 (2)]) (by simp [results, Try.results8, go_sem, *]) rfl ⟨_, HRR.out, rfl, ?_⟩
    repeat (first | exact HBB.out | refine Below.alloc ?_ (by simp <;> omega) _ | refine Below.setCell ?_ (by simp <;> omega) _ | refine below_drewN ?_ _)
  have B0 : Below w.heap.size w w := Below.refl _ _
  have A1 : Below w.heap.size w (w.alloc (.cells #[.int .i64 a, .int .i64 b] 24)) := (Below.refl _ _).alloc (Nat.le_refl _) _
  have B1 := B0.trans (A1.mono B0.size)
  have xa_1 : BoxU (w.alloc (.cells #[.int .i64 a, .int .i64 b] 24)) (w.heap.size) [.int .i64 a, .int .i64 b] := BoxU.newAt _ _ _ (by rfl)
  clear A1 B0
  have A2 : Below (w.alloc (.cells #[.int .i64 a, .int .i64 b] 24)).heap.size (w.alloc (.cells #[.int .i64 a, .int .i64 b] 24)) ((w.alloc (.cells #[.int .i64 a, .int .i64 b] 24)).alloc (.cells #[.int .i64 c, .int .i64 d] 24)) := (Below.refl _ _).alloc (Nat.le_refl _) _
  have B2 := B1.trans (A2.mono B1.size)
  have xa_2 := xa_1.below A2; clear xa_1
  have xb_2 : BoxU ((w.alloc (.cells #[.int .i64 a, .int .i64 b] 24)).alloc (.cells #[.int .i64 c, .int .i64 d] 24)) (w.heap.size + 1) [.int .i64 c, .int .i64 d] := BoxU.newAt _ _ _ (by simp)
  clear A2 B1
  have A3 : Below ((w.alloc (.cells #[.int .i64 a, .int .i64 b] 24)).alloc (.cells #[.int .i64 c, .int .i64 d] 24)).heap.size ((w.alloc (.cells #[.int .i64 a, .int .i64 b] 24)).alloc (.cells #[.int .i64 c, .int .i64 d] 24)) (((w.alloc (.cells #[.int .i64 a, .int .i64 b] 24)).alloc (.cells #[.int .i64 c, .int .i64 d] 24)).alloc (.cells #[.int .i64 0, .int .i64 0] 24)) := (Below.refl _ _).alloc (Nat.le_refl _) _
  have B3 := B2.trans (A3.mono B2.size)
  have xa_3 := xa_2.below A3; clear xa_2
  have xb_3 := xb_2.below A3; clear xb_2
  have xr_3 : BoxU (((w.alloc (.cells #[.int .i64 a, .int .i64 b] 24)).alloc (.cells #[.int .i64 c, .int .i64 d] 24)).alloc (.cells #[.int .i64 0, .int .i64 0] 24)) (w.heap.size + 1 + 1) [.int .i64 0, .int .i64 0] := BoxU.newAt _ _ _ (by simp)
  clear A3 B2
  have hd : decide (cmpF c d 1 1 ≤ 0) = false := decide_eq_false h4
  have hdc : d < c := by
    unfold cmpF at h4
    split at h4
    · omega
    · split at h4 <;> omega
  have HRR : Hid (∀ R, RedR a b c d R → RatR a b c d R) := fun R h => by unfold RatR; simpa [h1, h2, h3, h4] using h
  have HRD := Lib.hid (fun w => specReduce_any a b c d w h1 (by omega) h2 hdc)
  go_enter Try.func8, Try.ntmps8
  have ca0 := xa_3.1.at 0 rfl
  have ca1 := xa_3.1.at 1 rfl
  have cb0 := xb_3.1.at 0 rfl
  have cb1 := xb_3.1.at 1 rfl
  go_wp2_with fail
  clear ca0 ca1 cb0 cb1
  refine (l02Ok_b a b true _ h1).mono ?_; rintro e w4 ⟨rfl, b4⟩
  have B4 := B3.trans (b4.mono B3.size)
  have xa_4 := xa_3.below b4; clear xa_3
  have xb_4 := xb_3.below b4; clear xb_3
  have xr_4 := xr_3.below b4; clear xr_3
  clear b4 B3
  have ca0 := xa_4.1.at 0 rfl
  have ca1 := xa_4.1.at 1 rfl
  have cb0 := xb_4.1.at 0 rfl
  have cb1 := xb_4.1.at 1 rfl
  go_wp2_with fail
  clear ca0 ca1 cb0 cb1
  refine (l02Ok_b c d true _ h2).mono ?_; rintro e w5 ⟨rfl, b5⟩
  have B5 := B4.trans (b5.mono B4.size)
  have xa_5 := xa_4.below b5; clear xa_4
  have xb_5 := xb_4.below b5; clear xb_4
  have xr_5 := xr_4.below b5; clear xr_4
  clear b5 B4
  have K6 : ∀ w', Below w5.heap.size w5 w' → (w'.cell? ⟨w.heap.size, 0, none⟩ = some (.int .i64 a) ∧ w'.cell? ⟨w.heap.size, 1, none⟩ = some (.int .i64 b) ∧ w'.cell? ⟨w.heap.size + 1, 0, none⟩ = some (.int .i64 c) ∧ w'.cell? ⟨w.heap.size + 1, 1, none⟩ = some (.int .i64 d)) := fun w' b' => ⟨(xa_5.below b').1.at 0 rfl, (xa_5.below b').1.at 1 rfl, (xb_5.below b').1.at 0 rfl, (xb_5.below b').1.at 1 rfl⟩
  have HK6 := Lib.hid K6; clear K6
  have l6 : Below w5.heap.size w5 w5.drew := (Below.refl _ _).drew
  have t6 := HK6.out _ l6; have T6 := Lib.hid t6; clear t6
  go_wp2
  go_region_held3 (fun w' => w'.cell? ⟨w.heap.size, 0, none⟩ = some (.int .i64 a) ∧ w'.cell? ⟨w.heap.size, 1, none⟩ = some (.int .i64 b) ∧ w'.cell? ⟨w.heap.size + 1, 0, none⟩ = some (.int .i64 c) ∧ w'.cell? ⟨w.heap.size + 1, 1, none⟩ = some (.int .i64 d)) (first | exact T6.out | exact t7 | exact t8) (first | (go_at_call 35; (with_reducible refine (l15One_any _).mono ?_); rintro e w7 ⟨rfl, b7⟩; have l7 := Below.trans l6 (b7.mono (Below.size l6)); have t7 := HK6.out _ l7) | (go_at_call 34; (with_reducible refine (specCmp_any c d 1 1 _ (by omega) (by omega) (by omega) (by omega)).mono ?_); rintro e w8 ⟨rfl, b8⟩; have l8 := Below.trans l7 (b8.mono (Below.size l7)); have t8 := HK6.out _ l8))
  clear T6 HK6 t7 t8
  have B8 := B5.trans (l8.mono B5.size)
  have xa_8 := xa_5.below l8; clear xa_5
  have xb_8 := xb_5.below l8; clear xb_5
  have xr_8 := xr_5.below l8; clear xr_5
  clear b7 b8 l6 l7 l8 B5
  have ca0 := xa_8.1.at 0 rfl
  have ca1 := xa_8.1.at 1 rfl
  have cb0 := xb_8.1.at 0 rfl
  have cb1 := xb_8.1.at 1 rfl
  go_wp2_with fail
  clear ca0 ca1 cb0 cb1
  refine (HRD.out _).mono ?_; rintro e w9 ⟨R, hR, rfl, b9⟩
  have B9 := B8.trans (b9.mono B8.size)
  have xa_9 := xa_8.below b9; clear xa_8
  have xb_9 := xb_8.below b9; clear xb_8
  have xr_9 := xr_8.below b9; clear xr_8
  clear b9 B8
  have HRF := Lib.hid (HRR.out R hR); clear hR HRR HRD hd hd3
  obtain ⟨⟨r1, r2⟩, r3, r4⟩ := R
  have ca0 := xa_9.1.at 0 rfl
  have ca1 := xa_9.1.at 1 rfl
  have cb0 := xb_9.1.at 0 rfl
  have cb1 := xb_9.1.at 1 rfl
  have cr0 := xr_9.1.at 0 rfl
  have cr1 := xr_9.1.at 1 rfl
  have fr0 := xr_9.2 0
  have fr1 := xr_9.2 1
  have HBB := Lib.hid B9; clear B9
  have hsz := HBB.out.size
  go_wp2
  refine bodyPost_ret (v := .tuple #[.agg #[.int .i64 (r1), .int .i64 (r2)], .int .i64 (r3), .int .i64 (r4)]) (by simp [results, Try.results8, go_sem, *]) rfl ⟨_, HRF.out, rfl, ?_⟩
  repeat (first | exact HBB.out | refine Below.alloc ?_ (by simp <;> omega) _ | refine Below.setCell ?_ (by simp <;> omega) _ | refine below_drewN ?_ _)

set_option maxHeartbeats 1000000 in
theorem implRatio_any (a b c d : Int) (w : World) :
    Calls Try.prog 10 #[.agg #[.int .i64 a, .int .i64 b], .agg #[.int .i64 c, .int .i64 d]] w fun e w' => ∃ R, RatR a b c d R ∧ e = .returned (.tuple #[.agg #[.int .i64 (R.1.1), .int .i64 (R.1.2)], .int .i64 (R.2.1), .int .i64 (R.2.2)]) ∧ Below w.heap.size w w' := by
  cases h1 : frB a b
  · have B0 : Below w.heap.size w w := Below.refl _ _
    have A1 : Below w.heap.size w (w.alloc (.cells #[.int .i64 a, .int .i64 b] 24)) := (Below.refl _ _).alloc (Nat.le_refl _) _
    have B1 := B0.trans (A1.mono B0.size)
    have xa_1 : BoxU (w.alloc (.cells #[.int .i64 a, .int .i64 b] 24)) (w.heap.size) [.int .i64 a, .int .i64 b] := BoxU.newAt _ _ _ (by rfl)
    clear A1 B0
    have A2 : Below (w.alloc (.cells #[.int .i64 a, .int .i64 b] 24)).heap.size (w.alloc (.cells #[.int .i64 a, .int .i64 b] 24)) ((w.alloc (.cells #[.int .i64 a, .int .i64 b] 24)).alloc (.cells #[.int .i64 c, .int .i64 d] 24)) := (Below.refl _ _).alloc (Nat.le_refl _) _
    have B2 := B1.trans (A2.mono B1.size)
    have xa_2 := xa_1.below A2; clear xa_1
    have xb_2 : BoxU ((w.alloc (.cells #[.int .i64 a, .int .i64 b] 24)).alloc (.cells #[.int .i64 c, .int .i64 d] 24)) (w.heap.size + 1) [.int .i64 c, .int .i64 d] := BoxU.newAt _ _ _ (by simp)
    clear A2 B1
    have A3 : Below ((w.alloc (.cells #[.int .i64 a, .int .i64 b] 24)).alloc (.cells #[.int .i64 c, .int .i64 d] 24)).heap.size ((w.alloc (.cells #[.int .i64 a, .int .i64 b] 24)).alloc (.cells #[.int .i64 c, .int .i64 d] 24)) (((w.alloc (.cells #[.int .i64 a, .int .i64 b] 24)).alloc (.cells #[.int .i64 c, .int .i64 d] 24)).alloc (.cells #[.int .i64 0, .int .i64 0] 24)) := (Below.refl _ _).alloc (Nat.le_refl _) _
    have B3 := B2.trans (A3.mono B2.size)
    have xa_3 := xa_2.below A3; clear xa_2
    have xb_3 := xb_2.below A3; clear xb_2
    have xr_3 : BoxU (((w.alloc (.cells #[.int .i64 a, .int .i64 b] 24)).alloc (.cells #[.int .i64 c, .int .i64 d] 24)).alloc (.cells #[.int .i64 0, .int .i64 0] 24)) (w.heap.size + 1 + 1) [.int .i64 0, .int .i64 0] := BoxU.newAt _ _ _ (by simp)
    clear A3 B2
    have ps : Pairs ((((w.alloc (.cells #[.int .i64 a, .int .i64 b] 24)).alloc (.cells #[.int .i64 c, .int .i64 d] 24)).alloc (.cells #[.int .i64 0, .int .i64 0] 24)).alloc (.cells #[.int .i64 a, .int .i64 b, .int .i64 c, .int .i64 d] 24)) (.slice (some ⟨w.heap.size + 1 + 1 + 1, 0, none⟩) 2 2) [(a, b), (c, d)] := by
      have := OwnP.pairs (OwnP.litF (((w.alloc (.cells #[.int .i64 a, .int .i64 b] 24)).alloc (.cells #[.int .i64 c, .int .i64 d] 24)).alloc (.cells #[.int .i64 0, .int .i64 0] 24)) a b c d) (by simp); simpa using this
    have A4 : Below (((w.alloc (.cells #[.int .i64 a, .int .i64 b] 24)).alloc (.cells #[.int .i64 c, .int .i64 d] 24)).alloc (.cells #[.int .i64 0, .int .i64 0] 24)).heap.size (((w.alloc (.cells #[.int .i64 a, .int .i64 b] 24)).alloc (.cells #[.int .i64 c, .int .i64 d] 24)).alloc (.cells #[.int .i64 0, .int .i64 0] 24)) ((((w.alloc (.cells #[.int .i64 a, .int .i64 b] 24)).alloc (.cells #[.int .i64 c, .int .i64 d] 24)).alloc (.cells #[.int .i64 0, .int .i64 0] 24)).alloc (.cells #[.int .i64 a, .int .i64 b, .int .i64 c, .int .i64 d] 24)) := (Below.refl _ _).alloc (Nat.le_refl _) _
    have B4 := B3.trans (A4.mono B3.size)
    have xa_4 := xa_3.below A4; clear xa_3
    have xb_4 := xb_3.below A4; clear xb_3
    have xr_4 := xr_3.below A4; clear xr_3
    have xs_4 : BoxU ((((w.alloc (.cells #[.int .i64 a, .int .i64 b] 24)).alloc (.cells #[.int .i64 c, .int .i64 d] 24)).alloc (.cells #[.int .i64 0, .int .i64 0] 24)).alloc (.cells #[.int .i64 a, .int .i64 b, .int .i64 c, .int .i64 d] 24)) (w.heap.size + 1 + 1 + 1) [.int .i64 a, .int .i64 b, .int .i64 c, .int .i64 d] := BoxU.newAt _ _ _ (by simp)
    clear A4 B3
    go_enter Try.func10, Try.ntmps10
    have ca0 := xa_4.1.at 0 rfl
    have ca1 := xa_4.1.at 1 rfl
    have cb0 := xb_4.1.at 0 rfl
    have cb1 := xb_4.1.at 1 rfl
    go_wp2_with fail
    clear ca0 ca1 cb0 cb1
    refine (areFracs_val (r := false) (by simp [frAll, h1]) _ _ ps).mono ?_; rintro e w5 ⟨rfl, b5⟩
    have B5 := B4.trans (b5.mono B4.size)
    have xa_5 := xa_4.below b5; clear xa_4
    have xb_5 := xb_4.below b5; clear xb_4
    have xr_5 := xr_4.below b5; clear xr_4
    have xs_5 := xs_4.below b5; clear xs_4
    clear b5 B4
    have ca0 := xa_5.1.at 0 rfl
    have ca1 := xa_5.1.at 1 rfl
    have cb0 := xb_5.1.at 0 rfl
    have cb1 := xb_5.1.at 1 rfl
    have cr0 := xr_5.1.at 0 rfl
    have cr1 := xr_5.1.at 1 rfl
    have fr0 := xr_5.2 0
    have fr1 := xr_5.2 1
    have HBB := Lib.hid B5; clear B5
    have hsz := HBB.out.size
    go_wp2
    refine bodyPost_ret (v := .tuple #[.agg #[.int .i64 (0), .int .i64 (0)], .int .i64 (0), .int .i64 (1)]) (by simp [results, Try.results10, go_sem, *]) rfl ⟨((0, 0), 0, 1), by simp [RatR, h1], rfl, ?_⟩
    repeat (first | exact HBB.out | refine Below.alloc ?_ (by simp <;> omega) _ | refine Below.setCell ?_ (by simp <;> omega) _ | refine below_drewN ?_ _)
  cases h2 : frB c d
  · have B0 : Below w.heap.size w w := Below.refl _ _
    have A1 : Below w.heap.size w (w.alloc (.cells #[.int .i64 a, .int .i64 b] 24)) := (Below.refl _ _).alloc (Nat.le_refl _) _
    have B1 := B0.trans (A1.mono B0.size)
    have xa_1 : BoxU (w.alloc (.cells #[.int .i64 a, .int .i64 b] 24)) (w.heap.size) [.int .i64 a, .int .i64 b] := BoxU.newAt _ _ _ (by rfl)
    clear A1 B0
    have A2 : Below (w.alloc (.cells #[.int .i64 a, .int .i64 b] 24)).heap.size (w.alloc (.cells #[.int .i64 a, .int .i64 b] 24)) ((w.alloc (.cells #[.int .i64 a, .int .i64 b] 24)).alloc (.cells #[.int .i64 c, .int .i64 d] 24)) := (Below.refl _ _).alloc (Nat.le_refl _) _
    have B2 := B1.trans (A2.mono B1.size)
    have xa_2 := xa_1.below A2; clear xa_1
    have xb_2 : BoxU ((w.alloc (.cells #[.int .i64 a, .int .i64 b] 24)).alloc (.cells #[.int .i64 c, .int .i64 d] 24)) (w.heap.size + 1) [.int .i64 c, .int .i64 d] := BoxU.newAt _ _ _ (by simp)
    clear A2 B1
    have A3 : Below ((w.alloc (.cells #[.int .i64 a, .int .i64 b] 24)).alloc (.cells #[.int .i64 c, .int .i64 d] 24)).heap.size ((w.alloc (.cells #[.int .i64 a, .int .i64 b] 24)).alloc (.cells #[.int .i64 c, .int .i64 d] 24)) (((w.alloc (.cells #[.int .i64 a, .int .i64 b] 24)).alloc (.cells #[.int .i64 c, .int .i64 d] 24)).alloc (.cells #[.int .i64 0, .int .i64 0] 24)) := (Below.refl _ _).alloc (Nat.le_refl _) _
    have B3 := B2.trans (A3.mono B2.size)
    have xa_3 := xa_2.below A3; clear xa_2
    have xb_3 := xb_2.below A3; clear xb_2
    have xr_3 : BoxU (((w.alloc (.cells #[.int .i64 a, .int .i64 b] 24)).alloc (.cells #[.int .i64 c, .int .i64 d] 24)).alloc (.cells #[.int .i64 0, .int .i64 0] 24)) (w.heap.size + 1 + 1) [.int .i64 0, .int .i64 0] := BoxU.newAt _ _ _ (by simp)
    clear A3 B2
    have ps : Pairs ((((w.alloc (.cells #[.int .i64 a, .int .i64 b] 24)).alloc (.cells #[.int .i64 c, .int .i64 d] 24)).alloc (.cells #[.int .i64 0, .int .i64 0] 24)).alloc (.cells #[.int .i64 a, .int .i64 b, .int .i64 c, .int .i64 d] 24)) (.slice (some ⟨w.heap.size + 1 + 1 + 1, 0, none⟩) 2 2) [(a, b), (c, d)] := by
      have := OwnP.pairs (OwnP.litF (((w.alloc (.cells #[.int .i64 a, .int .i64 b] 24)).alloc (.cells #[.int .i64 c, .int .i64 d] 24)).alloc (.cells #[.int .i64 0, .int .i64 0] 24)) a b c d) (by simp); simpa using this
    have A4 : Below (((w.alloc (.cells #[.int .i64 a, .int .i64 b] 24)).alloc (.cells #[.int .i64 c, .int .i64 d] 24)).alloc (.cells #[.int .i64 0, .int .i64 0] 24)).heap.size (((w.alloc (.cells #[.int .i64 a, .int .i64 b] 24)).alloc (.cells #[.int .i64 c, .int .i64 d] 24)).alloc (.cells #[.int .i64 0, .int .i64 0] 24)) ((((w.alloc (.cells #[.int .i64 a, .int .i64 b] 24)).alloc (.cells #[.int .i64 c, .int .i64 d] 24)).alloc (.cells #[.int .i64 0, .int .i64 0] 24)).alloc (.cells #[.int .i64 a, .int .i64 b, .int .i64 c, .int .i64 d] 24)) := (Below.refl _ _).alloc (Nat.le_refl _) _
    have B4 := B3.trans (A4.mono B3.size)
    have xa_4 := xa_3.below A4; clear xa_3
    have xb_4 := xb_3.below A4; clear xb_3
    have xr_4 := xr_3.below A4; clear xr_3
    have xs_4 : BoxU ((((w.alloc (.cells #[.int .i64 a, .int .i64 b] 24)).alloc (.cells #[.int .i64 c, .int .i64 d] 24)).alloc (.cells #[.int .i64 0, .int .i64 0] 24)).alloc (.cells #[.int .i64 a, .int .i64 b, .int .i64 c, .int .i64 d] 24)) (w.heap.size + 1 + 1 + 1) [.int .i64 a, .int .i64 b, .int .i64 c, .int .i64 d] := BoxU.newAt _ _ _ (by simp)
    clear A4 B3
    go_enter Try.func10, Try.ntmps10
    have ca0 := xa_4.1.at 0 rfl
    have ca1 := xa_4.1.at 1 rfl
    have cb0 := xb_4.1.at 0 rfl
    have cb1 := xb_4.1.at 1 rfl
    go_wp2_with fail
    clear ca0 ca1 cb0 cb1
    refine (areFracs_val (r := false) (by simp [frAll, h1, h2]) _ _ ps).mono ?_; rintro e w5 ⟨rfl, b5⟩
    have B5 := B4.trans (b5.mono B4.size)
    have xa_5 := xa_4.below b5; clear xa_4
    have xb_5 := xb_4.below b5; clear xb_4
    have xr_5 := xr_4.below b5; clear xr_4
    have xs_5 := xs_4.below b5; clear xs_4
    clear b5 B4
    have ca0 := xa_5.1.at 0 rfl
    have ca1 := xa_5.1.at 1 rfl
    have cb0 := xb_5.1.at 0 rfl
    have cb1 := xb_5.1.at 1 rfl
    have cr0 := xr_5.1.at 0 rfl
    have cr1 := xr_5.1.at 1 rfl
    have fr0 := xr_5.2 0
    have fr1 := xr_5.2 1
    have HBB := Lib.hid B5; clear B5
    have hsz := HBB.out.size
    go_wp2
    refine bodyPost_ret (v := .tuple #[.agg #[.int .i64 (0), .int .i64 (0)], .int .i64 (0), .int .i64 (1)]) (by simp [results, Try.results10, go_sem, *]) rfl ⟨((0, 0), 0, 1), by simp [RatR, h2], rfl, ?_⟩
    repeat (first | exact HBB.out | refine Below.alloc ?_ (by simp <;> omega) _ | refine Below.setCell ?_ (by simp <;> omega) _ | refine below_drewN ?_ _)
  have q1 := frB_bd h1; have q2 := frB_bd h2
  by_cases h3 : a ≤ 0
  · have B0 : Below w.heap.size w w := Below.refl _ _
    have A1 : Below w.heap.size w (w.alloc (.cells #[.int .i64 a, .int .i64 b] 24)) := (Below.refl _ _).alloc (Nat.le_refl _) _
    have B1 := B0.trans (A1.mono B0.size)
    have xa_1 : BoxU (w.alloc (.cells #[.int .i64 a, .int .i64 b] 24)) (w.heap.size) [.int .i64 a, .int .i64 b] := BoxU.newAt _ _ _ (by rfl)
    clear A1 B0
    have A2 : Below (w.alloc (.cells #[.int .i64 a, .int .i64 b] 24)).heap.size (w.alloc (.cells #[.int .i64 a, .int .i64 b] 24)) ((w.alloc (.cells #[.int .i64 a, .int .i64 b] 24)).alloc (.cells #[.int .i64 c, .int .i64 d] 24)) := (Below.refl _ _).alloc (Nat.le_refl _) _
    have B2 := B1.trans (A2.mono B1.size)
    have xa_2 := xa_1.below A2; clear xa_1
    have xb_2 : BoxU ((w.alloc (.cells #[.int .i64 a, .int .i64 b] 24)).alloc (.cells #[.int .i64 c, .int .i64 d] 24)) (w.heap.size + 1) [.int .i64 c, .int .i64 d] := BoxU.newAt _ _ _ (by simp)
    clear A2 B1
    have A3 : Below ((w.alloc (.cells #[.int .i64 a, .int .i64 b] 24)).alloc (.cells #[.int .i64 c, .int .i64 d] 24)).heap.size ((w.alloc (.cells #[.int .i64 a, .int .i64 b] 24)).alloc (.cells #[.int .i64 c, .int .i64 d] 24)) (((w.alloc (.cells #[.int .i64 a, .int .i64 b] 24)).alloc (.cells #[.int .i64 c, .int .i64 d] 24)).alloc (.cells #[.int .i64 0, .int .i64 0] 24)) := (Below.refl _ _).alloc (Nat.le_refl _) _
    have B3 := B2.trans (A3.mono B2.size)
    have xa_3 := xa_2.below A3; clear xa_2
    have xb_3 := xb_2.below A3; clear xb_2
    have xr_3 : BoxU (((w.alloc (.cells #[.int .i64 a, .int .i64 b] 24)).alloc (.cells #[.int .i64 c, .int .i64 d] 24)).alloc (.cells #[.int .i64 0, .int .i64 0] 24)) (w.heap.size + 1 + 1) [.int .i64 0, .int .i64 0] := BoxU.newAt _ _ _ (by simp)
    clear A3 B2
    have ps : Pairs ((((w.alloc (.cells #[.int .i64 a, .int .i64 b] 24)).alloc (.cells #[.int .i64 c, .int .i64 d] 24)).alloc (.cells #[.int .i64 0, .int .i64 0] 24)).alloc (.cells #[.int .i64 a, .int .i64 b, .int .i64 c, .int .i64 d] 24)) (.slice (some ⟨w.heap.size + 1 + 1 + 1, 0, none⟩) 2 2) [(a, b), (c, d)] := by
      have := OwnP.pairs (OwnP.litF (((w.alloc (.cells #[.int .i64 a, .int .i64 b] 24)).alloc (.cells #[.int .i64 c, .int .i64 d] 24)).alloc (.cells #[.int .i64 0, .int .i64 0] 24)) a b c d) (by simp); simpa using this
    have A4 : Below (((w.alloc (.cells #[.int .i64 a, .int .i64 b] 24)).alloc (.cells #[.int .i64 c, .int .i64 d] 24)).alloc (.cells #[.int .i64 0, .int .i64 0] 24)).heap.size (((w.alloc (.cells #[.int .i64 a, .int .i64 b] 24)).alloc (.cells #[.int .i64 c, .int .i64 d] 24)).alloc (.cells #[.int .i64 0, .int .i64 0] 24)) ((((w.alloc (.cells #[.int .i64 a, .int .i64 b] 24)).alloc (.cells #[.int .i64 c, .int .i64 d] 24)).alloc (.cells #[.int .i64 0, .int .i64 0] 24)).alloc (.cells #[.int .i64 a, .int .i64 b, .int .i64 c, .int .i64 d] 24)) := (Below.refl _ _).alloc (Nat.le_refl _) _
    have B4 := B3.trans (A4.mono B3.size)
    have xa_4 := xa_3.below A4; clear xa_3
    have xb_4 := xb_3.below A4; clear xb_3
    have xr_4 := xr_3.below A4; clear xr_3
    have xs_4 : BoxU ((((w.alloc (.cells #[.int .i64 a, .int .i64 b] 24)).alloc (.cells #[.int .i64 c, .int .i64 d] 24)).alloc (.cells #[.int .i64 0, .int .i64 0] 24)).alloc (.cells #[.int .i64 a, .int .i64 b, .int .i64 c, .int .i64 d] 24)) (w.heap.size + 1 + 1 + 1) [.int .i64 a, .int .i64 b, .int .i64 c, .int .i64 d] := BoxU.newAt _ _ _ (by simp)
    clear A4 B3
    have hd : decide (a ≤ 0) = true := decide_eq_true h3
    have HRR := Lib.hid (show RatR a b c d ((0, 0), 0, 2) by unfold RatR; simp [h1, h2, h3])
    go_enter Try.func10, Try.ntmps10
    have ca0 := xa_4.1.at 0 rfl
    have ca1 := xa_4.1.at 1 rfl
    have cb0 := xb_4.1.at 0 rfl
    have cb1 := xb_4.1.at 1 rfl
    go_wp2_with fail
    clear ca0 ca1 cb0 cb1
    refine (areFracs_val (r := true) (by simp [frAll, h1, h2]) _ _ ps).mono ?_; rintro e w5 ⟨rfl, b5⟩
    have B5 := B4.trans (b5.mono B4.size)
    have xa_5 := xa_4.below b5; clear xa_4
    have xb_5 := xb_4.below b5; clear xb_4
    have xr_5 := xr_4.below b5; clear xr_4
    have xs_5 := xs_4.below b5; clear xs_4
    clear b5 B4
    have ca0 := xa_5.1.at 0 rfl
    have ca1 := xa_5.1.at 1 rfl
    have cb0 := xb_5.1.at 0 rfl
    have cb1 := xb_5.1.at 1 rfl
    go_wp2
    go_quiet (fail)
    clear ca0 ca1 cb0 cb1
    have ca0 := xa_5.1.at 0 rfl
    have ca1 := xa_5.1.at 1 rfl
    have cb0 := xb_5.1.at 0 rfl
    have cb1 := xb_5.1.at 1 rfl
    have cr0 := xr_5.1.at 0 rfl
    have cr1 := xr_5.1.at 1 rfl
    have fr0 := xr_5.2 0
    have fr1 := xr_5.2 1
    have HBB := Lib.hid B5; clear B5
    have hsz := HBB.out.size
    go_wp2
    refine bodyPost_ret (v := .tuple #[.agg #[.int .i64 (0), .int .i64 (0)], .int .i64 (0), .int .i64 (2)]) (by simp [results, Try.results10, go_sem, *]) rfl ⟨_, HRR.out, rfl, ?_⟩
    repeat (first | exact HBB.out | refine Below.alloc ?_ (by simp <;> omega) _ | refine Below.setCell ?_ (by simp <;> omega) _ | refine below_drewN ?_ _)
  have hd3 : decide (a ≤ 0) = false := decide_eq_false h3
  by_cases h4 : cmpF c d 1 1 ≤ 0
  · have B0 : Below w.heap.size w w := Below.refl _ _
    have A1 : Below w.heap.size w (w.alloc (.cells #[.int .i64 a, .int .i64 b] 24)) := (Below.refl _ _).alloc (Nat.le_refl _) _
    have B1 := B0.trans (A1.mono B0.size)
    have xa_1 : BoxU (w.alloc (.cells #[.int .i64 a, .int .i64 b] 24)) (w.heap.size) [.int .i64 a, .int .i64 b] := BoxU.newAt _ _ _ (by rfl)
    clear A1 B0
    have A2 : Below (w.alloc (.cells #[.int .i64 a, .int .i64 b] 24)).heap.size (w.alloc (.cells #[.int .i64 a, .int .i64 b] 24)) ((w.alloc (.cells #[.int .i64 a, .int .i64 b] 24)).alloc (.cells #[.int .i64 c, .int .i64 d] 24)) := (Below.refl _ _).alloc (Nat.le_refl _) _
    have B2 := B1.trans (A2.mono B1.size)
    have xa_2 := xa_1.below A2; clear xa_1
    have xb_2 : BoxU ((w.alloc (.cells #[.int .i64 a, .int .i64 b] 24)).alloc (.cells #[.int .i64 c, .int .i64 d] 24)) (w.heap.size + 1) [.int .i64 c, .int .i64 d] := BoxU.newAt _ _ _ (by simp)
    clear A2 B1
    have A3 : Below ((w.alloc (.cells #[.int .i64 a, .int .i64 b] 24)).alloc (.cells #[.int .i64 c, .int .i64 d] 24)).heap.size ((w.alloc (.cells #[.int .i64 a, .int .i64 b] 24)).alloc (.cells #[.int .i64 c, .int .i64 d] 24)) (((w.alloc (.cells #[.int .i64 a, .int .i64 b] 24)).alloc (.cells #[.int .i64 c, .int .i64 d] 24)).alloc (.cells #[.int .i64 0, .int .i64 0] 24)) := (Below.refl _ _).alloc (Nat.le_refl _) _
    have B3 := B2.trans (A3.mono B2.size)
    have xa_3 := xa_2.below A3; clear xa_2
    have xb_3 := xb_2.below A3; clear xb_2
    have xr_3 : BoxU (((w.alloc (.cells #[.int .i64 a, .int .i64 b] 24)).alloc (.cells #[.int .i64 c, .int .i64 d] 24)).alloc (.cells #[.int .i64 0, .int .i64 0] 24)) (w.heap.size + 1 + 1) [.int .i64 0, .int .i64 0] := BoxU.newAt _ _ _ (by simp)
    clear A3 B2
    have ps : Pairs ((((w.alloc (.cells #[.int .i64 a, .int .i64 b] 24)).alloc (.cells #[.int .i64 c, .int .i64 d] 24)).alloc (.cells #[.int .i64 0, .int .i64 0] 24)).alloc (.cells #[.int .i64 a, .int .i64 b, .int .i64 c, .int .i64 d] 24)) (.slice (some ⟨w.heap.size + 1 + 1 + 1, 0, none⟩) 2 2) [(a, b), (c, d)] := by
      have := OwnP.pairs (OwnP.litF (((w.alloc (.cells #[.int .i64 a, .int .i64 b] 24)).alloc (.cells #[.int .i64 c, .int .i64 d] 24)).alloc (.cells #[.int .i64 0, .int .i64 0] 24)) a b c d) (by simp); simpa using this
    have A4 : Below (((w.alloc (.cells #[.int .i64 a, .int .i64 b] 24)).alloc (.cells #[.int .i64 c, .int .i64 d] 24)).alloc (.cells #[.int .i64 0, .int .i64 0] 24)).heap.size (((w.alloc (.cells #[.int .i64 a, .int .i64 b] 24)).alloc (.cells #[.int .i64 c, .int .i64 d] 24)).alloc (.cells #[.int .i64 0, .int .i64 0] 24)) ((((w.alloc (.cells #[.int .i64 a, .int .i64 b] 24)).alloc (.cells #[.int .i64 c, .int .i64 d] 24)).alloc (.cells #[.int .i64 0, .int .i64 0] 24)).alloc (.cells #[.int .i64 a, .int .i64 b, .int .i64 c, .int .i64 d] 24)) := (Below.refl _ _).alloc (Nat.le_refl _) _
    have B4 := B3.trans (A4.mono B3.size)
    have xa_4 := xa_3.below A4; clear xa_3
    have xb_4 := xb_3.below A4; clear xb_3
    have xr_4 := xr_3.below A4; clear xr_3
    have xs_4 : BoxU ((((w.alloc (.cells #[.int .i64 a, .int .i64 b] 24)).alloc (.cells #[.int .i64 c, .int .i64 d] 24)).alloc (.cells #[.int .i64 0, .int .i64 0] 24)).alloc (.cells #[.int .i64 a, .int .i64 b, .int .i64 c, .int .i64 d] 24)) (w.heap.size + 1 + 1 + 1) [.int .i64 a, .int .i64 b, .int .i64 c, .int .i64 d] := BoxU.newAt _ _ _ (by simp)
    clear A4 B3
    have hd : decide (cmpF c d 1 1 ≤ 0) = true := decide_eq_true h4
    have HRR := Lib.hid (show RatR a b c d ((0, 0), 0, 2) by unfold RatR; simp [h1, h2, h4])
    go_enter Try.func10, Try.ntmps10
    have ca0 := xa_4.1.at 0 rfl
    have ca1 := xa_4.1.at 1 rfl
    have cb0 := xb_4.1.at 0 rfl
    have cb1 := xb_4.1.at 1 rfl
    go_wp2_with fail
    clear ca0 ca1 cb0 cb1
    refine (areFracs_val (r := true) (by simp [frAll, h1, h2]) _ _ ps).mono ?_; rintro e w5 ⟨rfl, b5⟩
    have B5 := B4.trans (b5.mono B4.size)
    have xa_5 := xa_4.below b5; clear xa_4
    have xb_5 := xb_4.below b5; clear xb_4
    have xr_5 := xr_4.below b5; clear xr_4
    have xs_5 := xs_4.below b5; clear xs_4
    clear b5 B4
    have K6 : ∀ w', Below w5.heap.size w5 w' → (w'.cell? ⟨w.heap.size, 0, none⟩ = some (.int .i64 a) ∧ w'.cell? ⟨w.heap.size, 1, none⟩ = some (.int .i64 b) ∧ w'.cell? ⟨w.heap.size + 1, 0, none⟩ = some (.int .i64 c) ∧ w'.cell? ⟨w.heap.size + 1, 1, none⟩ = some (.int .i64 d)) := fun w' b' => ⟨(xa_5.below b').1.at 0 rfl, (xa_5.below b').1.at 1 rfl, (xb_5.below b').1.at 0 rfl, (xb_5.below b').1.at 1 rfl⟩
    have HK6 := Lib.hid K6; clear K6
    have l6 : Below w5.heap.size w5 w5.drew := (Below.refl _ _).drew
    have t6 := HK6.out _ l6; have T6 := Lib.hid t6; clear t6
    go_wp2
    go_region_held3 (fun w' => w'.cell? ⟨w.heap.size, 0, none⟩ = some (.int .i64 a) ∧ w'.cell? ⟨w.heap.size, 1, none⟩ = some (.int .i64 b) ∧ w'.cell? ⟨w.heap.size + 1, 0, none⟩ = some (.int .i64 c) ∧ w'.cell? ⟨w.heap.size + 1, 1, none⟩ = some (.int .i64 d)) (first | exact T6.out | exact t7 | exact t8) (first | (go_at_call 39; (with_reducible refine (whole_any 1 _).mono ?_); rintro e w7 ⟨rfl, b7⟩; have l7 := Below.trans l6 (b7.mono (Below.size l6)); have t7 := HK6.out _ l7) | (go_at_call 38; (with_reducible refine (implCmp_any c d 1 1 _ (by omega) (by omega) (by omega) (by omega)).mono ?_); rintro e w8 ⟨rfl, b8⟩; have l8 := Below.trans l7 (b8.mono (Below.size l7)); have t8 := HK6.out _ l8))
    clear T6 HK6 t7 t8
    have B8 := B5.trans (l8.mono B5.size)
    have xa_8 := xa_5.below l8; clear xa_5
    have xb_8 := xb_5.below l8; clear xb_5
    have xr_8 := xr_5.below l8; clear xr_5
    have xs_8 := xs_5.below l8; clear xs_5
    clear b7 b8 l6 l7 l8 B5
    have ca0 := xa_8.1.at 0 rfl
    have ca1 := xa_8.1.at 1 rfl
    have cb0 := xb_8.1.at 0 rfl
    have cb1 := xb_8.1.at 1 rfl
    have cr0 := xr_8.1.at 0 rfl
    have cr1 := xr_8.1.at 1 rfl
    have fr0 := xr_8.2 0
    have fr1 := xr_8.2 1
    have HBB := Lib.hid B8; clear B8
    have hsz := HBB.out.size
    go_wp2
    refine bodyPost_ret (v := .tuple #[.agg #[.int .i64 (0), .int .i64 (0)], .int .i64 (0), .int .i64 (2)]) (by simp [results, Try.results10, go_sem, *]) rfl ⟨_, HRR.out, rfl, ?_⟩
    repeat (first | exact HBB.out | refine Below.alloc ?_ (by simp <;> omega) _ | refine Below.setCell ?_ (by simp <;> omega) _ | refine below_drewN ?_ _)
  have B0 : Below w.heap.size w w := Below.refl _ _
  have A1 : Below w.heap.size w (w.alloc (.cells #[.int .i64 a, .int .i64 b] 24)) := (Below.refl _ _).alloc (Nat.le_refl _) _
  have B1 := B0.trans (A1.mono B0.size)
  have xa_1 : BoxU (w.alloc (.cells #[.int .i64 a, .int .i64 b] 24)) (w.heap.size) [.int .i64 a, .int .i64 b] := BoxU.newAt _ _ _ (by rfl)
  clear A1 B0
  have A2 : Below (w.alloc (.cells #[.int .i64 a, .int .i64 b] 24)).heap.size (w.alloc (.cells #[.int .i64 a, .int .i64 b] 24)) ((w.alloc (.cells #[.int .i64 a, .int .i64 b] 24)).alloc (.cells #[.int .i64 c, .int .i64 d] 24)) := (Below.refl _ _).alloc (Nat.le_refl _) _
  have B2 := B1.trans (A2.mono B1.size)
  have xa_2 := xa_1.below A2; clear xa_1
  have xb_2 : BoxU ((w.alloc (.cells #[.int .i64 a, .int .i64 b] 24)).alloc (.cells #[.int .i64 c, .int .i64 d] 24)) (w.heap.size + 1) [.int .i64 c, .int .i64 d] := BoxU.newAt _ _ _ (by simp)
  clear A2 B1
  have A3 : Below ((w.alloc (.cells #[.int .i64 a, .int .i64 b] 24)).alloc (.cells #[.int .i64 c, .int .i64 d] 24)).heap.size ((w.alloc (.cells #[.int .i64 a, .int .i64 b] 24)).alloc (.cells #[.int .i64 c, .int .i64 d] 24)) (((w.alloc (.cells #[.int .i64 a, .int .i64 b] 24)).alloc (.cells #[.int .i64 c, .int .i64 d] 24)).alloc (.cells #[.int .i64 0, .int .i64 0] 24)) := (Below.refl _ _).alloc (Nat.le_refl _) _
  have B3 := B2.trans (A3.mono B2.size)
  have xa_3 := xa_2.below A3; clear xa_2
  have xb_3 := xb_2.below A3; clear xb_2
  have xr_3 : BoxU (((w.alloc (.cells #[.int .i64 a, .int .i64 b] 24)).alloc (.cells #[.int .i64 c, .int .i64 d] 24)).alloc (.cells #[.int .i64 0, .int .i64 0] 24)) (w.heap.size + 1 + 1) [.int .i64 0, .int .i64 0] := BoxU.newAt _ _ _ (by simp)
  clear A3 B2
  have ps : Pairs ((((w.alloc (.cells #[.int .i64 a, .int .i64 b] 24)).alloc (.cells #[.int .i64 c, .int .i64 d] 24)).alloc (.cells #[.int .i64 0, .int .i64 0] 24)).alloc (.cells #[.int .i64 a, .int .i64 b, .int .i64 c, .int .i64 d] 24)) (.slice (some ⟨w.heap.size + 1 + 1 + 1, 0, none⟩) 2 2) [(a, b), (c, d)] := by
    have := OwnP.pairs (OwnP.litF (((w.alloc (.cells #[.int .i64 a, .int .i64 b] 24)).alloc (.cells #[.int .i64 c, .int .i64 d] 24)).alloc (.cells #[.int .i64 0, .int .i64 0] 24)) a b c d) (by simp); simpa using this
  have A4 : Below (((w.alloc (.cells #[.int .i64 a, .int .i64 b] 24)).alloc (.cells #[.int .i64 c, .int .i64 d] 24)).alloc (.cells #[.int .i64 0, .int .i64 0] 24)).heap.size (((w.alloc (.cells #[.int .i64 a, .int .i64 b] 24)).alloc (.cells #[.int .i64 c, .int .i64 d] 24)).alloc (.cells #[.int .i64 0, .int .i64 0] 24)) ((((w.alloc (.cells #[.int .i64 a, .int .i64 b] 24)).alloc (.cells #[.int .i64 c, .int .i64 d] 24)).alloc (.cells #[.int .i64 0, .int .i64 0] 24)).alloc (.cells #[.int .i64 a, .int .i64 b, .int .i64 c, .int .i64 d] 24)) := (Below.refl _ _).alloc (Nat.le_refl _) _
  have B4 := B3.trans (A4.mono B3.size)
  have xa_4 := xa_3.below A4; clear xa_3
  have xb_4 := xb_3.below A4; clear xb_3
  have xr_4 := xr_3.below A4; clear xr_3
  have xs_4 : BoxU ((((w.alloc (.cells #[.int .i64 a, .int .i64 b] 24)).alloc (.cells #[.int .i64 c, .int .i64 d] 24)).alloc (.cells #[.int .i64 0, .int .i64 0] 24)).alloc (.cells #[.int .i64 a, .int .i64 b, .int .i64 c, .int .i64 d] 24)) (w.heap.size + 1 + 1 + 1) [.int .i64 a, .int .i64 b, .int .i64 c, .int .i64 d] := BoxU.newAt _ _ _ (by simp)
  clear A4 B3
  have hd : decide (cmpF c d 1 1 ≤ 0) = false := decide_eq_false h4
  have hdc : d < c := by
    unfold cmpF at h4
    split at h4
    · omega
    · split at h4 <;> omega
  have HRR : Hid (∀ R, RedR a b c d R → RatR a b c d R) := fun R h => by unfold RatR; simpa [h1, h2, h3, h4] using h
  have HRD := Lib.hid (fun w => implReduce_any a b c d w h1 (by omega) h2 hdc)
  go_enter Try.func10, Try.ntmps10
  have ca0 := xa_4.1.at 0 rfl
  have ca1 := xa_4.1.at 1 rfl
  have cb0 := xb_4.1.at 0 rfl
  have cb1 := xb_4.1.at 1 rfl
  go_wp2_with fail
  clear ca0 ca1 cb0 cb1
  refine (areFracs_val (r := true) (by simp [frAll, h1, h2]) _ _ ps).mono ?_; rintro e w5 ⟨rfl, b5⟩
  have B5 := B4.trans (b5.mono B4.size)
  have xa_5 := xa_4.below b5; clear xa_4
  have xb_5 := xb_4.below b5; clear xb_4
  have xr_5 := xr_4.below b5; clear xr_4
  have xs_5 := xs_4.below b5; clear xs_4
  clear b5 B4
  have K6 : ∀ w', Below w5.heap.size w5 w' → (w'.cell? ⟨w.heap.size, 0, none⟩ = some (.int .i64 a) ∧ w'.cell? ⟨w.heap.size, 1, none⟩ = some (.int .i64 b) ∧ w'.cell? ⟨w.heap.size + 1, 0, none⟩ = some (.int .i64 c) ∧ w'.cell? ⟨w.heap.size + 1, 1, none⟩ = some (.int .i64 d)) := fun w' b' => ⟨(xa_5.below b').1.at 0 rfl, (xa_5.below b').1.at 1 rfl, (xb_5.below b').1.at 0 rfl, (xb_5.below b').1.at 1 rfl⟩
  have HK6 := Lib.hid K6; clear K6
  have l6 : Below w5.heap.size w5 w5.drew := (Below.refl _ _).drew
  have t6 := HK6.out _ l6; have T6 := Lib.hid t6; clear t6
  go_wp2
  go_region_held3 (fun w' => w'.cell? ⟨w.heap.size, 0, none⟩ = some (.int .i64 a) ∧ w'.cell? ⟨w.heap.size, 1, none⟩ = some (.int .i64 b) ∧ w'.cell? ⟨w.heap.size + 1, 0, none⟩ = some (.int .i64 c) ∧ w'.cell? ⟨w.heap.size + 1, 1, none⟩ = some (.int .i64 d)) (first | exact T6.out | exact t7 | exact t8) (first | (go_at_call 39; (with_reducible refine (whole_any 1 _).mono ?_); rintro e w7 ⟨rfl, b7⟩; have l7 := Below.trans l6 (b7.mono (Below.size l6)); have t7 := HK6.out _ l7) | (go_at_call 38; (with_reducible refine (implCmp_any c d 1 1 _ (by omega) (by omega) (by omega) (by omega)).mono ?_); rintro e w8 ⟨rfl, b8⟩; have l8 := Below.trans l7 (b8.mono (Below.size l7)); have t8 := HK6.out _ l8))
  clear T6 HK6 t7 t8
  have B8 := B5.trans (l8.mono B5.size)
  have xa_8 := xa_5.below l8; clear xa_5
  have xb_8 := xb_5.below l8; clear xb_5
  have xr_8 := xr_5.below l8; clear xr_5
  have xs_8 := xs_5.below l8; clear xs_5
  clear b7 b8 l6 l7 l8 B5
  have ca0 := xa_8.1.at 0 rfl
  have ca1 := xa_8.1.at 1 rfl
  have cb0 := xb_8.1.at 0 rfl
  have cb1 := xb_8.1.at 1 rfl
  go_wp2_with fail
  clear ca0 ca1 cb0 cb1
  refine (HRD.out _).mono ?_; rintro e w9 ⟨R, hR, rfl, b9⟩
  have B9 := B8.trans (b9.mono B8.size)
  have xa_9 := xa_8.below b9; clear xa_8
  have xb_9 := xb_8.below b9; clear xb_8
  have xr_9 := xr_8.below b9; clear xr_8
  have xs_9 := xs_8.below b9; clear xs_8
  clear b9 B8
  have HRF := Lib.hid (HRR.out R hR); clear hR HRR HRD hd hd3
  obtain ⟨⟨r1, r2⟩, r3, r4⟩ := R
  have ca0 := xa_9.1.at 0 rfl
  have ca1 := xa_9.1.at 1 rfl
  have cb0 := xb_9.1.at 0 rfl
  have cb1 := xb_9.1.at 1 rfl
  have cr0 := xr_9.1.at 0 rfl
  have cr1 := xr_9.1.at 1 rfl
  have fr0 := xr_9.2 0
  have fr1 := xr_9.2 1
  have HBB := Lib.hid B9; clear B9
  have hsz := HBB.out.size
  go_wp2
  refine bodyPost_ret (v := .tuple #[.agg #[.int .i64 (r1), .int .i64 (r2)], .int .i64 (r3), .int .i64 (r4)]) (by simp [results, Try.results10, go_sem, *]) rfl ⟨_, HRF.out, rfl, ?_⟩
  repeat (first | exact HBB.out | refine Below.alloc ?_ (by simp <;> omega) _ | refine Below.setCell ?_ (by simp <;> omega) _ | refine below_drewN ?_ _)


end Go.Proofs.Ytoclpcdmpeimkaa
