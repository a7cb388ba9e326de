/-
  The law FnExactSameTuning, walked.
-/
import Derived.Test.YtbahhkpfbmlcjaaSameT
import Derived.Test.YtbahhkpfbmlcjaaLawVEnv
namespace Go.Proofs.Ytbahhkpfbmlcjaa
open Go.RowKit

set_option maxHeartbeats 2000000 in
theorem law_FnExactSameTuning (b0 d0 o0 e0 : Int) (a0 : Option Addr) (len0 cap0 : Nat) (ps0 : List (Int × Int)) (b1 d1 o1 e1 : Int) (a1 : Option Addr) (len1 cap1 : Nat) (ps1 : List (Int × Int)) (w : World) (hx0 : Pairs w (.slice a0 len0 cap0) ps0) (hr0 : InRP ps0) (hx1 : Pairs w (.slice a1 len1 cap1) ps1) (hr1 : InRP ps1) :
    Calls Try.prog 11 #[tunV b0 d0 o0 e0 (.slice a0 len0 cap0), tunV b1 d1 o1 e1 (.slice a1 len1 cap1)] w fun e w' => e = .returned (.bool true) ∧ Below w.heap.size w w' := by
  by_cases hs0 : szF ps0.length 1048576 < 0
  · have B0 : Below w.heap.size w w := Below.refl _ _
    have A1 : Below w.heap.size w (w.alloc (.cells #[.int .i64 b0, .int .i64 d0, .int .i64 o0, .int .i64 e0, .slice a0 len0 cap0] 60)) := (Below.refl _ _).alloc (Nat.le_refl _) _
    have B1 := B0.trans (A1.mono B0.size)
    have xa_1 : Box (w.alloc (.cells #[.int .i64 b0, .int .i64 d0, .int .i64 o0, .int .i64 e0, .slice a0 len0 cap0] 60)) (w.heap.size) [.int .i64 b0, .int .i64 d0, .int .i64 o0, .int .i64 e0, .slice a0 len0 cap0] := Box.newAt _ _ _ (by rfl)
    clear A1
    have A2 : Below (w.alloc (.cells #[.int .i64 b0, .int .i64 d0, .int .i64 o0, .int .i64 e0, .slice a0 len0 cap0] 60)).heap.size (w.alloc (.cells #[.int .i64 b0, .int .i64 d0, .int .i64 o0, .int .i64 e0, .slice a0 len0 cap0] 60)) ((w.alloc (.cells #[.int .i64 b0, .int .i64 d0, .int .i64 o0, .int .i64 e0, .slice a0 len0 cap0] 60)).alloc (.cells #[.int .i64 b1, .int .i64 d1, .int .i64 o1, .int .i64 e1, .slice a1 len1 cap1] 60)) := (Below.refl _ _).alloc (Nat.le_refl _) _
    have B2 := B1.trans (A2.mono B1.size)
    have xa_2 := xa_1.below A2
    clear xa_1
    have xb_2 : Box ((w.alloc (.cells #[.int .i64 b0, .int .i64 d0, .int .i64 o0, .int .i64 e0, .slice a0 len0 cap0] 60)).alloc (.cells #[.int .i64 b1, .int .i64 d1, .int .i64 o1, .int .i64 e1, .slice a1 len1 cap1] 60)) (w.heap.size + 1) [.int .i64 b1, .int .i64 d1, .int .i64 o1, .int .i64 e1, .slice a1 len1 cap1] := Box.newAt _ _ _ (by simp)
    clear A2 B1
    go_enter Try.func11, Try.ntmps11
    have ca0 := xa_2.at 0 rfl
    have ca1 := xa_2.at 1 rfl
    have ca2 := xa_2.at 2 rfl
    have ca3 := xa_2.at 3 rfl
    have ca4 := xa_2.at 4 rfl
    go_wp2_with fail
    clear ca0 ca1 ca2 ca3 ca4
    refine (szTuning_any b0 d0 o0 e0 _ ps0 1048576 _ (hx0.below B2) (by omega)).mono ?_; rintro e w3 ⟨rfl, b3⟩
    have B3 := B2.trans (b3.mono B2.size)
    have xa_3 := xa_2.below b3; clear xa_2
    have xb_3 := xb_2.below b3; clear xb_2
    clear b3 B2
    go_wp2_with fail
    go_ret
    exact ⟨rfl, B3⟩
  obtain ⟨q0, q1, q2, hq⟩ := szF_in hs0 (by omega)
  clear hq
  by_cases hs1 : szF ps1.length (szF ps0.length 1048576) < 0
  · have B0 : Below w.heap.size w w := Below.refl _ _
    have A1 : Below w.heap.size w (w.alloc (.cells #[.int .i64 b0, .int .i64 d0, .int .i64 o0, .int .i64 e0, .slice a0 len0 cap0] 60)) := (Below.refl _ _).alloc (Nat.le_refl _) _
    have B1 := B0.trans (A1.mono B0.size)
    have xa_1 : Box (w.alloc (.cells #[.int .i64 b0, .int .i64 d0, .int .i64 o0, .int .i64 e0, .slice a0 len0 cap0] 60)) (w.heap.size) [.int .i64 b0, .int .i64 d0, .int .i64 o0, .int .i64 e0, .slice a0 len0 cap0] := Box.newAt _ _ _ (by rfl)
    clear A1
    have A2 : Below (w.alloc (.cells #[.int .i64 b0, .int .i64 d0, .int .i64 o0, .int .i64 e0, .slice a0 len0 cap0] 60)).heap.size (w.alloc (.cells #[.int .i64 b0, .int .i64 d0, .int .i64 o0, .int .i64 e0, .slice a0 len0 cap0] 60)) ((w.alloc (.cells #[.int .i64 b0, .int .i64 d0, .int .i64 o0, .int .i64 e0, .slice a0 len0 cap0] 60)).alloc (.cells #[.int .i64 b1, .int .i64 d1, .int .i64 o1, .int .i64 e1, .slice a1 len1 cap1] 60)) := (Below.refl _ _).alloc (Nat.le_refl _) _
    have B2 := B1.trans (A2.mono B1.size)
    have xa_2 := xa_1.below A2
    clear xa_1
    have xb_2 : Box ((w.alloc (.cells #[.int .i64 b0, .int .i64 d0, .int .i64 o0, .int .i64 e0, .slice a0 len0 cap0] 60)).alloc (.cells #[.int .i64 b1, .int .i64 d1, .int .i64 o1, .int .i64 e1, .slice a1 len1 cap1] 60)) (w.heap.size + 1) [.int .i64 b1, .int .i64 d1, .int .i64 o1, .int .i64 e1, .slice a1 len1 cap1] := Box.newAt _ _ _ (by simp)
    clear A2 B1
    go_enter Try.func11, Try.ntmps11
    have ca0 := xa_2.at 0 rfl
    have ca1 := xa_2.at 1 rfl
    have ca2 := xa_2.at 2 rfl
    have ca3 := xa_2.at 3 rfl
    have ca4 := xa_2.at 4 rfl
    go_wp2_with fail
    clear ca0 ca1 ca2 ca3 ca4
    refine (szTuning_any b0 d0 o0 e0 _ ps0 1048576 _ (hx0.below B2) (by omega)).mono ?_; rintro e w3 ⟨rfl, b3⟩
    have B3 := B2.trans (b3.mono B2.size)
    have xa_3 := xa_2.below b3; clear xa_2
    have xb_3 := xb_2.below b3; clear xb_2
    clear b3 B2
    have cb0 := xb_3.at 0 rfl
    have cb1 := xb_3.at 1 rfl
    have cb2 := xb_3.at 2 rfl
    have cb3 := xb_3.at 3 rfl
    have cb4 := xb_3.at 4 rfl
    go_wp2_with fail
    clear cb0 cb1 cb2 cb3 cb4
    refine (szTuning_any b1 d1 o1 e1 _ ps1 (szF ps0.length 1048576) _ (hx1.below B3) (by omega)).mono ?_; rintro e w4 ⟨rfl, b4⟩
    have B4 := B3.trans (b4.mono B3.size)
    have xa_4 := xa_3.below b4; clear xa_3
    have xb_4 := xb_3.below b4; clear xb_3
    clear b4 B3
    go_wp2_with fail
    go_ret
    exact ⟨rfl, B4⟩
  obtain ⟨q3, q4, q5, hq⟩ := szF_in hs1 (by omega)
  clear hq hs0 hs1
  have B0 : Below w.heap.size w w := Below.refl _ _
  have A1 : Below w.heap.size w (w.alloc (.cells #[.int .i64 b0, .int .i64 d0, .int .i64 o0, .int .i64 e0, .slice a0 len0 cap0] 60)) := (Below.refl _ _).alloc (Nat.le_refl _) _
  have B1 := B0.trans (A1.mono B0.size)
  have xa_1 : Box (w.alloc (.cells #[.int .i64 b0, .int .i64 d0, .int .i64 o0, .int .i64 e0, .slice a0 len0 cap0] 60)) (w.heap.size) [.int .i64 b0, .int .i64 d0, .int .i64 o0, .int .i64 e0, .slice a0 len0 cap0] := Box.newAt _ _ _ (by rfl)
  clear A1
  have A2 : Below (w.alloc (.cells #[.int .i64 b0, .int .i64 d0, .int .i64 o0, .int .i64 e0, .slice a0 len0 cap0] 60)).heap.size (w.alloc (.cells #[.int .i64 b0, .int .i64 d0, .int .i64 o0, .int .i64 e0, .slice a0 len0 cap0] 60)) ((w.alloc (.cells #[.int .i64 b0, .int .i64 d0, .int .i64 o0, .int .i64 e0, .slice a0 len0 cap0] 60)).alloc (.cells #[.int .i64 b1, .int .i64 d1, .int .i64 o1, .int .i64 e1, .slice a1 len1 cap1] 60)) := (Below.refl _ _).alloc (Nat.le_refl _) _
  have B2 := B1.trans (A2.mono B1.size)
  have xa_2 := xa_1.below A2
  clear xa_1
  have xb_2 : Box ((w.alloc (.cells #[.int .i64 b0, .int .i64 d0, .int .i64 o0, .int .i64 e0, .slice a0 len0 cap0] 60)).alloc (.cells #[.int .i64 b1, .int .i64 d1, .int .i64 o1, .int .i64 e1, .slice a1 len1 cap1] 60)) (w.heap.size + 1) [.int .i64 b1, .int .i64 d1, .int .i64 o1, .int .i64 e1, .slice a1 len1 cap1] := Box.newAt _ _ _ (by simp)
  clear A2 B1
  go_enter Try.func11, Try.ntmps11
  have ca0 := xa_2.at 0 rfl
  have ca1 := xa_2.at 1 rfl
  have ca2 := xa_2.at 2 rfl
  have ca3 := xa_2.at 3 rfl
  have ca4 := xa_2.at 4 rfl
  go_wp2_with fail
  clear ca0 ca1 ca2 ca3 ca4
  refine (szTuning_any b0 d0 o0 e0 _ ps0 1048576 _ (hx0.below B2) (by omega)).mono ?_; rintro e w3 ⟨rfl, b3⟩
  have B3 := B2.trans (b3.mono B2.size)
  have xa_3 := xa_2.below b3; clear xa_2
  have xb_3 := xb_2.below b3; clear xb_2
  clear b3 B2
  have cb0 := xb_3.at 0 rfl
  have cb1 := xb_3.at 1 rfl
  have cb2 := xb_3.at 2 rfl
  have cb3 := xb_3.at 3 rfl
  have cb4 := xb_3.at 4 rfl
  go_wp2_with fail
  clear cb0 cb1 cb2 cb3 cb4
  refine (szTuning_any b1 d1 o1 e1 _ ps1 (szF ps0.length 1048576) _ (hx1.below B3) (by omega)).mono ?_; rintro e w4 ⟨rfl, b4⟩
  have B4 := B3.trans (b4.mono B3.size)
  have xa_4 := xa_3.below b4; clear xa_3
  have xb_4 := xb_3.below b4; clear xb_3
  clear b4 B3
  have ph0_0 := hx0.below B4
  have ph1_0 := hx1.below B4
  go_wp2
  have ca0 := xa_4.at 0 rfl
  have ca1 := xa_4.at 1 rfl
  have ca2 := xa_4.at 2 rfl
  have ca3 := xa_4.at 3 rfl
  have ca4 := xa_4.at 4 rfl
  have cb0 := xb_4.at 0 rfl
  have cb1 := xb_4.at 1 rfl
  have cb2 := xb_4.at 2 rfl
  have cb3 := xb_4.at 3 rfl
  have cb4 := xb_4.at 4 rfl
  have K5 : ∀ w', Below w4.heap.size w4 w' → (w'.cell? ⟨w.heap.size, 0, none⟩ = some (.int .i64 b0) ∧ w'.cell? ⟨w.heap.size, 1, none⟩ = some (.int .i64 d0) ∧ w'.cell? ⟨w.heap.size, 2, none⟩ = some (.int .i64 o0) ∧ w'.cell? ⟨w.heap.size, 3, none⟩ = some (.int .i64 e0) ∧ w'.cell? ⟨w.heap.size, 4, none⟩ = some (.slice a0 len0 cap0) ∧ w'.cell? ⟨w.heap.size + 1, 0, none⟩ = some (.int .i64 b1) ∧ w'.cell? ⟨w.heap.size + 1, 1, none⟩ = some (.int .i64 d1) ∧ w'.cell? ⟨w.heap.size + 1, 2, none⟩ = some (.int .i64 o1) ∧ w'.cell? ⟨w.heap.size + 1, 3, none⟩ = some (.int .i64 e1) ∧ w'.cell? ⟨w.heap.size + 1, 4, none⟩ = some (.slice a1 len1 cap1)) := fun w' b' => ⟨(xa_4.below b').at 0 rfl, (xa_4.below b').at 1 rfl, (xa_4.below b').at 2 rfl, (xa_4.below b').at 3 rfl, (xa_4.below b').at 4 rfl, (xb_4.below b').at 0 rfl, (xb_4.below b').at 1 rfl, (xb_4.below b').at 2 rfl, (xb_4.below b').at 3 rfl, (xb_4.below b').at 4 rfl⟩
  have HK5 := Lib.hid K5; clear K5
  have l5 : Below w4.heap.size w4 w4.drew := (Below.refl _ _).drew
  have t5 := HK5.out _ l5
  have T5 := Lib.hid t5; clear t5
  go_region_held3 (fun w' => w'.cell? ⟨w.heap.size, 0, none⟩ = some (.int .i64 b0) ∧ w'.cell? ⟨w.heap.size, 1, none⟩ = some (.int .i64 d0) ∧ w'.cell? ⟨w.heap.size, 2, none⟩ = some (.int .i64 o0) ∧ w'.cell? ⟨w.heap.size, 3, none⟩ = some (.int .i64 e0) ∧ w'.cell? ⟨w.heap.size, 4, none⟩ = some (.slice a0 len0 cap0) ∧ w'.cell? ⟨w.heap.size + 1, 0, none⟩ = some (.int .i64 b1) ∧ w'.cell? ⟨w.heap.size + 1, 1, none⟩ = some (.int .i64 d1) ∧ w'.cell? ⟨w.heap.size + 1, 2, none⟩ = some (.int .i64 o1) ∧ w'.cell? ⟨w.heap.size + 1, 3, none⟩ = some (.int .i64 e1) ∧ w'.cell? ⟨w.heap.size + 1, 4, none⟩ = some (.slice a1 len1 cap1)) (first | exact T5.out | exact t6 | exact t7 | exact t8) (first | (go_at_call 39; (with_reducible refine (toTuning_any b0 d0 o0 e0 _ ps0 _ (ph0_0.below l5) q0).mono ?_); rintro e w6 ⟨v6, rfl, pe0_6, b6⟩; have l6 := Below.trans l5 (b6.mono (Below.size l5)); have t6 := HK5.out _ l6) | (go_at_call 39; (with_reducible refine (toTuning_any b1 d1 o1 e1 _ ps1 _ (ph1_0.below l6) q3).mono ?_); rintro e w7 ⟨v7, rfl, pe1_7, b7⟩; have l7 := Below.trans l6 (b7.mono (Below.size l6)); have t7 := HK5.out _ l7) | (go_at_call 38; (with_reducible refine (specTun_any b0 d0 o0 e0 _ ps0 b1 d1 o1 e1 _ ps1 _ (OwnP.pairs (pe0_6.below (b7)) (by omega)) (OwnP.pairs pe1_7 (by omega))).mono ?_); rintro e w8 ⟨rfl, b8⟩; have l8 := Below.trans l7 (b8.mono (Below.size l7)); have t8 := HK5.out _ l8))
  clear T5 HK5 t6 t7 t8 ca0 ca1 ca2 ca3 ca4 cb0 cb1 cb2 cb3 cb4
  have B8 := B4.trans (l8.mono B4.size)
  have xa_8 := xa_4.below l8; clear xa_4
  have xb_8 := xb_4.below l8; clear xb_4
  have ph0_8 := ph0_0.below l8; clear ph0_0
  have ph1_8 := ph1_0.below l8; clear ph1_0
  clear b6 b7 b8 l5 l6 l7 l8
  clear B4
  have ca0 := xa_8.at 0 rfl
  have ca1 := xa_8.at 1 rfl
  have ca2 := xa_8.at 2 rfl
  have ca3 := xa_8.at 3 rfl
  have ca4 := xa_8.at 4 rfl
  go_wp2_with fail
  clear ca0 ca1 ca2 ca3 ca4
  refine (toTuning_any b0 d0 o0 e0 _ ps0 _ ph0_8 q0).mono ?_; rintro e w9 ⟨v9, rfl, px0_9, b9⟩
  have B9 := B8.trans (b9.mono B8.size)
  have xa_9 := xa_8.below b9; clear xa_8
  have xb_9 := xb_8.below b9; clear xb_8
  have ph0_9 := ph0_8.below b9; clear ph0_8
  have ph1_9 := ph1_8.below b9; clear ph1_8
  clear b9 B8
  obtain ⟨ax0, cx0, rfl, _, _⟩ := px0_9.shape1
  have A10 : Below w9.heap.size w9 (w9.alloc (.cells #[.int .i64 b0, .int .i64 d0, .int .i64 o0, .int .i64 e0, .slice ax0 ps0.length cx0] 65)) := (Below.refl _ _).alloc (Nat.le_refl _) _
  have B10 := B9.trans (A10.mono B9.size)
  have xa_10 := xa_9.below A10
  clear xa_9
  have xb_10 := xb_9.below A10
  clear xb_9
  have ph0_10 := ph0_9.below A10
  clear ph0_9
  have ph1_10 := ph1_9.below A10
  clear ph1_9
  have px0_10 := px0_9.below A10
  clear px0_9
  have xX_10 : Box (w9.alloc (.cells #[.int .i64 b0, .int .i64 d0, .int .i64 o0, .int .i64 e0, .slice ax0 ps0.length cx0] 65)) (w9.heap.size) [.int .i64 b0, .int .i64 d0, .int .i64 o0, .int .i64 e0, .slice ax0 ps0.length cx0] := Box.newAt _ _ _ (by rfl)
  clear A10 B9
  have cb0 := xb_10.at 0 rfl
  have cb1 := xb_10.at 1 rfl
  have cb2 := xb_10.at 2 rfl
  have cb3 := xb_10.at 3 rfl
  have cb4 := xb_10.at 4 rfl
  go_wp2_with fail
  clear cb0 cb1 cb2 cb3 cb4
  refine (toTuning_any b1 d1 o1 e1 _ ps1 _ ph1_10 q3).mono ?_; rintro e w11 ⟨v11, rfl, px1_11, b11⟩
  have B11 := B10.trans (b11.mono B10.size)
  have xa_11 := xa_10.below b11; clear xa_10
  have xb_11 := xb_10.below b11; clear xb_10
  have xX_11 := xX_10.below b11; clear xX_10
  have ph0_11 := ph0_10.below b11; clear ph0_10
  have ph1_11 := ph1_10.below b11; clear ph1_10
  have px0_11 := px0_10.below b11; clear px0_10
  clear b11 B10
  obtain ⟨ax1, cx1, rfl, _, _⟩ := px1_11.shape1
  have A12 : Below w11.heap.size w11 (w11.alloc (.cells #[.int .i64 b1, .int .i64 d1, .int .i64 o1, .int .i64 e1, .slice ax1 ps1.length cx1] 65)) := (Below.refl _ _).alloc (Nat.le_refl _) _
  have B12 := B11.trans (A12.mono B11.size)
  have xa_12 := xa_11.below A12
  clear xa_11
  have xb_12 := xb_11.below A12
  clear xb_11
  have xX_12 := xX_11.below A12
  clear xX_11
  have ph0_12 := ph0_11.below A12
  clear ph0_11
  have ph1_12 := ph1_11.below A12
  clear ph1_11
  have px0_12 := px0_11.below A12
  clear px0_11
  have px1_12 := px1_11.below A12
  clear px1_11
  have xY_12 : Box (w11.alloc (.cells #[.int .i64 b1, .int .i64 d1, .int .i64 o1, .int .i64 e1, .slice ax1 ps1.length cx1] 65)) (w11.heap.size) [.int .i64 b1, .int .i64 d1, .int .i64 o1, .int .i64 e1, .slice ax1 ps1.length cx1] := Box.newAt _ _ _ (by rfl)
  clear A12 B11
  have cX0 := xX_12.at 0 rfl
  have cX1 := xX_12.at 1 rfl
  have cX2 := xX_12.at 2 rfl
  have cX3 := xX_12.at 3 rfl
  have cX4 := xX_12.at 4 rfl
  have cY0 := xY_12.at 0 rfl
  have cY1 := xY_12.at 1 rfl
  have cY2 := xY_12.at 2 rfl
  have cY3 := xY_12.at 3 rfl
  have cY4 := xY_12.at 4 rfl
  go_wp2_with fail
  clear cX0 cX1 cX2 cX3 cX4 cY0 cY1 cY2 cY3 cY4
  refine (implTun_any b0 d0 o0 e0 _ ps0 b1 d1 o1 e1 _ ps1 _ (OwnP.pairs px0_12 (by omega)) (OwnP.pairs px1_12 (by omega))).mono ?_; rintro e w13 ⟨rfl, b13⟩
  have B13 := B12.trans (b13.mono B12.size)
  have xa_13 := xa_12.below b13; clear xa_12
  have xb_13 := xb_12.below b13; clear xb_12
  have xX_13 := xX_12.below b13; clear xX_12
  have xY_13 := xY_12.below b13; clear xY_12
  have ph0_13 := ph0_12.below b13; clear ph0_12
  have ph1_13 := ph1_12.below b13; clear ph1_12
  have px0_13 := px0_12.below b13; clear px0_12
  have px1_13 := px1_12.below b13; clear px1_12
  clear b13 B12
  go_wp2
  have cX0 := xX_13.at 0 rfl
  have cX1 := xX_13.at 1 rfl
  have cX2 := xX_13.at 2 rfl
  have cX3 := xX_13.at 3 rfl
  have cX4 := xX_13.at 4 rfl
  have ca0 := xa_13.at 0 rfl
  have ca1 := xa_13.at 1 rfl
  have ca2 := xa_13.at 2 rfl
  have ca3 := xa_13.at 3 rfl
  have ca4 := xa_13.at 4 rfl
  have K14 : ∀ w', Below w13.heap.size w13 w' → (w'.cell? ⟨w9.heap.size, 0, none⟩ = some (.int .i64 b0) ∧ w'.cell? ⟨w9.heap.size, 1, none⟩ = some (.int .i64 d0) ∧ w'.cell? ⟨w9.heap.size, 2, none⟩ = some (.int .i64 o0) ∧ w'.cell? ⟨w9.heap.size, 3, none⟩ = some (.int .i64 e0) ∧ w'.cell? ⟨w9.heap.size, 4, none⟩ = some (.slice ax0 ps0.length cx0) ∧ w'.cell? ⟨w.heap.size, 0, none⟩ = some (.int .i64 b0) ∧ w'.cell? ⟨w.heap.size, 1, none⟩ = some (.int .i64 d0) ∧ w'.cell? ⟨w.heap.size, 2, none⟩ = some (.int .i64 o0) ∧ w'.cell? ⟨w.heap.size, 3, none⟩ = some (.int .i64 e0) ∧ w'.cell? ⟨w.heap.size, 4, none⟩ = some (.slice a0 len0 cap0)) := fun w' b' => ⟨(xX_13.below b').at 0 rfl, (xX_13.below b').at 1 rfl, (xX_13.below b').at 2 rfl, (xX_13.below b').at 3 rfl, (xX_13.below b').at 4 rfl, (xa_13.below b').at 0 rfl, (xa_13.below b').at 1 rfl, (xa_13.below b').at 2 rfl, (xa_13.below b').at 3 rfl, (xa_13.below b').at 4 rfl⟩
  have HK14 := Lib.hid K14; clear K14
  have l14 : Below w13.heap.size w13 w13.drew := (Below.refl _ _).drew
  have t14 := HK14.out _ l14
  have T14 := Lib.hid t14; clear t14
  go_region_held3 (fun w' => w'.cell? ⟨w9.heap.size, 0, none⟩ = some (.int .i64 b0) ∧ w'.cell? ⟨w9.heap.size, 1, none⟩ = some (.int .i64 d0) ∧ w'.cell? ⟨w9.heap.size, 2, none⟩ = some (.int .i64 o0) ∧ w'.cell? ⟨w9.heap.size, 3, none⟩ = some (.int .i64 e0) ∧ w'.cell? ⟨w9.heap.size, 4, none⟩ = some (.slice ax0 ps0.length cx0) ∧ w'.cell? ⟨w.heap.size, 0, none⟩ = some (.int .i64 b0) ∧ w'.cell? ⟨w.heap.size, 1, none⟩ = some (.int .i64 d0) ∧ w'.cell? ⟨w.heap.size, 2, none⟩ = some (.int .i64 o0) ∧ w'.cell? ⟨w.heap.size, 3, none⟩ = some (.int .i64 e0) ∧ w'.cell? ⟨w.heap.size, 4, none⟩ = some (.slice a0 len0 cap0)) (first | exact T14.out | exact t15 | exact t16) (first | (go_at_call 39; (with_reducible refine (toTuning_any b0 d0 o0 e0 _ ps0 _ (ph0_13.below l14) q0).mono ?_); rintro e w15 ⟨v15, rfl, pe0_15, b15⟩; have l15 := Below.trans l14 (b15.mono (Below.size l14)); have t15 := HK14.out _ l15) | (go_at_call 41; (with_reducible refine (eqTuning_same b0 d0 o0 e0 _ _ ps0 _ (OwnP.pairs (px0_13.below l15) (by omega)) (OwnP.pairs pe0_15 (by omega))).mono ?_); rintro e w16 ⟨rfl, b16⟩; have l16 := Below.trans l15 (b16.mono (Below.size l15)); have t16 := HK14.out _ l16))
  clear T14 HK14 t15 t16 cX0 cX1 cX2 cX3 cX4 ca0 ca1 ca2 ca3 ca4
  have B16 := B13.trans (l16.mono B13.size)
  have xa_16 := xa_13.below l16; clear xa_13
  have xb_16 := xb_13.below l16; clear xb_13
  have xX_16 := xX_13.below l16; clear xX_13
  have xY_16 := xY_13.below l16; clear xY_13
  have ph0_16 := ph0_13.below l16; clear ph0_13
  have ph1_16 := ph1_13.below l16; clear ph1_13
  have px0_16 := px0_13.below l16; clear px0_13
  have px1_16 := px1_13.below l16; clear px1_13
  clear b15 b16 l14 l15 l16
  clear B13
  go_wp2
  have cY0 := xY_16.at 0 rfl
  have cY1 := xY_16.at 1 rfl
  have cY2 := xY_16.at 2 rfl
  have cY3 := xY_16.at 3 rfl
  have cY4 := xY_16.at 4 rfl
  have cb0 := xb_16.at 0 rfl
  have cb1 := xb_16.at 1 rfl
  have cb2 := xb_16.at 2 rfl
  have cb3 := xb_16.at 3 rfl
  have cb4 := xb_16.at 4 rfl
  have K17 : ∀ w', Below w16.heap.size w16 w' → (w'.cell? ⟨w11.heap.size, 0, none⟩ = some (.int .i64 b1) ∧ w'.cell? ⟨w11.heap.size, 1, none⟩ = some (.int .i64 d1) ∧ w'.cell? ⟨w11.heap.size, 2, none⟩ = some (.int .i64 o1) ∧ w'.cell? ⟨w11.heap.size, 3, none⟩ = some (.int .i64 e1) ∧ w'.cell? ⟨w11.heap.size, 4, none⟩ = some (.slice ax1 ps1.length cx1) ∧ w'.cell? ⟨w.heap.size + 1, 0, none⟩ = some (.int .i64 b1) ∧ w'.cell? ⟨w.heap.size + 1, 1, none⟩ = some (.int .i64 d1) ∧ w'.cell? ⟨w.heap.size + 1, 2, none⟩ = some (.int .i64 o1) ∧ w'.cell? ⟨w.heap.size + 1, 3, none⟩ = some (.int .i64 e1) ∧ w'.cell? ⟨w.heap.size + 1, 4, none⟩ = some (.slice a1 len1 cap1)) := fun w' b' => ⟨(xY_16.below b').at 0 rfl, (xY_16.below b').at 1 rfl, (xY_16.below b').at 2 rfl, (xY_16.below b').at 3 rfl, (xY_16.below b').at 4 rfl, (xb_16.below b').at 0 rfl, (xb_16.below b').at 1 rfl, (xb_16.below b').at 2 rfl, (xb_16.below b').at 3 rfl, (xb_16.below b').at 4 rfl⟩
  have HK17 := Lib.hid K17; clear K17
  have l17 : Below w16.heap.size w16 w16.drew := (Below.refl _ _).drew
  have t17 := HK17.out _ l17
  have T17 := Lib.hid t17; clear t17
  go_region_held3 (fun w' => w'.cell? ⟨w11.heap.size, 0, none⟩ = some (.int .i64 b1) ∧ w'.cell? ⟨w11.heap.size, 1, none⟩ = some (.int .i64 d1) ∧ w'.cell? ⟨w11.heap.size, 2, none⟩ = some (.int .i64 o1) ∧ w'.cell? ⟨w11.heap.size, 3, none⟩ = some (.int .i64 e1) ∧ w'.cell? ⟨w11.heap.size, 4, none⟩ = some (.slice ax1 ps1.length cx1) ∧ w'.cell? ⟨w.heap.size + 1, 0, none⟩ = some (.int .i64 b1) ∧ w'.cell? ⟨w.heap.size + 1, 1, none⟩ = some (.int .i64 d1) ∧ w'.cell? ⟨w.heap.size + 1, 2, none⟩ = some (.int .i64 o1) ∧ w'.cell? ⟨w.heap.size + 1, 3, none⟩ = some (.int .i64 e1) ∧ w'.cell? ⟨w.heap.size + 1, 4, none⟩ = some (.slice a1 len1 cap1)) (first | exact T17.out | exact t18 | exact t19) (first | (go_at_call 39; (with_reducible refine (toTuning_any b1 d1 o1 e1 _ ps1 _ (ph1_16.below l17) q3).mono ?_); rintro e w18 ⟨v18, rfl, pe1_18, b18⟩; have l18 := Below.trans l17 (b18.mono (Below.size l17)); have t18 := HK17.out _ l18) | (go_at_call 41; (with_reducible refine (eqTuning_same b1 d1 o1 e1 _ _ ps1 _ (OwnP.pairs (px1_16.below l18) (by omega)) (OwnP.pairs pe1_18 (by omega))).mono ?_); rintro e w19 ⟨rfl, b19⟩; have l19 := Below.trans l18 (b19.mono (Below.size l18)); have t19 := HK17.out _ l19))
  clear T17 HK17 t18 t19 cY0 cY1 cY2 cY3 cY4 cb0 cb1 cb2 cb3 cb4
  have B19 := B16.trans (l19.mono B16.size)
  have xa_19 := xa_16.below l19; clear xa_16
  have xb_19 := xb_16.below l19; clear xb_16
  have xX_19 := xX_16.below l19; clear xX_16
  have xY_19 := xY_16.below l19; clear xY_16
  have ph0_19 := ph0_16.below l19; clear ph0_16
  have ph1_19 := ph1_16.below l19; clear ph1_16
  have px0_19 := px0_16.below l19; clear px0_16
  have px1_19 := px1_16.below l19; clear px1_16
  clear b18 b19 l17 l18 l19
  clear B16
  go_wp2_with fail
  go_ret
  exact ⟨rfl, B19⟩


end Go.Proofs.Ytbahhkpfbmlcjaa
