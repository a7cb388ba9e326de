/-
  The laws FnExactHeldLevel, FnExactLevelAt, FnExactEndOfEnvelope, walked.
-/
import Derived.Test.YtfpbnhghceoleaaLevelR
import Derived.Test.YtfpbnhghceoleaaLawVEnv
namespace Go.Proofs.Ytfpbnhghceoleaa
open Go.RowKit

set_option maxHeartbeats 2000000 in
theorem law_FnExactHeldLevel (s0 : Int) (a0 : Option Addr) (len0 cap0 : Nat) (r0 : Int) (ps0 : List (Int × Int)) (t0 : Int) (w : World) (hx0 : Pairs w (.slice a0 len0 cap0) ps0) (hr0 : InRP ps0) (_ : (Lit.int .i64 t0).wf = true) :
    Calls Try.prog 10 #[envV s0 (.slice a0 len0 cap0) r0, .int .i64 t0] w fun e w' => e = .returned (.bool true) ∧ Below w.heap.size w w' := by
  by_cases hs0 : szF ps0.length 1048576 < 0
  · have B0 : Below w.heap.size w w := Below.refl _ _
    have A1 : Below w.heap.size w (w.alloc (.cells #[.int .i64 s0, .slice a0 len0 cap0, .int .i64 r0] 70)) := (Below.refl _ _).alloc (Nat.le_refl _) _
    have B1 := B0.trans (A1.mono B0.size)
    have xa_1 : Box (w.alloc (.cells #[.int .i64 s0, .slice a0 len0 cap0, .int .i64 r0] 70)) (w.heap.size) [.int .i64 s0, .slice a0 len0 cap0, .int .i64 r0] := Box.newAt _ _ _ (by rfl)
    clear A1
    go_enter Try.func10, Try.ntmps10
    have ca0 := xa_1.at 0 rfl
    have ca1 := xa_1.at 1 rfl
    have ca2 := xa_1.at 2 rfl
    go_wp2_with fail
    clear ca0 ca1 ca2
    refine (szEnvelope_any s0 _ r0 ps0 1048576 _ (hx0.below B1) (by omega)).mono ?_; rintro e w2 ⟨rfl, b2⟩
    have B2 := B1.trans (b2.mono B1.size)
    have xa_2 := xa_1.below b2; clear xa_1
    clear b2 B1
    go_wp2_with fail
    go_ret
    exact ⟨rfl, B2⟩
  obtain ⟨q0, q1, q2, hq⟩ := szF_in hs0 (by omega)
  clear hq hs0
  have B0 : Below w.heap.size w w := Below.refl _ _
  have A1 : Below w.heap.size w (w.alloc (.cells #[.int .i64 s0, .slice a0 len0 cap0, .int .i64 r0] 70)) := (Below.refl _ _).alloc (Nat.le_refl _) _
  have B1 := B0.trans (A1.mono B0.size)
  have xa_1 : Box (w.alloc (.cells #[.int .i64 s0, .slice a0 len0 cap0, .int .i64 r0] 70)) (w.heap.size) [.int .i64 s0, .slice a0 len0 cap0, .int .i64 r0] := Box.newAt _ _ _ (by rfl)
  clear A1
  go_enter Try.func10, Try.ntmps10
  have ca0 := xa_1.at 0 rfl
  have ca1 := xa_1.at 1 rfl
  have ca2 := xa_1.at 2 rfl
  go_wp2_with fail
  clear ca0 ca1 ca2
  refine (szEnvelope_any s0 _ r0 ps0 1048576 _ (hx0.below B1) (by omega)).mono ?_; rintro e w2 ⟨rfl, b2⟩
  have B2 := B1.trans (b2.mono B1.size)
  have xa_2 := xa_1.below b2; clear xa_1
  clear b2 B1
  have ph0_0 := hx0.below B2
  have ca0 := xa_2.at 0 rfl
  have ca1 := xa_2.at 1 rfl
  have ca2 := xa_2.at 2 rfl
  go_wp2_with fail
  clear ca0 ca1 ca2
  refine (toEnvelope_any s0 _ r0 ps0 _ ph0_0 q0).mono ?_; rintro e w3 ⟨v3, rfl, px_3, b3⟩
  have B3 := B2.trans (b3.mono B2.size)
  have xa_3 := xa_2.below b3; clear xa_2
  have ph0_3 := ph0_0.below b3; clear ph0_0
  clear b3 B2
  go_wp2_with fail
  refine (specHeld_any s0 _ r0 ps0 t0 _ (OwnP.pairs px_3 (by omega))).mono ?_; rintro e w4 ⟨rfl, b4⟩
  have B4 := B3.trans (b4.mono B3.size)
  have xa_4 := xa_3.below b4; clear xa_3
  have ph0_4 := ph0_3.below b4; clear ph0_3
  have px_4 := px_3.below b4; clear px_3
  clear b4 B3
  clear px_4
  have ca0 := xa_4.at 0 rfl
  have ca1 := xa_4.at 1 rfl
  have ca2 := xa_4.at 2 rfl
  go_wp2_with fail
  clear ca0 ca1 ca2
  refine (toEnvelope_any s0 _ r0 ps0 _ ph0_4 q0).mono ?_; rintro e w5 ⟨v5, rfl, px0_5, b5⟩
  have B5 := B4.trans (b5.mono B4.size)
  have xa_5 := xa_4.below b5; clear xa_4
  have ph0_5 := ph0_4.below b5; clear ph0_4
  clear b5 B4
  obtain ⟨ax0, cx0, rfl, _, _⟩ := px0_5.shape1
  have A6 : Below w5.heap.size w5 (w5.alloc (.cells #[.int .i64 s0, .slice ax0 ps0.length cx0, .int .i64 r0] 24)) := (Below.refl _ _).alloc (Nat.le_refl _) _
  have B6 := B5.trans (A6.mono B5.size)
  have xa_6 := xa_5.below A6
  clear xa_5
  have ph0_6 := ph0_5.below A6
  clear ph0_5
  have px0_6 := px0_5.below A6
  clear px0_5
  have xX_6 : Box (w5.alloc (.cells #[.int .i64 s0, .slice ax0 ps0.length cx0, .int .i64 r0] 24)) (w5.heap.size) [.int .i64 s0, .slice ax0 ps0.length cx0, .int .i64 r0] := Box.newAt _ _ _ (by rfl)
  clear A6 B5
  have cX0 := xX_6.at 0 rfl
  have cX1 := xX_6.at 1 rfl
  have cX2 := xX_6.at 2 rfl
  go_wp2_with fail
  clear cX0 cX1 cX2
  refine (implHeld_any s0 _ r0 ps0 t0 _ (OwnP.pairs px0_6 (by omega))).mono ?_; rintro e w7 ⟨rfl, b7⟩
  have B7 := B6.trans (b7.mono B6.size)
  have xa_7 := xa_6.below b7; clear xa_6
  have xX_7 := xX_6.below b7; clear xX_6
  have ph0_7 := ph0_6.below b7; clear ph0_6
  have px0_7 := px0_6.below b7; clear px0_6
  clear b7 B6
  go_wp2
  have cX0 := xX_7.at 0 rfl
  have cX1 := xX_7.at 1 rfl
  have cX2 := xX_7.at 2 rfl
  have ca0 := xa_7.at 0 rfl
  have ca1 := xa_7.at 1 rfl
  have ca2 := xa_7.at 2 rfl
  have K8 : ∀ w', Below w7.heap.size w7 w' → (w'.cell? ⟨w5.heap.size, 0, none⟩ = some (.int .i64 s0) ∧ w'.cell? ⟨w5.heap.size, 1, none⟩ = some (.slice ax0 ps0.length cx0) ∧ w'.cell? ⟨w5.heap.size, 2, none⟩ = some (.int .i64 r0) ∧ w'.cell? ⟨w.heap.size, 0, none⟩ = some (.int .i64 s0) ∧ w'.cell? ⟨w.heap.size, 1, none⟩ = some (.slice a0 len0 cap0) ∧ w'.cell? ⟨w.heap.size, 2, none⟩ = some (.int .i64 r0)) := fun w' b' => ⟨(xX_7.below b').at 0 rfl, (xX_7.below b').at 1 rfl, (xX_7.below b').at 2 rfl, (xa_7.below b').at 0 rfl, (xa_7.below b').at 1 rfl, (xa_7.below b').at 2 rfl⟩
  have HK8 := Lib.hid K8; clear K8
  have l8 : Below w7.heap.size w7 w7.drew := (Below.refl _ _).drew
  have t8 := HK8.out _ l8
  have T8 := Lib.hid t8; clear t8
  go_region_held3 (fun w' => w'.cell? ⟨w5.heap.size, 0, none⟩ = some (.int .i64 s0) ∧ w'.cell? ⟨w5.heap.size, 1, none⟩ = some (.slice ax0 ps0.length cx0) ∧ w'.cell? ⟨w5.heap.size, 2, none⟩ = some (.int .i64 r0) ∧ w'.cell? ⟨w.heap.size, 0, none⟩ = some (.int .i64 s0) ∧ w'.cell? ⟨w.heap.size, 1, none⟩ = some (.slice a0 len0 cap0) ∧ w'.cell? ⟨w.heap.size, 2, none⟩ = some (.int .i64 r0)) (first | exact T8.out | exact t9 | exact t10) (first | (go_at_call 47; (with_reducible refine (toEnvelope_any s0 _ r0 ps0 _ (ph0_7.below l8) q0).mono ?_); rintro e w9 ⟨v9, rfl, pe0_9, b9⟩; have l9 := Below.trans l8 (b9.mono (Below.size l8)); have t9 := HK8.out _ l9) | (go_at_call 17; (with_reducible refine (eqEnvelope_same s0 _ _ r0 ps0 _ (OwnP.pairs (px0_7.below l9) (by omega)) (OwnP.pairs pe0_9 (by omega))).mono ?_); rintro e w10 ⟨rfl, b10⟩; have l10 := Below.trans l9 (b10.mono (Below.size l9)); have t10 := HK8.out _ l10))
  clear T8 HK8 t9 t10 cX0 cX1 cX2 ca0 ca1 ca2
  have B10 := B7.trans (l10.mono B7.size)
  have xa_10 := xa_7.below l10; clear xa_7
  have xX_10 := xX_7.below l10; clear xX_7
  have ph0_10 := ph0_7.below l10; clear ph0_7
  have px0_10 := px0_7.below l10; clear px0_7
  clear b9 b10 l8 l9 l10
  clear B7
  go_wp2_with fail
  go_ret
  exact ⟨rfl, B10⟩


set_option maxHeartbeats 2000000 in
theorem law_FnExactLevelAt (s0 : Int) (a0 : Option Addr) (len0 cap0 : Nat) (r0 : Int) (ps0 : List (Int × Int)) (t0 t1 : Int) (w : World) (hx0 : Pairs w (.slice a0 len0 cap0) ps0) (hr0 : InRP ps0) (_ : (Lit.int .i64 t0).wf = true) (_ : (Lit.int .i64 t1).wf = true) :
    Calls Try.prog 12 #[envV s0 (.slice a0 len0 cap0) r0, .int .i64 t0, .int .i64 t1] w fun e w' => e = .returned (.bool true) ∧ Below w.heap.size w w' := by
  by_cases hs0 : szF ps0.length 1048576 < 0
  · have B0 : Below w.heap.size w w := Below.refl _ _
    have A1 : Below w.heap.size w (w.alloc (.cells #[.int .i64 s0, .slice a0 len0 cap0, .int .i64 r0] 70)) := (Below.refl _ _).alloc (Nat.le_refl _) _
    have B1 := B0.trans (A1.mono B0.size)
    have xa_1 : Box (w.alloc (.cells #[.int .i64 s0, .slice a0 len0 cap0, .int .i64 r0] 70)) (w.heap.size) [.int .i64 s0, .slice a0 len0 cap0, .int .i64 r0] := Box.newAt _ _ _ (by rfl)
    clear A1
    go_enter Try.func12, Try.ntmps12
    have ca0 := xa_1.at 0 rfl
    have ca1 := xa_1.at 1 rfl
    have ca2 := xa_1.at 2 rfl
    go_wp2_with fail
    clear ca0 ca1 ca2
    refine (szEnvelope_any s0 _ r0 ps0 1048576 _ (hx0.below B1) (by omega)).mono ?_; rintro e w2 ⟨rfl, b2⟩
    have B2 := B1.trans (b2.mono B1.size)
    have xa_2 := xa_1.below b2; clear xa_1
    clear b2 B1
    go_wp2_with fail
    go_ret
    exact ⟨rfl, B2⟩
  obtain ⟨q0, q1, q2, hq⟩ := szF_in hs0 (by omega)
  clear hq hs0
  have B0 : Below w.heap.size w w := Below.refl _ _
  have A1 : Below w.heap.size w (w.alloc (.cells #[.int .i64 s0, .slice a0 len0 cap0, .int .i64 r0] 70)) := (Below.refl _ _).alloc (Nat.le_refl _) _
  have B1 := B0.trans (A1.mono B0.size)
  have xa_1 : Box (w.alloc (.cells #[.int .i64 s0, .slice a0 len0 cap0, .int .i64 r0] 70)) (w.heap.size) [.int .i64 s0, .slice a0 len0 cap0, .int .i64 r0] := Box.newAt _ _ _ (by rfl)
  clear A1
  go_enter Try.func12, Try.ntmps12
  have ca0 := xa_1.at 0 rfl
  have ca1 := xa_1.at 1 rfl
  have ca2 := xa_1.at 2 rfl
  go_wp2_with fail
  clear ca0 ca1 ca2
  refine (szEnvelope_any s0 _ r0 ps0 1048576 _ (hx0.below B1) (by omega)).mono ?_; rintro e w2 ⟨rfl, b2⟩
  have B2 := B1.trans (b2.mono B1.size)
  have xa_2 := xa_1.below b2; clear xa_1
  clear b2 B1
  have ph0_0 := hx0.below B2
  have ca0 := xa_2.at 0 rfl
  have ca1 := xa_2.at 1 rfl
  have ca2 := xa_2.at 2 rfl
  go_wp2_with fail
  clear ca0 ca1 ca2
  refine (toEnvelope_any s0 _ r0 ps0 _ ph0_0 q0).mono ?_; rintro e w3 ⟨v3, rfl, px_3, b3⟩
  have B3 := B2.trans (b3.mono B2.size)
  have xa_3 := xa_2.below b3; clear xa_2
  have ph0_3 := ph0_0.below b3; clear ph0_0
  clear b3 B2
  go_wp2_with fail
  refine (specLevel_any s0 _ r0 ps0 t0 t1 _ (OwnP.pairs px_3 (by omega))).mono ?_; rintro e w4 ⟨rfl, b4⟩
  have B4 := B3.trans (b4.mono B3.size)
  have xa_4 := xa_3.below b4; clear xa_3
  have ph0_4 := ph0_3.below b4; clear ph0_3
  have px_4 := px_3.below b4; clear px_3
  clear b4 B3
  clear px_4
  have ca0 := xa_4.at 0 rfl
  have ca1 := xa_4.at 1 rfl
  have ca2 := xa_4.at 2 rfl
  go_wp2_with fail
  clear ca0 ca1 ca2
  refine (toEnvelope_any s0 _ r0 ps0 _ ph0_4 q0).mono ?_; rintro e w5 ⟨v5, rfl, px0_5, b5⟩
  have B5 := B4.trans (b5.mono B4.size)
  have xa_5 := xa_4.below b5; clear xa_4
  have ph0_5 := ph0_4.below b5; clear ph0_4
  clear b5 B4
  obtain ⟨ax0, cx0, rfl, _, _⟩ := px0_5.shape1
  have A6 : Below w5.heap.size w5 (w5.alloc (.cells #[.int .i64 s0, .slice ax0 ps0.length cx0, .int .i64 r0] 24)) := (Below.refl _ _).alloc (Nat.le_refl _) _
  have B6 := B5.trans (A6.mono B5.size)
  have xa_6 := xa_5.below A6
  clear xa_5
  have ph0_6 := ph0_5.below A6
  clear ph0_5
  have px0_6 := px0_5.below A6
  clear px0_5
  have xX_6 : Box (w5.alloc (.cells #[.int .i64 s0, .slice ax0 ps0.length cx0, .int .i64 r0] 24)) (w5.heap.size) [.int .i64 s0, .slice ax0 ps0.length cx0, .int .i64 r0] := Box.newAt _ _ _ (by rfl)
  clear A6 B5
  have cX0 := xX_6.at 0 rfl
  have cX1 := xX_6.at 1 rfl
  have cX2 := xX_6.at 2 rfl
  go_wp2_with fail
  clear cX0 cX1 cX2
  refine (implLevel_any s0 _ r0 ps0 t0 t1 _ (OwnP.pairs px0_6 (by omega))).mono ?_; rintro e w7 ⟨rfl, b7⟩
  have B7 := B6.trans (b7.mono B6.size)
  have xa_7 := xa_6.below b7; clear xa_6
  have xX_7 := xX_6.below b7; clear xX_6
  have ph0_7 := ph0_6.below b7; clear ph0_6
  have px0_7 := px0_6.below b7; clear px0_6
  clear b7 B6
  go_wp2
  have cX0 := xX_7.at 0 rfl
  have cX1 := xX_7.at 1 rfl
  have cX2 := xX_7.at 2 rfl
  have ca0 := xa_7.at 0 rfl
  have ca1 := xa_7.at 1 rfl
  have ca2 := xa_7.at 2 rfl
  have K8 : ∀ w', Below w7.heap.size w7 w' → (w'.cell? ⟨w5.heap.size, 0, none⟩ = some (.int .i64 s0) ∧ w'.cell? ⟨w5.heap.size, 1, none⟩ = some (.slice ax0 ps0.length cx0) ∧ w'.cell? ⟨w5.heap.size, 2, none⟩ = some (.int .i64 r0) ∧ w'.cell? ⟨w.heap.size, 0, none⟩ = some (.int .i64 s0) ∧ w'.cell? ⟨w.heap.size, 1, none⟩ = some (.slice a0 len0 cap0) ∧ w'.cell? ⟨w.heap.size, 2, none⟩ = some (.int .i64 r0)) := fun w' b' => ⟨(xX_7.below b').at 0 rfl, (xX_7.below b').at 1 rfl, (xX_7.below b').at 2 rfl, (xa_7.below b').at 0 rfl, (xa_7.below b').at 1 rfl, (xa_7.below b').at 2 rfl⟩
  have HK8 := Lib.hid K8; clear K8
  have l8 : Below w7.heap.size w7 w7.drew := (Below.refl _ _).drew
  have t8 := HK8.out _ l8
  have T8 := Lib.hid t8; clear t8
  go_region_held3 (fun w' => w'.cell? ⟨w5.heap.size, 0, none⟩ = some (.int .i64 s0) ∧ w'.cell? ⟨w5.heap.size, 1, none⟩ = some (.slice ax0 ps0.length cx0) ∧ w'.cell? ⟨w5.heap.size, 2, none⟩ = some (.int .i64 r0) ∧ w'.cell? ⟨w.heap.size, 0, none⟩ = some (.int .i64 s0) ∧ w'.cell? ⟨w.heap.size, 1, none⟩ = some (.slice a0 len0 cap0) ∧ w'.cell? ⟨w.heap.size, 2, none⟩ = some (.int .i64 r0)) (first | exact T8.out | exact t9 | exact t10) (first | (go_at_call 47; (with_reducible refine (toEnvelope_any s0 _ r0 ps0 _ (ph0_7.below l8) q0).mono ?_); rintro e w9 ⟨v9, rfl, pe0_9, b9⟩; have l9 := Below.trans l8 (b9.mono (Below.size l8)); have t9 := HK8.out _ l9) | (go_at_call 17; (with_reducible refine (eqEnvelope_same s0 _ _ r0 ps0 _ (OwnP.pairs (px0_7.below l9) (by omega)) (OwnP.pairs pe0_9 (by omega))).mono ?_); rintro e w10 ⟨rfl, b10⟩; have l10 := Below.trans l9 (b10.mono (Below.size l9)); have t10 := HK8.out _ l10))
  clear T8 HK8 t9 t10 cX0 cX1 cX2 ca0 ca1 ca2
  have B10 := B7.trans (l10.mono B7.size)
  have xa_10 := xa_7.below l10; clear xa_7
  have xX_10 := xX_7.below l10; clear xX_7
  have ph0_10 := ph0_7.below l10; clear ph0_7
  have px0_10 := px0_7.below l10; clear px0_7
  clear b9 b10 l8 l9 l10
  clear B7
  go_wp2_with fail
  go_ret
  exact ⟨rfl, B10⟩


set_option maxHeartbeats 2000000 in
theorem law_FnExactEndOfEnvelope (s0 : Int) (a0 : Option Addr) (len0 cap0 : Nat) (r0 : Int) (ps0 : List (Int × Int)) (t0 : Int) (w : World) (hx0 : Pairs w (.slice a0 len0 cap0) ps0) (hr0 : InRP ps0) (_ : (Lit.int .i64 t0).wf = true) :
    Calls Try.prog 13 #[envV s0 (.slice a0 len0 cap0) r0, .int .i64 t0] w fun e w' => e = .returned (.bool true) ∧ Below w.heap.size w w' := by
  by_cases hs0 : szF ps0.length 1048576 < 0
  · have B0 : Below w.heap.size w w := Below.refl _ _
    have A1 : Below w.heap.size w (w.alloc (.cells #[.int .i64 s0, .slice a0 len0 cap0, .int .i64 r0] 70)) := (Below.refl _ _).alloc (Nat.le_refl _) _
    have B1 := B0.trans (A1.mono B0.size)
    have xa_1 : Box (w.alloc (.cells #[.int .i64 s0, .slice a0 len0 cap0, .int .i64 r0] 70)) (w.heap.size) [.int .i64 s0, .slice a0 len0 cap0, .int .i64 r0] := Box.newAt _ _ _ (by rfl)
    clear A1
    go_enter Try.func13, Try.ntmps13
    have ca0 := xa_1.at 0 rfl
    have ca1 := xa_1.at 1 rfl
    have ca2 := xa_1.at 2 rfl
    go_wp2_with fail
    clear ca0 ca1 ca2
    refine (szEnvelope_any s0 _ r0 ps0 1048576 _ (hx0.below B1) (by omega)).mono ?_; rintro e w2 ⟨rfl, b2⟩
    have B2 := B1.trans (b2.mono B1.size)
    have xa_2 := xa_1.below b2; clear xa_1
    clear b2 B1
    go_wp2_with fail
    go_ret
    exact ⟨rfl, B2⟩
  obtain ⟨q0, q1, q2, hq⟩ := szF_in hs0 (by omega)
  clear hq hs0
  have B0 : Below w.heap.size w w := Below.refl _ _
  have A1 : Below w.heap.size w (w.alloc (.cells #[.int .i64 s0, .slice a0 len0 cap0, .int .i64 r0] 70)) := (Below.refl _ _).alloc (Nat.le_refl _) _
  have B1 := B0.trans (A1.mono B0.size)
  have xa_1 : Box (w.alloc (.cells #[.int .i64 s0, .slice a0 len0 cap0, .int .i64 r0] 70)) (w.heap.size) [.int .i64 s0, .slice a0 len0 cap0, .int .i64 r0] := Box.newAt _ _ _ (by rfl)
  clear A1
  go_enter Try.func13, Try.ntmps13
  have ca0 := xa_1.at 0 rfl
  have ca1 := xa_1.at 1 rfl
  have ca2 := xa_1.at 2 rfl
  go_wp2_with fail
  clear ca0 ca1 ca2
  refine (szEnvelope_any s0 _ r0 ps0 1048576 _ (hx0.below B1) (by omega)).mono ?_; rintro e w2 ⟨rfl, b2⟩
  have B2 := B1.trans (b2.mono B1.size)
  have xa_2 := xa_1.below b2; clear xa_1
  clear b2 B1
  have ph0_0 := hx0.below B2
  have ca0 := xa_2.at 0 rfl
  have ca1 := xa_2.at 1 rfl
  have ca2 := xa_2.at 2 rfl
  go_wp2_with fail
  clear ca0 ca1 ca2
  refine (toEnvelope_any s0 _ r0 ps0 _ ph0_0 q0).mono ?_; rintro e w3 ⟨v3, rfl, px_3, b3⟩
  have B3 := B2.trans (b3.mono B2.size)
  have xa_3 := xa_2.below b3; clear xa_2
  have ph0_3 := ph0_0.below b3; clear ph0_0
  clear b3 B2
  go_wp2_with fail
  refine (specEnd_any s0 _ r0 ps0 t0 _ (OwnP.pairs px_3 (by omega))).mono ?_; rintro e w4 ⟨rfl, b4⟩
  have B4 := B3.trans (b4.mono B3.size)
  have xa_4 := xa_3.below b4; clear xa_3
  have ph0_4 := ph0_3.below b4; clear ph0_3
  have px_4 := px_3.below b4; clear px_3
  clear b4 B3
  clear px_4
  have ca0 := xa_4.at 0 rfl
  have ca1 := xa_4.at 1 rfl
  have ca2 := xa_4.at 2 rfl
  go_wp2_with fail
  clear ca0 ca1 ca2
  refine (toEnvelope_any s0 _ r0 ps0 _ ph0_4 q0).mono ?_; rintro e w5 ⟨v5, rfl, px0_5, b5⟩
  have B5 := B4.trans (b5.mono B4.size)
  have xa_5 := xa_4.below b5; clear xa_4
  have ph0_5 := ph0_4.below b5; clear ph0_4
  clear b5 B4
  obtain ⟨ax0, cx0, rfl, _, _⟩ := px0_5.shape1
  have A6 : Below w5.heap.size w5 (w5.alloc (.cells #[.int .i64 s0, .slice ax0 ps0.length cx0, .int .i64 r0] 24)) := (Below.refl _ _).alloc (Nat.le_refl _) _
  have B6 := B5.trans (A6.mono B5.size)
  have xa_6 := xa_5.below A6
  clear xa_5
  have ph0_6 := ph0_5.below A6
  clear ph0_5
  have px0_6 := px0_5.below A6
  clear px0_5
  have xX_6 : Box (w5.alloc (.cells #[.int .i64 s0, .slice ax0 ps0.length cx0, .int .i64 r0] 24)) (w5.heap.size) [.int .i64 s0, .slice ax0 ps0.length cx0, .int .i64 r0] := Box.newAt _ _ _ (by rfl)
  clear A6 B5
  have cX0 := xX_6.at 0 rfl
  have cX1 := xX_6.at 1 rfl
  have cX2 := xX_6.at 2 rfl
  go_wp2_with fail
  clear cX0 cX1 cX2
  refine (implEnd_any s0 _ r0 ps0 t0 _ (OwnP.pairs px0_6 (by omega))).mono ?_; rintro e w7 ⟨rfl, b7⟩
  have B7 := B6.trans (b7.mono B6.size)
  have xa_7 := xa_6.below b7; clear xa_6
  have xX_7 := xX_6.below b7; clear xX_6
  have ph0_7 := ph0_6.below b7; clear ph0_6
  have px0_7 := px0_6.below b7; clear px0_6
  clear b7 B6
  go_wp2
  have cX0 := xX_7.at 0 rfl
  have cX1 := xX_7.at 1 rfl
  have cX2 := xX_7.at 2 rfl
  have ca0 := xa_7.at 0 rfl
  have ca1 := xa_7.at 1 rfl
  have ca2 := xa_7.at 2 rfl
  have K8 : ∀ w', Below w7.heap.size w7 w' → (w'.cell? ⟨w5.heap.size, 0, none⟩ = some (.int .i64 s0) ∧ w'.cell? ⟨w5.heap.size, 1, none⟩ = some (.slice ax0 ps0.length cx0) ∧ w'.cell? ⟨w5.heap.size, 2, none⟩ = some (.int .i64 r0) ∧ w'.cell? ⟨w.heap.size, 0, none⟩ = some (.int .i64 s0) ∧ w'.cell? ⟨w.heap.size, 1, none⟩ = some (.slice a0 len0 cap0) ∧ w'.cell? ⟨w.heap.size, 2, none⟩ = some (.int .i64 r0)) := fun w' b' => ⟨(xX_7.below b').at 0 rfl, (xX_7.below b').at 1 rfl, (xX_7.below b').at 2 rfl, (xa_7.below b').at 0 rfl, (xa_7.below b').at 1 rfl, (xa_7.below b').at 2 rfl⟩
  have HK8 := Lib.hid K8; clear K8
  have l8 : Below w7.heap.size w7 w7.drew := (Below.refl _ _).drew
  have t8 := HK8.out _ l8
  have T8 := Lib.hid t8; clear t8
  go_region_held3 (fun w' => w'.cell? ⟨w5.heap.size, 0, none⟩ = some (.int .i64 s0) ∧ w'.cell? ⟨w5.heap.size, 1, none⟩ = some (.slice ax0 ps0.length cx0) ∧ w'.cell? ⟨w5.heap.size, 2, none⟩ = some (.int .i64 r0) ∧ w'.cell? ⟨w.heap.size, 0, none⟩ = some (.int .i64 s0) ∧ w'.cell? ⟨w.heap.size, 1, none⟩ = some (.slice a0 len0 cap0) ∧ w'.cell? ⟨w.heap.size, 2, none⟩ = some (.int .i64 r0)) (first | exact T8.out | exact t9 | exact t10) (first | (go_at_call 47; (with_reducible refine (toEnvelope_any s0 _ r0 ps0 _ (ph0_7.below l8) q0).mono ?_); rintro e w9 ⟨v9, rfl, pe0_9, b9⟩; have l9 := Below.trans l8 (b9.mono (Below.size l8)); have t9 := HK8.out _ l9) | (go_at_call 17; (with_reducible refine (eqEnvelope_same s0 _ _ r0 ps0 _ (OwnP.pairs (px0_7.below l9) (by omega)) (OwnP.pairs pe0_9 (by omega))).mono ?_); rintro e w10 ⟨rfl, b10⟩; have l10 := Below.trans l9 (b10.mono (Below.size l9)); have t10 := HK8.out _ l10))
  clear T8 HK8 t9 t10 cX0 cX1 cX2 ca0 ca1 ca2
  have B10 := B7.trans (l10.mono B7.size)
  have xa_10 := xa_7.below l10; clear xa_7
  have xX_10 := xX_7.below l10; clear xX_7
  have ph0_10 := ph0_7.below l10; clear ph0_7
  have px0_10 := px0_7.below l10; clear px0_7
  clear b9 b10 l8 l9 l10
  clear B7
  go_wp2_with fail
  go_ret
  exact ⟨rfl, B10⟩


end Go.Proofs.Ytfpbnhghceoleaa
