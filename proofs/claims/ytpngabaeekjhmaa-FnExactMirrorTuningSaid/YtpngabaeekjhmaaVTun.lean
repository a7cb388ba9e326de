/-
  ValidTuning of both sides, as the law's walk asks for it; the law FnExactValidTuning, walked.
-/
import Derived.Test.YtpngabaeekjhmaaBw
import Derived.Test.YtpngabaeekjhmaaBx
import Derived.Test.YtpngabaeekjhmaaEqT
namespace Go.Proofs.Ytpngabaeekjhmaa
open Go.RowKit
set_option linter.unusedSimpArgs false
set_option linter.unusedVariables false

theorem PureT.calls {P : Program} {f : FuncId} {k : Con} (h : PureT P f k) {x : dens k.ps} (hc : k.c x) {w : World} {vs : Array Value} (hv : VRt Rz.none w (avs k.ps x) vs.toList) :
    Calls P f vs w fun e w' => ∃ v R', e = .returned v ∧ VR R' w' (outAll inN [] k.rs (k.r x)) v ∧ obsOk R' w' (outOs inN [] 0 k.rs (k.r x)) ∧ Below w.heap.size w w' :=
  (h x hc Rz.none w vs hv).mono fun _ _ ⟨v, R', he, h1, h2, h3⟩ => ⟨v, R', he, h1, h2, h3.os, h3.tape, h3.output, h3.size, fun b hb => (h3.keep b hb (Nat.zero_le _)).1⟩
theorem vrt_tun {w : World} {base : Nat} {e : TypeId} {bn bd on od : Int} {v : Value} {ps : List (Int × Int)} {l : List AV} {us : List Value} (h : OwnP e w base v ps) (hl : VRt Rz.none w l us) :
    VRt Rz.none w (.agg [.sc (.int .i64 bn), .sc (.int .i64 bd), .sc (.int .i64 on), .sc (.int .i64 od), .rd [] 29 (.prod (.int .i64) (.int .i64)) ps] :: l) (tunV bn bd on od v :: us) := by
  simp only [VRt, VR]
  refine ⟨_, _, rfl, ⟨_, rfl, _, _, rfl, rfl, _, _, rfl, rfl, _, _, rfl, rfl, _, _, rfl, rfl, _, _, rfl, ?_, rfl⟩, hl⟩
  exact Rd.of_pairs (fun _ => rfl) h
theorem implVTun_any (bn bd on od : Int) (v : Value) (ps : List (Int × Int)) (base : Nat) (w : World) (h : OwnP 29 w base v ps) :
    Calls Try.prog 10 #[tunV bn bd on od v] w fun e w' => e = .returned (.bool (tunB bn bd (on, od) ps)) ∧ Below w.heap.size w w' := by
  refine (PureT.calls implVTun_ok (x := (((bn, bd), (on, od), ps), ())) h.len (vrt_tun h (by simp only [VRt]; rfl))).mono ?_
  rintro e w' ⟨v', R', rfl, h1, _, h3⟩
  have h1 : v' = .bool _ := h1
  exact ⟨by rw [h1]; rfl, h3⟩
theorem specVTun_any (bn bd on od : Int) (v : Value) (ps : List (Int × Int)) (base : Nat) (w : World) (h : OwnP 29 w base v ps) :
    Calls Try.prog 8 #[tunV bn bd on od v] w fun e w' => e = .returned (.bool (tunB bn bd (on, od) ps)) ∧ Below w.heap.size w w' := by
  refine (PureT.calls specVTun_ok (x := (((bn, bd), (on, od), ps), ())) h.len (vrt_tun h (by simp only [VRt]; rfl))).mono ?_
  rintro e w' ⟨v', R', rfl, h1, _, h3⟩
  have h1 : v' = .bool _ := h1
  exact ⟨by rw [h1]; rfl, h3⟩

set_option maxHeartbeats 2000000 in
theorem law_FnExactValidTuning (b0 d0 o0 e0 : Int) (a0 : Option Addr) (len0 cap0 : Nat) (ps0 : List (Int × Int)) (w : World) (hx0 : Pairs w (.slice a0 len0 cap0) ps0) (hr0 : InRP ps0) :
    Calls Try.prog 3 #[tunV b0 d0 o0 e0 (.slice a0 len0 cap0)] w fun e w' => e = .returned (.bool true) ∧ Below w.heap.size w w' := by
  by_cases hs0 : szF ps0.length 1048576 < 0
  · have B0 : Below w.heap.size w w := Below.refl _ _
    have A1 : Below w.heap.size w (w.alloc (.cells #[.int .i64 b0, .int .i64 d0, .int .i64 o0, .int .i64 e0, .slice a0 len0 cap0] 26)) := (Below.refl _ _).alloc (Nat.le_refl _) _
    have B1 := B0.trans (A1.mono B0.size)
    have xa_1 : Box (w.alloc (.cells #[.int .i64 b0, .int .i64 d0, .int .i64 o0, .int .i64 e0, .slice a0 len0 cap0] 26)) (w.heap.size) [.int .i64 b0, .int .i64 d0, .int .i64 o0, .int .i64 e0, .slice a0 len0 cap0] := Box.newAt _ _ _ (by rfl)
    clear A1
    go_enter Try.func3, Try.ntmps3
    have ca0 := xa_1.at 0 rfl
    have ca1 := xa_1.at 1 rfl
    have ca2 := xa_1.at 2 rfl
    have ca3 := xa_1.at 3 rfl
    have ca4 := xa_1.at 4 rfl
    go_wp2_with fail
    clear ca0 ca1 ca2 ca3 ca4
    refine (szTuning_any b0 d0 o0 e0 _ ps0 1048576 _ (hx0.below B1) (by omega)).mono ?_; rintro e w2 ⟨rfl, b2⟩
    have B2 := B1.trans (b2.mono B1.size)
    have xa_2 := xa_1.below b2; clear xa_1
    clear b2 B1
    go_wp2_with fail
    go_ret
    exact ⟨rfl, B2⟩
  obtain ⟨q0, q1, q2, hq⟩ := szF_in hs0 (by omega)
  clear hq hs0
  have B0 : Below w.heap.size w w := Below.refl _ _
  have A1 : Below w.heap.size w (w.alloc (.cells #[.int .i64 b0, .int .i64 d0, .int .i64 o0, .int .i64 e0, .slice a0 len0 cap0] 26)) := (Below.refl _ _).alloc (Nat.le_refl _) _
  have B1 := B0.trans (A1.mono B0.size)
  have xa_1 : Box (w.alloc (.cells #[.int .i64 b0, .int .i64 d0, .int .i64 o0, .int .i64 e0, .slice a0 len0 cap0] 26)) (w.heap.size) [.int .i64 b0, .int .i64 d0, .int .i64 o0, .int .i64 e0, .slice a0 len0 cap0] := Box.newAt _ _ _ (by rfl)
  clear A1
  go_enter Try.func3, Try.ntmps3
  have ca0 := xa_1.at 0 rfl
  have ca1 := xa_1.at 1 rfl
  have ca2 := xa_1.at 2 rfl
  have ca3 := xa_1.at 3 rfl
  have ca4 := xa_1.at 4 rfl
  go_wp2_with fail
  clear ca0 ca1 ca2 ca3 ca4
  refine (szTuning_any b0 d0 o0 e0 _ ps0 1048576 _ (hx0.below B1) (by omega)).mono ?_; rintro e w2 ⟨rfl, b2⟩
  have B2 := B1.trans (b2.mono B1.size)
  have xa_2 := xa_1.below b2; clear xa_1
  clear b2 B1
  have ph0_0 := hx0.below B2
  have ca0 := xa_2.at 0 rfl
  have ca1 := xa_2.at 1 rfl
  have ca2 := xa_2.at 2 rfl
  have ca3 := xa_2.at 3 rfl
  have ca4 := xa_2.at 4 rfl
  go_wp2_with fail
  clear ca0 ca1 ca2 ca3 ca4
  refine (toTuning_any b0 d0 o0 e0 _ ps0 _ ph0_0 q0).mono ?_; rintro e w3 ⟨v3, rfl, px_3, b3⟩
  have B3 := B2.trans (b3.mono B2.size)
  have xa_3 := xa_2.below b3; clear xa_2
  have ph0_3 := ph0_0.below b3; clear ph0_0
  clear b3 B2
  go_wp2_with fail
  refine (specVTun_any b0 d0 o0 e0 _ ps0 _ _ px_3).mono ?_; rintro e w4 ⟨rfl, b4⟩
  have B4 := B3.trans (b4.mono B3.size)
  have xa_4 := xa_3.below b4; clear xa_3
  have ph0_4 := ph0_3.below b4; clear ph0_3
  have px_4 := px_3.below b4; clear px_3
  clear b4 B3
  clear px_4
  have ca0 := xa_4.at 0 rfl
  have ca1 := xa_4.at 1 rfl
  have ca2 := xa_4.at 2 rfl
  have ca3 := xa_4.at 3 rfl
  have ca4 := xa_4.at 4 rfl
  go_wp2_with fail
  clear ca0 ca1 ca2 ca3 ca4
  refine (toTuning_any b0 d0 o0 e0 _ ps0 _ ph0_4 q0).mono ?_; rintro e w5 ⟨v5, rfl, px0_5, b5⟩
  have B5 := B4.trans (b5.mono B4.size)
  have xa_5 := xa_4.below b5; clear xa_4
  have ph0_5 := ph0_4.below b5; clear ph0_4
  clear b5 B4
  obtain ⟨ax0, cx0, rfl, _, _⟩ := px0_5.shape1
  have A6 : Below w5.heap.size w5 (w5.alloc (.cells #[.int .i64 b0, .int .i64 d0, .int .i64 o0, .int .i64 e0, .slice ax0 ps0.length cx0] 32)) := (Below.refl _ _).alloc (Nat.le_refl _) _
  have B6 := B5.trans (A6.mono B5.size)
  have xa_6 := xa_5.below A6
  clear xa_5
  have ph0_6 := ph0_5.below A6
  clear ph0_5
  have px0_6 := px0_5.below A6
  clear px0_5
  have xX_6 : Box (w5.alloc (.cells #[.int .i64 b0, .int .i64 d0, .int .i64 o0, .int .i64 e0, .slice ax0 ps0.length cx0] 32)) (w5.heap.size) [.int .i64 b0, .int .i64 d0, .int .i64 o0, .int .i64 e0, .slice ax0 ps0.length cx0] := Box.newAt _ _ _ (by rfl)
  clear A6 B5
  have cX0 := xX_6.at 0 rfl
  have cX1 := xX_6.at 1 rfl
  have cX2 := xX_6.at 2 rfl
  have cX3 := xX_6.at 3 rfl
  have cX4 := xX_6.at 4 rfl
  go_wp2_with fail
  clear cX0 cX1 cX2 cX3 cX4
  refine (implVTun_any b0 d0 o0 e0 _ ps0 _ _ px0_6).mono ?_; rintro e w7 ⟨rfl, b7⟩
  have B7 := B6.trans (b7.mono B6.size)
  have xa_7 := xa_6.below b7; clear xa_6
  have xX_7 := xX_6.below b7; clear xX_6
  have ph0_7 := ph0_6.below b7; clear ph0_6
  have px0_7 := px0_6.below b7; clear px0_6
  clear b7 B6
  go_wp2
  have cX0 := xX_7.at 0 rfl
  have cX1 := xX_7.at 1 rfl
  have cX2 := xX_7.at 2 rfl
  have cX3 := xX_7.at 3 rfl
  have cX4 := xX_7.at 4 rfl
  have ca0 := xa_7.at 0 rfl
  have ca1 := xa_7.at 1 rfl
  have ca2 := xa_7.at 2 rfl
  have ca3 := xa_7.at 3 rfl
  have ca4 := xa_7.at 4 rfl
  have K8 : ∀ w', Below w7.heap.size w7 w' → (w'.cell? ⟨w5.heap.size, 0, none⟩ = some (.int .i64 b0) ∧ w'.cell? ⟨w5.heap.size, 1, none⟩ = some (.int .i64 d0) ∧ w'.cell? ⟨w5.heap.size, 2, none⟩ = some (.int .i64 o0) ∧ w'.cell? ⟨w5.heap.size, 3, none⟩ = some (.int .i64 e0) ∧ w'.cell? ⟨w5.heap.size, 4, none⟩ = some (.slice ax0 ps0.length cx0) ∧ w'.cell? ⟨w.heap.size, 0, none⟩ = some (.int .i64 b0) ∧ w'.cell? ⟨w.heap.size, 1, none⟩ = some (.int .i64 d0) ∧ w'.cell? ⟨w.heap.size, 2, none⟩ = some (.int .i64 o0) ∧ w'.cell? ⟨w.heap.size, 3, none⟩ = some (.int .i64 e0) ∧ w'.cell? ⟨w.heap.size, 4, none⟩ = some (.slice a0 len0 cap0)) := fun w' b' => ⟨(xX_7.below b').at 0 rfl, (xX_7.below b').at 1 rfl, (xX_7.below b').at 2 rfl, (xX_7.below b').at 3 rfl, (xX_7.below b').at 4 rfl, (xa_7.below b').at 0 rfl, (xa_7.below b').at 1 rfl, (xa_7.below b').at 2 rfl, (xa_7.below b').at 3 rfl, (xa_7.below b').at 4 rfl⟩
  have HK8 := Lib.hid K8; clear K8
  have l8 : Below w7.heap.size w7 w7.drew := (Below.refl _ _).drew
  have t8 := HK8.out _ l8
  have T8 := Lib.hid t8; clear t8
  go_region_held3 (fun w' => w'.cell? ⟨w5.heap.size, 0, none⟩ = some (.int .i64 b0) ∧ w'.cell? ⟨w5.heap.size, 1, none⟩ = some (.int .i64 d0) ∧ w'.cell? ⟨w5.heap.size, 2, none⟩ = some (.int .i64 o0) ∧ w'.cell? ⟨w5.heap.size, 3, none⟩ = some (.int .i64 e0) ∧ w'.cell? ⟨w5.heap.size, 4, none⟩ = some (.slice ax0 ps0.length cx0) ∧ w'.cell? ⟨w.heap.size, 0, none⟩ = some (.int .i64 b0) ∧ w'.cell? ⟨w.heap.size, 1, none⟩ = some (.int .i64 d0) ∧ w'.cell? ⟨w.heap.size, 2, none⟩ = some (.int .i64 o0) ∧ w'.cell? ⟨w.heap.size, 3, none⟩ = some (.int .i64 e0) ∧ w'.cell? ⟨w.heap.size, 4, none⟩ = some (.slice a0 len0 cap0)) (first | exact T8.out | exact t9 | exact t10) (first | (go_at_call 9; (with_reducible refine (toTuning_any b0 d0 o0 e0 _ ps0 _ (ph0_7.below l8) q0).mono ?_); rintro e w9 ⟨v9, rfl, pe0_9, b9⟩; have l9 := Below.trans l8 (b9.mono (Below.size l8)); have t9 := HK8.out _ l9) | (go_at_call 11; (with_reducible refine (eqTuning_same b0 d0 o0 e0 _ _ ps0 _ (OwnP.pairs (px0_7.below l9) (by omega)) (OwnP.pairs pe0_9 (by omega))).mono ?_); rintro e w10 ⟨rfl, b10⟩; have l10 := Below.trans l9 (b10.mono (Below.size l9)); have t10 := HK8.out _ l10))
  clear T8 HK8 t9 t10 cX0 cX1 cX2 cX3 cX4 ca0 ca1 ca2 ca3 ca4
  have B10 := B7.trans (l10.mono B7.size)
  have xa_10 := xa_7.below l10; clear xa_7
  have xX_10 := xX_7.below l10; clear xX_7
  have ph0_10 := ph0_7.below l10; clear ph0_7
  have px0_10 := px0_7.below l10; clear px0_7
  clear b9 b10 l8 l9 l10
  clear B7
  go_wp2_with fail
  go_ret
  exact ⟨rfl, B10⟩


end Go.Proofs.Ytpngabaeekjhmaa
