/-
  HeldLevel, LevelAt, EndOfEnvelope of both sides.
-/
import Derived.Test.YtfpbnhghceoleaaLevel
namespace Go.Proofs.Ytfpbnhghceoleaa
open Go.RowKit

theorem isTime_any (n : Int) (w : World) : Calls Try.prog 110 #[.int .i64 n] w fun e w' => e = .returned (.bool (inB n 0 1000000000)) ∧ w = w' := by
  go_enter Try.func110, Try.ntmps110
  go_wp2_with (go_at_call 79; refine (within_any _ _ _ _).mono ?_; rintro e w' ⟨rfl, rfl⟩)
  go_ret
  exact ⟨rfl, rfl⟩

/-- The end of an envelope. -/
def endF (s : Int) (ps : List (Int × Int)) (r g : Int) : Nat → Int
  | 0 => 0
  | n + 1 => if levelF s ps r g n = 0 then endF s ps r g n else (n : Int) + 1

def heldR (s : Int) (ps : List (Int × Int)) (r a : Int) : Int × Int := if envB s ps r = true then (if inB a 0 1000000000 = true then (heldF s ps a, 0) else (0, 2)) else (0, 1)
def levelR (s : Int) (ps : List (Int × Int)) (r g a : Int) : Int × Int := if envB s ps r = true then (if inB g 0 1000000000 = true ∧ inB a 0 1000000000 = true then (levelF s ps r g a, 0) else (0, 2)) else (0, 1)
def endR (s : Int) (ps : List (Int × Int)) (r g : Int) : Int × Int := if envB s ps r = true then (if inB g 0 4000 = true then (endF s ps r g (g + r).toNat, 0) else (0, 2)) else (0, 1)


set_option maxHeartbeats 1000000 in
theorem endOf_any (s : Int) (v : Value) (r : Int) (ps : List (Int × Int)) (g : Int) (w : World) (h : Pairs w v ps) (hv : envB s ps r = true) (hg : 0 ≤ g ∧ g ≤ 4000) :
    Calls Try.prog 119 #[envV s v r, .int .i64 g] w fun e w' => e = .returned (.int .i64 (endF s ps r g (g + r).toNat)) ∧ Below w.heap.size w w' := by
  have b0 : Below w.heap.size w (w.alloc (.cells #[.int .i64 s, v, .int .i64 r] 24)) := (Below.refl _ _).alloc (Nat.le_refl _) _
  have h0 := h.below b0
  have x0 := Box.newAt w [.int .i64 s, v, .int .i64 r] 24 rfl
  obtain ⟨_, _, hr, _⟩ := envB_out hv
  obtain ⟨N, hN⟩ : ∃ N : Nat, g + r = N := ⟨(g + r).toNat, by omega⟩
  have hN2 : (g + r).toNat = N := by omega
  rw [hN2]
  obtain ⟨E, hE⟩ : ∃ E, E = endF s ps r g N := ⟨_, rfl⟩
  rw [← hE]
  have HE := Lib.hid hE; have HV := Lib.hid hv
  have i0 := x0.at 0 rfl; have i1 := x0.at 1 rfl; have i2 := x0.at 2 rfl
  have X0 := Lib.hid x0; have H0 := Lib.hid h0; have B0 := Lib.hid b0
  clear hE hv x0 h0 h b0 hN2
  go_enter Try.func119, Try.ntmps119
  go_wp2
  clear i0 i1 i2
  try rw [hN]
  have hn1 : (N : Int) ≤ 8000 := by omega
  clear hN
  obtain ⟨W, hW⟩ : ∃ W, W = w.alloc (.cells #[.int .i64 s, v, .int .i64 r] 24) := ⟨_, rfl⟩
  rw [← hW] at X0 H0 B0
  rw [← hW]
  clear hW
  go_loopw [5] (fun i wr => ∃ k : Nat, k ≤ 8000 ∧ i = .int .i64 k ∧ Hid (E = endF s ps r g k) ∧ Below W.heap.size W wr) (fun i _ => (intOf i).toNat)
  case atStart => exact ⟨N, by omega, rfl, HE.out, Below.refl _ _⟩
  case round =>
    obtain ⟨k, hk, rfl, he, hbel⟩ := hrel
    cases k with
    | zero =>
      go_wp2
      go_ret
      exact ⟨ret_int he.out.symm, B0.out.trans (hbel.mono B0.out.size)⟩
    | succ k =>
      have xk := X0.out.below hbel
      have i0 := xk.at 0 rfl; have i1 := xk.at 1 rfl; have i2 := xk.at 2 rfl
      have XK := Lib.hid xk; clear xk
      have pos : (0 : Int) < ((k + 1 : Nat) : Int) := by omega
      have ek : ((k + 1 : Nat) : Int) - 1 = (k : Int) := by omega
      by_cases m : levelF s ps r g k = 0
      · have HT : Hid (E = endF s ps r g k) := by unfold Hid; rw [he.out, endF, if_pos m]
        go_wp2_with fail
        refine (levelAt_any s v r ps g k _ (H0.out.below hbel) HV.out (by omega) (by omega)).mono ?_; rintro e w2 ⟨rfl, b2⟩
        have hb2 := hbel.trans (b2.mono hbel.size)
        clear i0 i1 i2 b2
        go_wp2
        go_roundw
        case rel => exact ⟨k, by omega, by go_num, HT.out, hb2⟩
        case measure => (simp [intOf] <;> omega)
      · have HT : Hid (E = (k : Int) + 1) := by unfold Hid; rw [he.out, endF, if_neg m]
        go_wp2_with fail
        refine (levelAt_any s v r ps g k _ (H0.out.below hbel) HV.out (by omega) (by omega)).mono ?_; rintro e w2 ⟨rfl, b2⟩
        have hb2 := hbel.trans (b2.mono hbel.size)
        clear i0 i1 i2 b2
        go_wp2
        go_ret
        exact ⟨ret_int (by rw [HT.out] <;> omega), B0.out.trans (hb2.mono B0.out.size)⟩


set_option maxHeartbeats 1000000 in
theorem implHeld_any (s : Int) (v : Value) (r : Int) (ps : List (Int × Int)) (a : Int) (w : World) (h : Pairs w v ps) :
    Calls Try.prog 48 #[envV s v r, .int .i64 a] w fun e w' => e = .returned (.tuple #[.int .i64 (heldR s ps r a).1, .int .i64 (heldR s ps r a).2]) ∧ Below w.heap.size w w' := by
  have b0 : Below w.heap.size w (w.alloc (.cells #[.int .i64 s, v, .int .i64 r] 24)) := (Below.refl _ _).alloc (Nat.le_refl _) _
  have h0 := h.below b0
  have x0 := Box.newAt w [.int .i64 s, v, .int .i64 r] 24 rfl
  have X0 := Lib.hid x0; have B0 := Lib.hid b0; have H0 := Lib.hid h0
  have i0 := x0.at 0 rfl; have i1 := x0.at 1 rfl; have i2 := x0.at 2 rfl
  clear b0 h h0 x0
  cases k0 : envB s ps r
  · have hR : Hid (heldR s ps r a = (0, 1)) := by unfold Hid; simp [heldR, k0]
    go_enter Try.func48, Try.ntmps48
    go_wp2_with fail
    refine (isEnvelope_any s v r ps _ H0.out).mono ?_; rintro e w1 ⟨rfl, b1⟩
    have B1 := Lib.hid (B0.out.trans (b1.mono B0.out.size)); have X1 := Lib.hid (X0.out.below b1); have H1 := Lib.hid (H0.out.below b1); clear i0 i1 i2 b1; have i0 := X1.out.at 0 rfl; have i1 := X1.out.at 1 rfl; have i2 := X1.out.at 2 rfl
    go_wp2
    go_ret2
    exact ⟨ret_int2 (by rw [hR.out]) (by rw [hR.out]), B1.out⟩
  cases k1 : inB a 0 1000000000
  · have hR : Hid (heldR s ps r a = (0, 2)) := by unfold Hid; simp [heldR, k0, k1]
    go_enter Try.func48, Try.ntmps48
    go_wp2_with fail
    refine (isEnvelope_any s v r ps _ H0.out).mono ?_; rintro e w1 ⟨rfl, b1⟩
    have B1 := Lib.hid (B0.out.trans (b1.mono B0.out.size)); have X1 := Lib.hid (X0.out.below b1); have H1 := Lib.hid (H0.out.below b1); clear i0 i1 i2 b1; have i0 := X1.out.at 0 rfl; have i1 := X1.out.at 1 rfl; have i2 := X1.out.at 2 rfl
    go_wp2_with (go_at_call 110; refine (isTime_any _ _).mono ?_; rintro e w' ⟨rfl, rfl⟩)
    go_ret2
    exact ⟨ret_int2 (by rw [hR.out]) (by rw [hR.out]), B1.out⟩
  have hR : Hid (heldR s ps r a = (heldF s ps a, 0)) := by unfold Hid; simp [heldR, k0, k1]
  have q1 := inB_true.1 k1
  have KV := Lib.hid k0
  go_enter Try.func48, Try.ntmps48
  go_wp2_with fail
  refine (isEnvelope_any s v r ps _ H0.out).mono ?_; rintro e w1 ⟨rfl, b1⟩
  have B1 := Lib.hid (B0.out.trans (b1.mono B0.out.size)); have X1 := Lib.hid (X0.out.below b1); have H1 := Lib.hid (H0.out.below b1); clear i0 i1 i2 b1; have i0 := X1.out.at 0 rfl; have i1 := X1.out.at 1 rfl; have i2 := X1.out.at 2 rfl
  go_wp2_with (go_at_call 110; refine (isTime_any _ _).mono ?_; rintro e w' ⟨rfl, rfl⟩)
  refine (held_any s v r ps a _ H1.out KV.out q1).mono ?_; rintro e w2 ⟨rfl, b2⟩
  have B2 := Lib.hid (B1.out.trans (b2.mono B1.out.size))
  clear b2
  go_wp2
  go_ret2
  exact ⟨ret_int2 (by rw [hR.out]) (by rw [hR.out]), B2.out⟩

set_option maxHeartbeats 1000000 in
theorem specHeld_any (s : Int) (v : Value) (r : Int) (ps : List (Int × Int)) (a : Int) (w : World) (h : Pairs w v ps) :
    Calls Try.prog 46 #[envV s v r, .int .i64 a] w fun e w' => e = .returned (.tuple #[.int .i64 (heldR s ps r a).1, .int .i64 (heldR s ps r a).2]) ∧ Below w.heap.size w w' := by
  have b0 : Below w.heap.size w (w.alloc (.cells #[.int .i64 s, v, .int .i64 r] 24)) := (Below.refl _ _).alloc (Nat.le_refl _) _
  have h0 := h.below b0
  have x0 := Box.newAt w [.int .i64 s, v, .int .i64 r] 24 rfl
  have X0 := Lib.hid x0; have B0 := Lib.hid b0; have H0 := Lib.hid h0
  have i0 := x0.at 0 rfl; have i1 := x0.at 1 rfl; have i2 := x0.at 2 rfl
  clear b0 h h0 x0
  cases k0 : envB s ps r
  · have hR : Hid (heldR s ps r a = (0, 1)) := by unfold Hid; simp [heldR, k0]
    go_enter Try.func46, Try.ntmps46
    go_wp2_with fail
    refine (l14Ok_any s v r ps w.heap.size _ H0.out i0 i1 i2).mono ?_; rintro e w1 ⟨rfl, rfl⟩
    have B1 := B0; have X1 := X0; have H1 := H0
    go_wp2
    go_ret2
    exact ⟨ret_int2 (by rw [hR.out]) (by rw [hR.out]), B1.out⟩
  cases k1 : inB a 0 1000000000
  · have hR : Hid (heldR s ps r a = (0, 2)) := by unfold Hid; simp [heldR, k0, k1]
    go_enter Try.func46, Try.ntmps46
    go_wp2_with fail
    refine (l14Ok_any s v r ps w.heap.size _ H0.out i0 i1 i2).mono ?_; rintro e w1 ⟨rfl, rfl⟩
    have B1 := B0; have X1 := X0; have H1 := H0
    go_wp2_with (go_at_call 68; refine (l00In_any _ _ _ _).mono ?_; rintro e w' ⟨rfl, rfl⟩)
    go_ret2
    exact ⟨ret_int2 (by rw [hR.out]) (by rw [hR.out]), B1.out⟩
  have hR : Hid (heldR s ps r a = (heldF s ps a, 0)) := by unfold Hid; simp [heldR, k0, k1]
  have q1 := inB_true.1 k1
  have KV := Lib.hid k0
  go_enter Try.func46, Try.ntmps46
  go_wp2_with fail
  refine (l14Ok_any s v r ps w.heap.size _ H0.out i0 i1 i2).mono ?_; rintro e w1 ⟨rfl, rfl⟩
  have B1 := B0; have X1 := X0; have H1 := H0
  go_wp2_with (go_at_call 68; refine (l00In_any _ _ _ _).mono ?_; rintro e w' ⟨rfl, rfl⟩)
  refine (l14Held_any s v r ps w.heap.size a _ H1.out (X1.out.at 0 rfl) (X1.out.at 1 rfl) KV.out q1).mono ?_; rintro e w2 ⟨rfl, b2⟩
  have B2 := Lib.hid (B1.out.trans (b2.mono B1.out.size))
  clear b2
  go_wp2
  go_ret2
  exact ⟨ret_int2 (by rw [hR.out]) (by rw [hR.out]), B2.out⟩

set_option maxHeartbeats 1000000 in
theorem implLevel_any (s : Int) (v : Value) (r : Int) (ps : List (Int × Int)) (g a : Int) (w : World) (h : Pairs w v ps) :
    Calls Try.prog 53 #[envV s v r, .int .i64 g, .int .i64 a] w fun e w' => e = .returned (.tuple #[.int .i64 (levelR s ps r g a).1, .int .i64 (levelR s ps r g a).2]) ∧ Below w.heap.size w w' := by
  have b0 : Below w.heap.size w (w.alloc (.cells #[.int .i64 s, v, .int .i64 r] 24)) := (Below.refl _ _).alloc (Nat.le_refl _) _
  have h0 := h.below b0
  have x0 := Box.newAt w [.int .i64 s, v, .int .i64 r] 24 rfl
  have X0 := Lib.hid x0; have B0 := Lib.hid b0; have H0 := Lib.hid h0
  have i0 := x0.at 0 rfl; have i1 := x0.at 1 rfl; have i2 := x0.at 2 rfl
  clear b0 h h0 x0
  cases k0 : envB s ps r
  · have hR : Hid (levelR s ps r g a = (0, 1)) := by unfold Hid; simp [levelR, k0]
    go_enter Try.func53, Try.ntmps53
    go_wp2_with fail
    refine (isEnvelope_any s v r ps _ H0.out).mono ?_; rintro e w1 ⟨rfl, b1⟩
    have B1 := Lib.hid (B0.out.trans (b1.mono B0.out.size)); have X1 := Lib.hid (X0.out.below b1); have H1 := Lib.hid (H0.out.below b1); clear i0 i1 i2 b1; have i0 := X1.out.at 0 rfl; have i1 := X1.out.at 1 rfl; have i2 := X1.out.at 2 rfl
    go_wp2
    go_ret2
    exact ⟨ret_int2 (by rw [hR.out]) (by rw [hR.out]), B1.out⟩
  cases k1 : inB g 0 1000000000
  · have hR : Hid (levelR s ps r g a = (0, 2)) := by unfold Hid; simp [levelR, k0, k1]
    go_enter Try.func53, Try.ntmps53
    go_wp2_with fail
    refine (isEnvelope_any s v r ps _ H0.out).mono ?_; rintro e w1 ⟨rfl, b1⟩
    have B1 := Lib.hid (B0.out.trans (b1.mono B0.out.size)); have X1 := Lib.hid (X0.out.below b1); have H1 := Lib.hid (H0.out.below b1); clear i0 i1 i2 b1; have i0 := X1.out.at 0 rfl; have i1 := X1.out.at 1 rfl; have i2 := X1.out.at 2 rfl
    go_wp2_with (go_at_call 110; refine (isTime_any _ _).mono ?_; rintro e w' ⟨rfl, rfl⟩)
    go_ret2
    exact ⟨ret_int2 (by rw [hR.out]) (by rw [hR.out]), B1.out⟩
  cases k2 : inB a 0 1000000000
  · have hR : Hid (levelR s ps r g a = (0, 2)) := by unfold Hid; simp [levelR, k0, k1, k2]
    go_enter Try.func53, Try.ntmps53
    go_wp2_with fail
    refine (isEnvelope_any s v r ps _ H0.out).mono ?_; rintro e w1 ⟨rfl, b1⟩
    have B1 := Lib.hid (B0.out.trans (b1.mono B0.out.size)); have X1 := Lib.hid (X0.out.below b1); have H1 := Lib.hid (H0.out.below b1); clear i0 i1 i2 b1; have i0 := X1.out.at 0 rfl; have i1 := X1.out.at 1 rfl; have i2 := X1.out.at 2 rfl
    go_wp2_with (go_at_call 110; refine (isTime_any _ _).mono ?_; rintro e w' ⟨rfl, rfl⟩)
    go_ret2
    exact ⟨ret_int2 (by rw [hR.out]) (by rw [hR.out]), B1.out⟩
  have hR : Hid (levelR s ps r g a = (levelF s ps r g a, 0)) := by unfold Hid; simp [levelR, k0, k1, k2]
  have q1 := inB_true.1 k1
  have q2 := inB_true.1 k2
  have KV := Lib.hid k0
  go_enter Try.func53, Try.ntmps53
  go_wp2_with fail
  refine (isEnvelope_any s v r ps _ H0.out).mono ?_; rintro e w1 ⟨rfl, b1⟩
  have B1 := Lib.hid (B0.out.trans (b1.mono B0.out.size)); have X1 := Lib.hid (X0.out.below b1); have H1 := Lib.hid (H0.out.below b1); clear i0 i1 i2 b1; have i0 := X1.out.at 0 rfl; have i1 := X1.out.at 1 rfl; have i2 := X1.out.at 2 rfl
  go_wp2_with (go_at_call 110; refine (isTime_any _ _).mono ?_; rintro e w' ⟨rfl, rfl⟩)
  refine (levelAt_any s v r ps g a _ H1.out KV.out q1 q2).mono ?_; rintro e w2 ⟨rfl, b2⟩
  have B2 := Lib.hid (B1.out.trans (b2.mono B1.out.size))
  clear b2
  go_wp2
  go_ret2
  exact ⟨ret_int2 (by rw [hR.out]) (by rw [hR.out]), B2.out⟩

set_option maxHeartbeats 1000000 in
theorem specLevel_any (s : Int) (v : Value) (r : Int) (ps : List (Int × Int)) (g a : Int) (w : World) (h : Pairs w v ps) :
    Calls Try.prog 52 #[envV s v r, .int .i64 g, .int .i64 a] w fun e w' => e = .returned (.tuple #[.int .i64 (levelR s ps r g a).1, .int .i64 (levelR s ps r g a).2]) ∧ Below w.heap.size w w' := by
  have b0 : Below w.heap.size w (w.alloc (.cells #[.int .i64 s, v, .int .i64 r] 24)) := (Below.refl _ _).alloc (Nat.le_refl _) _
  have h0 := h.below b0
  have x0 := Box.newAt w [.int .i64 s, v, .int .i64 r] 24 rfl
  have X0 := Lib.hid x0; have B0 := Lib.hid b0; have H0 := Lib.hid h0
  have i0 := x0.at 0 rfl; have i1 := x0.at 1 rfl; have i2 := x0.at 2 rfl
  clear b0 h h0 x0
  cases k0 : envB s ps r
  · have hR : Hid (levelR s ps r g a = (0, 1)) := by unfold Hid; simp [levelR, k0]
    go_enter Try.func52, Try.ntmps52
    go_wp2_with fail
    refine (l14Ok_any s v r ps w.heap.size _ H0.out i0 i1 i2).mono ?_; rintro e w1 ⟨rfl, rfl⟩
    have B1 := B0; have X1 := X0; have H1 := H0
    go_wp2
    go_ret2
    exact ⟨ret_int2 (by rw [hR.out]) (by rw [hR.out]), B1.out⟩
  cases k1 : inB g 0 1000000000
  · have hR : Hid (levelR s ps r g a = (0, 2)) := by unfold Hid; simp [levelR, k0, k1]
    go_enter Try.func52, Try.ntmps52
    go_wp2_with fail
    refine (l14Ok_any s v r ps w.heap.size _ H0.out i0 i1 i2).mono ?_; rintro e w1 ⟨rfl, rfl⟩
    have B1 := B0; have X1 := X0; have H1 := H0
    go_wp2_with (go_at_call 68; refine (l00In_any _ _ _ _).mono ?_; rintro e w' ⟨rfl, rfl⟩)
    go_ret2
    exact ⟨ret_int2 (by rw [hR.out]) (by rw [hR.out]), B1.out⟩
  cases k2 : inB a 0 1000000000
  · have hR : Hid (levelR s ps r g a = (0, 2)) := by unfold Hid; simp [levelR, k0, k1, k2]
    go_enter Try.func52, Try.ntmps52
    go_wp2_with fail
    refine (l14Ok_any s v r ps w.heap.size _ H0.out i0 i1 i2).mono ?_; rintro e w1 ⟨rfl, rfl⟩
    have B1 := B0; have X1 := X0; have H1 := H0
    go_wp2_with (go_at_call 68; refine (l00In_any _ _ _ _).mono ?_; rintro e w' ⟨rfl, rfl⟩)
    go_ret2
    exact ⟨ret_int2 (by rw [hR.out]) (by rw [hR.out]), B1.out⟩
  have hR : Hid (levelR s ps r g a = (levelF s ps r g a, 0)) := by unfold Hid; simp [levelR, k0, k1, k2]
  have q1 := inB_true.1 k1
  have q2 := inB_true.1 k2
  have KV := Lib.hid k0
  go_enter Try.func52, Try.ntmps52
  go_wp2_with fail
  refine (l14Ok_any s v r ps w.heap.size _ H0.out i0 i1 i2).mono ?_; rintro e w1 ⟨rfl, rfl⟩
  have B1 := B0; have X1 := X0; have H1 := H0
  go_wp2_with (go_at_call 68; refine (l00In_any _ _ _ _).mono ?_; rintro e w' ⟨rfl, rfl⟩)
  refine (l14At_any s v r ps w.heap.size g a _ H1.out X1.out KV.out q1 q2).mono ?_; rintro e w2 ⟨rfl, b2⟩
  have B2 := Lib.hid (B1.out.trans (b2.mono B1.out.size))
  clear b2
  go_wp2
  go_ret2
  exact ⟨ret_int2 (by rw [hR.out]) (by rw [hR.out]), B2.out⟩

set_option maxHeartbeats 1000000 in
theorem implEnd_any (s : Int) (v : Value) (r : Int) (ps : List (Int × Int)) (g : Int) (w : World) (h : Pairs w v ps) :
    Calls Try.prog 55 #[envV s v r, .int .i64 g] w fun e w' => e = .returned (.tuple #[.int .i64 (endR s ps r g).1, .int .i64 (endR s ps r g).2]) ∧ Below w.heap.size w w' := by
  have b0 : Below w.heap.size w (w.alloc (.cells #[.int .i64 s, v, .int .i64 r] 24)) := (Below.refl _ _).alloc (Nat.le_refl _) _
  have h0 := h.below b0
  have x0 := Box.newAt w [.int .i64 s, v, .int .i64 r] 24 rfl
  have X0 := Lib.hid x0; have B0 := Lib.hid b0; have H0 := Lib.hid h0
  have i0 := x0.at 0 rfl; have i1 := x0.at 1 rfl; have i2 := x0.at 2 rfl
  clear b0 h h0 x0
  cases k0 : envB s ps r
  · have hR : Hid (endR s ps r g = (0, 1)) := by unfold Hid; simp [endR, k0]
    go_enter Try.func55, Try.ntmps55
    go_wp2_with fail
    refine (isEnvelope_any s v r ps _ H0.out).mono ?_; rintro e w1 ⟨rfl, b1⟩
    have B1 := Lib.hid (B0.out.trans (b1.mono B0.out.size)); have X1 := Lib.hid (X0.out.below b1); have H1 := Lib.hid (H0.out.below b1); clear i0 i1 i2 b1; have i0 := X1.out.at 0 rfl; have i1 := X1.out.at 1 rfl; have i2 := X1.out.at 2 rfl
    go_wp2
    go_ret2
    exact ⟨ret_int2 (by rw [hR.out]) (by rw [hR.out]), B1.out⟩
  cases k1 : inB g 0 4000
  · have hR : Hid (endR s ps r g = (0, 2)) := by unfold Hid; simp [endR, k0, k1]
    go_enter Try.func55, Try.ntmps55
    go_wp2_with fail
    refine (isEnvelope_any s v r ps _ H0.out).mono ?_; rintro e w1 ⟨rfl, b1⟩
    have B1 := Lib.hid (B0.out.trans (b1.mono B0.out.size)); have X1 := Lib.hid (X0.out.below b1); have H1 := Lib.hid (H0.out.below b1); clear i0 i1 i2 b1; have i0 := X1.out.at 0 rfl; have i1 := X1.out.at 1 rfl; have i2 := X1.out.at 2 rfl
    go_wp2_with (go_at_call 73; refine (isCount_any _ _).mono ?_; rintro e w' ⟨rfl, rfl⟩)
    go_ret2
    exact ⟨ret_int2 (by rw [hR.out]) (by rw [hR.out]), B1.out⟩
  have hR : Hid (endR s ps r g = (endF s ps r g (g + r).toNat, 0)) := by unfold Hid; simp [endR, k0, k1]
  have q1 := inB_true.1 k1
  have KV := Lib.hid k0
  go_enter Try.func55, Try.ntmps55
  go_wp2_with fail
  refine (isEnvelope_any s v r ps _ H0.out).mono ?_; rintro e w1 ⟨rfl, b1⟩
  have B1 := Lib.hid (B0.out.trans (b1.mono B0.out.size)); have X1 := Lib.hid (X0.out.below b1); have H1 := Lib.hid (H0.out.below b1); clear i0 i1 i2 b1; have i0 := X1.out.at 0 rfl; have i1 := X1.out.at 1 rfl; have i2 := X1.out.at 2 rfl
  go_wp2_with (go_at_call 73; refine (isCount_any _ _).mono ?_; rintro e w' ⟨rfl, rfl⟩)
  refine (endOf_any s v r ps g _ H1.out KV.out q1).mono ?_; rintro e w2 ⟨rfl, b2⟩
  have B2 := Lib.hid (B1.out.trans (b2.mono B1.out.size))
  clear b2
  go_wp2
  go_ret2
  exact ⟨ret_int2 (by rw [hR.out]) (by rw [hR.out]), B2.out⟩

set_option maxHeartbeats 1000000 in
theorem specEnd_any (s : Int) (v : Value) (r : Int) (ps : List (Int × Int)) (g : Int) (w : World) (h : Pairs w v ps) :
    Calls Try.prog 54 #[envV s v r, .int .i64 g] w fun e w' => e = .returned (.tuple #[.int .i64 (endR s ps r g).1, .int .i64 (endR s ps r g).2]) ∧ Below w.heap.size w w' := by
  have b0 : Below w.heap.size w (w.alloc (.cells #[.int .i64 s, v, .int .i64 r] 24)) := (Below.refl _ _).alloc (Nat.le_refl _) _
  have h0 := h.below b0
  have x0 := Box.newAt w [.int .i64 s, v, .int .i64 r] 24 rfl
  have X0 := Lib.hid x0; have B0 := Lib.hid b0; have H0 := Lib.hid h0
  have i0 := x0.at 0 rfl; have i1 := x0.at 1 rfl; have i2 := x0.at 2 rfl
  clear b0 h h0 x0
  cases k0 : envB s ps r
  · have hR : Hid (endR s ps r g = (0, 1)) := by unfold Hid; simp [endR, k0]
    go_enter Try.func54, Try.ntmps54
    go_wp2_with fail
    refine (l14Ok_any s v r ps w.heap.size _ H0.out i0 i1 i2).mono ?_; rintro e w1 ⟨rfl, rfl⟩
    have B1 := B0; have X1 := X0; have H1 := H0
    go_wp2
    go_ret2
    exact ⟨ret_int2 (by rw [hR.out]) (by rw [hR.out]), B1.out⟩
  cases k1 : inB g 0 4000
  · have hR : Hid (endR s ps r g = (0, 2)) := by unfold Hid; simp [endR, k0, k1]
    go_enter Try.func54, Try.ntmps54
    go_wp2_with fail
    refine (l14Ok_any s v r ps w.heap.size _ H0.out i0 i1 i2).mono ?_; rintro e w1 ⟨rfl, rfl⟩
    have B1 := B0; have X1 := X0; have H1 := H0
    go_wp2_with (go_at_call 118; refine (l14Length_any _ _).mono ?_; rintro e w' ⟨rfl, rfl⟩)
    go_ret2
    exact ⟨ret_int2 (by rw [hR.out]) (by rw [hR.out]), B1.out⟩
  have hR : Hid (endR s ps r g = (endF s ps r g (g + r).toNat, 0)) := by unfold Hid; simp [endR, k0, k1]
  have q1 := inB_true.1 k1
  have KV := Lib.hid k0
  obtain ⟨_, _, hr, _⟩ := envB_out k0
  obtain ⟨N, hN⟩ : ∃ N : Nat, g + r = N := ⟨(g + r).toNat, by omega⟩
  have hN2 : (g + r).toNat = N := by omega
  rw [hN2] at hR
  have hn1 : (N : Int) ≤ 8000 := by omega
  have HN := Lib.hid hN; clear hN hN2
  go_enter Try.func54, Try.ntmps54
  go_wp2_with fail
  refine (l14Ok_any s v r ps w.heap.size _ H0.out i0 i1 i2).mono ?_; rintro e w1 ⟨rfl, rfl⟩
  have B1 := B0; have X1 := X0; have H1 := H0
  go_wp2_with (go_at_call 118; refine (l14Length_any _ _).mono ?_; rintro e w' ⟨rfl, rfl⟩)
  rw [HN.out]
  clear i0 i1 i2
  obtain ⟨W, hW⟩ : ∃ W, W = w.alloc (.cells #[.int .i64 s, v, .int .i64 r] 24) := ⟨_, rfl⟩
  rw [← hW] at X1 H1 B1
  rw [← hW]
  clear hW X0 H0 B0
  go_loopw [6] (fun i wr => ∃ k : Nat, k ≤ 8000 ∧ i = .int .i64 k ∧ Hid (endR s ps r g = (endF s ps r g k, 0)) ∧ Below W.heap.size W wr) (fun i _ => (intOf i).toNat)
  case atStart => exact ⟨N, by omega, rfl, hR.out, Below.refl _ _⟩
  case round =>
    obtain ⟨k, hk, rfl, he, hbel⟩ := hrel
    cases k with
    | zero =>
      go_wp2
      go_ret2
      exact ⟨ret_int2 (by rw [he.out]; rfl) (by rw [he.out]), B1.out.trans (hbel.mono B1.out.size)⟩
    | succ k =>
      have xk := X1.out.below hbel
      have i0 := xk.at 0 rfl; have i1 := xk.at 1 rfl; have i2 := xk.at 2 rfl
      have XK := Lib.hid xk; clear xk
      have pos : (0 : Int) < ((k + 1 : Nat) : Int) := by omega
      have ek : ((k + 1 : Nat) : Int) - 1 = (k : Int) := by omega
      by_cases m : levelF s ps r g k = 0
      · have HT : Hid (endR s ps r g = (endF s ps r g k, 0)) := by unfold Hid; rw [he.out, endF, if_pos m]
        go_wp2_with fail
        refine (l14At_any s v r ps w.heap.size g k _ (H1.out.below hbel) XK.out KV.out (by omega) (by omega)).mono ?_; rintro e w2 ⟨rfl, b2⟩
        have hb2 := hbel.trans (b2.mono hbel.size)
        clear i0 i1 i2 b2
        go_wp2
        go_roundw
        case rel => exact ⟨k, by omega, by go_num, HT.out, hb2⟩
        case measure => (simp [intOf] <;> omega)
      · have HT : Hid (endR s ps r g = ((k : Int) + 1, 0)) := by unfold Hid; rw [he.out, endF, if_neg m]
        go_wp2_with fail
        refine (l14At_any s v r ps w.heap.size g k _ (H1.out.below hbel) XK.out KV.out (by omega) (by omega)).mono ?_; rintro e w2 ⟨rfl, b2⟩
        have hb2 := hbel.trans (b2.mono hbel.size)
        clear i0 i1 i2 b2
        go_wp2
        go_ret2
        exact ⟨ret_int2 (by rw [HT.out] <;> simp) (by rw [HT.out]), B1.out.trans (hb2.mono B1.out.size)⟩

end Go.Proofs.Ytfpbnhghceoleaa
