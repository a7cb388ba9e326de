/-
  RenderEnvelope of both sides.
-/
import Derived.Test.YtoclpcdmpeimkaaLevel
import Derived.Test.YtoclpcdmpeimkaaZeros
import Derived.Test.YtoclpcdmpeimkaaObj
namespace Go.Proofs.Ytoclpcdmpeimkaa
open Go.RowKit

theorem isTime_any (n : Int) (w : World) : Calls Try.prog 55 #[.int .i64 n] w fun e w' => e = .returned (.bool (inB n 0 1000000000)) ∧ w = w' := by
  go_enter Try.func55, Try.ntmps55
  go_wp2_with (go_at_call 77; refine (within_any _ _ _ _).mono ?_; rintro e w' ⟨rfl, rfl⟩)
  go_ret
  exact ⟨rfl, rfl⟩

/-- The levels of the first samples. -/
def levTo (s : Int) (ps : List (Int × Int)) (r g : Int) (n : Nat) : List Int := (List.range n).map fun (i : Nat) => levelF s ps r g (i : Int)
theorem levTo_succ (s : Int) (ps : List (Int × Int)) (r g : Int) (n : Nat) : levTo s ps r g (n + 1) = levTo s ps r g n ++ [levelF s ps r g (n : Int)] := by simp [levTo, List.range_succ]
@[simp] theorem levTo_length (s : Int) (ps : List (Int × Int)) (r g : Int) (n : Nat) : (levTo s ps r g n).length = n := by simp [levTo]
def rendER (s : Int) (ps : List (Int × Int)) (r g n : Int) : List Int × Int :=
  if envB s ps r = true then (if inB g 0 1000000000 = true ∧ inB n 0 4000 = true then (levTo s ps r g n.toNat, 0) else ([], 2)) else ([], 1)
theorem rendER_len (s : Int) (ps : List (Int × Int)) (r g n : Int) : (rendER s ps r g n).1.length ≤ 4000 := by
  unfold rendER; split
  · split
    · rename_i h; have := inB_true.1 h.2; simp; omega
    · simp
  · simp

set_option maxHeartbeats 1000000 in
theorem levels_any (s : Int) (v : Value) (r : Int) (ps : List (Int × Int)) (g : Int) (N : Nat) (w : World) (h : Pairs w v ps) (hv : envB s ps r = true) (hg : 0 ≤ g ∧ g ≤ 1000000000) (hN : N ≤ 4000) :
    Calls Try.prog 57 #[envV s v r, .int .i64 g, .int .i64 N] w fun e w' => ∃ v', e = .returned v' ∧ Own w' w.heap.size v' (levTo s ps r g N) ∧ Below w.heap.size w w' := by
  have b0 : Below w.heap.size w (w.alloc (.cells #[.int .i64 s, v, .int .i64 r] 36)) := (Below.refl _ _).alloc (Nat.le_refl _) _
  have h0 := h.below b0
  have x0 := BoxU.newAt w [.int .i64 s, v, .int .i64 r] 36 rfl
  have H := Lib.hid h; clear h
  go_enter Try.func57, Try.ntmps57
  go_wp2_with fail
  refine (zeros_any N _ (by omega)).mono ?_; rintro e w1 ⟨v1, rfl, o1, b1⟩
  have B1 := b0.trans (b1.mono b0.size)
  have x1 := x0.below b1
  have hlo : w.heap.size + 1 ≤ w1.heap.size := by have := b1.size; simpa using this
  simp only [World.size_alloc] at o1
  clear b1 h0 x0 b0
  obtain ⟨a1, cap1, rfl, ha1, _⟩ := o1.shape1
  simp only [List.length_replicate] at ha1
  have hL := List.length_replicate (n := N) (a := (0 : Int))
  rw [hL]; rw [hL] at o1
  clear hL
  have O1 := Lib.hid o1; have X1 := Lib.hid x1; have BB1 := Lib.hid B1
  clear o1 x1 B1
  go_wp2
  go_loopw [13] (fun i wr => ∃ k : Nat, k ≤ N ∧ i = .int .i64 k ∧ ∃ zs : List Int, Hid (zs.length = N ∧ zs.take k = levTo s ps r g k) ∧ Own wr (w.heap.size + 1) (.slice a1 N cap1) zs ∧ Hid (BoxU wr w.heap.size [.int .i64 s, v, .int .i64 r]) ∧ Below w.heap.size w wr) (fun i _ => N - (intOf i).toNat)
  case atStart => exact ⟨0, Nat.zero_le _, rfl, _, ⟨by simp, rfl⟩, O1.out, X1.out, BB1.out⟩
  case round =>
    obtain ⟨k, hk, rfl, zs, hzs, hown, hpx, hbel⟩ := hrel
    by_cases hlt : k < N
    · obtain ⟨gb, rfl⟩ := ha1 (by omega)
      have i0 := hpx.out.1.at 0 rfl; have i1 := hpx.out.1.at 1 rfl; have i2 := hpx.out.1.at 2 rfl
      have t2 : ∀ x, (zs.set k x).take (k + 1) = zs.take k ++ [x] := by
        intro x
        have hk' : k < (zs.set k x).length := by have := hzs.out.1; simp; omega
        rw [List.take_succ_eq_append_getElem hk', List.take_set, List.set_eq_of_length_le (by simp; omega)]; simp
      have T2 := Lib.hid (t2 (levelF s ps r g (k : Int))); clear t2
      obtain ⟨x, hx⟩ : ∃ x, x = levelF s ps r g (k : Int) := ⟨_, rfl⟩
      have HXX := Lib.hid hx
      have HOwn := Lib.hid hown
      clear hown hx
      go_wp2_with fail
      refine (levelAt_any s v r ps g k _ (H.out.below hbel) hv hg (by omega)).mono ?_; rintro e w2 ⟨rfl, b2⟩
      rw [← HXX.out] at T2 ⊢
      have o2 := HOwn.out.below b2
      have d3 := o2.cell k (by have := hzs.out.1; omega)
      have d4 := o2.unfrozen k
      have hg1 := (o2.base_le).1
      generalize zs.getD k 0 = z at *
      have o3 := o2.set k x
      have bel2 := hbel.trans (b2.mono hbel.size)
      have bel3 := bel2.setCell (p := ⟨gb, k, none⟩) (by show w.heap.size ≤ gb; omega) (.int .i64 x)
      have px2 := hpx.out.below b2
      have px3 := px2.other (b' := gb) (j := k) (.int .i64 x) (by omega)
      have P3 := Lib.hid px3; have O3 := Lib.hid o3; have E3 := Lib.hid bel3
      clear px2 px3 o3 bel2 bel3 b2 o2 hbel i0 i1 i2 hpx HOwn ha1 hg1
      go_wp2
      go_roundw
      case rel => exact ⟨k + 1, by omega, by go_num, _, ⟨by have := hzs.out.1; simpa using this, by rw [T2.out, hzs.out.2, levTo_succ, HXX.out]⟩, O3.out, P3.out, E3.out⟩
      case measure => simp [intOf]; omega
    · have e : zs = levTo s ps r g N := by
        have h1 := hzs.out.1
        have h2 := hzs.out.2
        have e : k = N := by omega
        rwa [List.take_of_length_le (by omega), e] at h2
      have EE := Lib.hid e; clear e
      clear ha1
      go_wp2
      go_ret
      rw [← EE.out]
      exact ⟨_, rfl, hown.mono (by omega), hbel⟩

theorem implRendE_any (s : Int) (v : Value) (r : Int) (ps : List (Int × Int)) (g n : Int) (w : World) (h : Pairs w v ps) :
    Calls Try.prog 20 #[envV s v r, .int .i64 g, .int .i64 n] w fun e w' => ∃ v', e = .returned (.tuple #[v', .int .i64 (rendER s ps r g n).2]) ∧ Own w' w.heap.size v' (rendER s ps r g n).1 ∧ Below w.heap.size w w' := by
  have b0 : Below w.heap.size w (w.alloc (.cells #[.int .i64 s, v, .int .i64 r] 36)) := (Below.refl _ _).alloc (Nat.le_refl _) _
  have x0 := BoxU.newAt w [.int .i64 s, v, .int .i64 r] 36 rfl
  have H := Lib.hid h; clear h
  go_enter Try.func20, Try.ntmps20
  go_wp2_with fail
  refine (isEnvelope_any s v r ps _ (H.out.below b0)).mono ?_; rintro e w1 ⟨rfl, b1⟩
  have B1 := b0.trans (b1.mono b0.size)
  have x1 := x0.below b1
  have i0 := x1.1.at 0 rfl; have i1 := x1.1.at 1 rfl; have i2 := x1.1.at 2 rfl
  have hlo : w.heap.size ≤ w1.heap.size := B1.size
  have BB := Lib.hid B1; clear x0 b0 b1 B1 x1
  cases k1 : envB s ps r
  · go_wp2
    go_ret2
    exact ⟨_, ret_li (by simp [rendER, k1]), by simp only [rendER, k1]; exact Own.nil _ _, BB.out⟩
  cases k2 : inB g 0 1000000000
  · go_wp2_with (first | (go_at_call 55; refine (isTime_any _ _).mono ?_; rintro e w' ⟨rfl, rfl⟩))
    go_ret2
    exact ⟨_, ret_li (by simp [rendER, k1, k2]), by simp only [rendER, k1, k2]; exact Own.nil _ _, BB.out⟩
  cases k3 : inB n 0 4000
  · go_wp2_with (first | (go_at_call 55; refine (isTime_any _ _).mono ?_; rintro e w' ⟨rfl, rfl⟩) | (go_at_call 56; refine (isCount_any _ _).mono ?_; rintro e w' ⟨rfl, rfl⟩))
    go_ret2
    exact ⟨_, ret_li (by simp [rendER, k1, k2, k3]), by simp only [rendER, k1, k2, k3]; exact Own.nil _ _, BB.out⟩
  have hn := inB_true.1 k3
  have hg := inB_true.1 k2
  obtain ⟨N, rfl⟩ := Int.eq_ofNat_of_zero_le hn.1
  have e0 : rendER s ps r g (N : Int) = (levTo s ps r g N, 0) := by simp [rendER, k1, k2, k3]
  have E0 := Lib.hid e0; clear e0
  go_wp2_with (first | (go_at_call 55; refine (isTime_any _ _).mono ?_; rintro e w' ⟨rfl, rfl⟩) | (go_at_call 56; refine (isCount_any _ _).mono ?_; rintro e w' ⟨rfl, rfl⟩))
  refine (levels_any s v r ps g N _ (H.out.below BB.out) k1 hg (by omega)).mono ?_; rintro e w2 ⟨v2, rfl, o2, b2⟩
  go_wp2
  go_ret2
  exact ⟨_, ret_li (by rw [E0.out]), by rw [E0.out]; exact o2.mono hlo, BB.out.trans (b2.mono hlo)⟩

theorem specRendE_any (s : Int) (v : Value) (r : Int) (ps : List (Int × Int)) (g n : Int) (w : World) (h : Pairs w v ps) :
    Calls Try.prog 19 #[envV s v r, .int .i64 g, .int .i64 n] w fun e w' => ∃ v', e = .returned (.tuple #[v', .int .i64 (rendER s ps r g n).2]) ∧ Own w' w.heap.size v' (rendER s ps r g n).1 ∧ Below w.heap.size w w' := by
  have b0 : Below w.heap.size w (w.alloc (.cells #[.int .i64 s, v, .int .i64 r] 36)) := (Below.refl _ _).alloc (Nat.le_refl _) _
  have x0 := BoxU.newAt w [.int .i64 s, v, .int .i64 r] 36 rfl
  have H := Lib.hid h; clear h
  have h0 := H.out.below b0
  have L := Lib.hid (l14Ok_any s v r ps w.heap.size _ h0 (x0.1.at 0 rfl) (x0.1.at 1 rfl) (x0.1.at 2 rfl))
  have BB := Lib.hid b0; have X := Lib.hid x0; clear b0 x0 h0
  go_enter Try.func19, Try.ntmps19
  go_wp2_with fail
  refine L.out.mono ?_; rintro e w1 ⟨rfl, rfl⟩
  clear L
  cases k1 : envB s ps r
  · go_wp2
    go_ret2
    exact ⟨_, ret_li (by simp [rendER, k1]), by simp only [rendER, k1]; exact Own.nil _ _, BB.out⟩
  cases k2 : inB g 0 1000000000
  · go_wp2_with (first | (go_at_call 52; refine (l00In_any _ _ _ _).mono ?_; rintro e w' ⟨rfl, rfl⟩))
    go_ret2
    exact ⟨_, ret_li (by simp [rendER, k1, k2]), by simp only [rendER, k1, k2]; exact Own.nil _ _, BB.out⟩
  cases k3 : inB n 0 4000
  · go_wp2_with (first | (go_at_call 52; refine (l00In_any _ _ _ _).mono ?_; rintro e w' ⟨rfl, rfl⟩) | (go_at_call 53; refine (l14Length_any _ _).mono ?_; rintro e w' ⟨rfl, rfl⟩))
    go_ret2
    exact ⟨_, ret_li (by simp [rendER, k1, k2, k3]), by simp only [rendER, k1, k2, k3]; exact Own.nil _ _, BB.out⟩
  have hn := inB_true.1 k3
  have hg := inB_true.1 k2
  obtain ⟨N, rfl⟩ := Int.eq_ofNat_of_zero_le hn.1
  have e0 : rendER s ps r g (N : Int) = (levTo s ps r g N, 0) := by simp [rendER, k1, k2, k3]
  have E0 := Lib.hid e0; clear e0
  go_wp2_with (first | (go_at_call 52; refine (l00In_any _ _ _ _).mono ?_; rintro e w' ⟨rfl, rfl⟩) | (go_at_call 53; refine (l14Length_any _ _).mono ?_; rintro e w' ⟨rfl, rfl⟩))
  go_loopw [8, 9] (fun out i wr => ∃ k : Nat, k ≤ N ∧ i = .int .i64 k ∧ Own wr (w.heap.size + 1) out (levTo s ps r g k) ∧ Below (w.heap.size + 1) (w.alloc (.cells #[.int .i64 s, v, .int .i64 r] 36)) wr) (fun _ i _ => N - (intOf i).toNat)
  case atStart => exact ⟨0, Nat.zero_le _, rfl, by have := Own.made (w := w.alloc (.cells #[.int .i64 s, v, .int .i64 r] 36)); rw [World.size_alloc] at this; exact this, (Below.refl _ _).alloc (by simp) _⟩
  case round =>
    obtain ⟨k, hk, rfl, hown, hbel⟩ := hrel
    by_cases hlt : k < N
    · have x1 := X.out.1.below (hbel.mono (by simp))
      have H1 := (H.out.below BB.out).below (hbel.mono (by simp))
      have hsz : w.heap.size + 1 ≤ wr.heap.size := by have := hbel.size; simpa using this
      have HX1 := Lib.hid x1; have HH1 := Lib.hid H1; have HO := Lib.hid hown; have HB := Lib.hid hbel
      have hsucc := Lib.hid (levTo_succ s ps r g k)
      clear x1 H1 hown hbel
      go_wp2_with fail
      refine (l14At_any s v r ps w.heap.size g k _ HH1.out HX1.out k1 hg (by omega)).mono ?_; rintro e w2 ⟨rfl, b2⟩
      have o2 := HO.out.below b2
      have B2 := HB.out.trans (b2.mono hsz)
      generalize levelF s ps r g (k : Int) = x at *
      clear b2
      go_wp2_with (first
        | (at_builtin; refine append_oneB (World.size_alloc _ _) rfl _ _ rfl _ _ _ rfl o2 B2 rfl (by simp; omega) ?_; intro v' w1 hown1 hbel1))
      have hown2 := Lib.hid hown1; have hbel2 := Lib.hid hbel1; clear hown1 hbel1
      go_roundw
      case rel => exact ⟨k + 1, by omega, by go_num, by rw [hsucc.out]; exact hown2.out, hbel2.out⟩
      case measure => simp [intOf]; omega
    · have e : k = N := by omega
      subst e
      have HO := Lib.hid hown; have HB := Lib.hid hbel
      clear hown hbel
      go_wp2
      go_ret2
      exact ⟨_, ret_li (by rw [E0.out]), by rw [E0.out]; exact HO.out.mono (by omega), BB.out.trans (HB.out.mono (by omega))⟩

end Go.Proofs.Ytoclpcdmpeimkaa
