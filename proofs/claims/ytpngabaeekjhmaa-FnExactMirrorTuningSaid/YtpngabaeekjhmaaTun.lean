/-
  Contracts of the laws' own functions over tunings.
-/
import Derived.Test.YtpngabaeekjhmaaSeg
import Derived.Test.YtpngabaeekjhmaaBoxU
namespace Go.Proofs.Ytpngabaeekjhmaa
open Go.RowKit

/-- A tuning's value: base, octave (two numbers each), its slice of ratios. -/
abbrev tunV (bn bd on od : Int) (v : Value) : Value := .agg #[.int .i64 bn, .int .i64 bd, .int .i64 on, .int .i64 od, v]

theorem szTuning_any (bn bd on od : Int) (v : Value) (ps : List (Int × Int)) (m : Int) (w : World) (h : Pairs w v ps) (hm : 0 ≤ m ∧ m ≤ 1048576) :
    Calls Try.prog 7 #[tunV bn bd on od v, .int .i64 m] w fun e w' => e = .returned (.int .i64 (szF ps.length m)) ∧ Below w.heap.size w w' := by
  have h0 := h.below ((Below.refl _ _).alloc (Nat.le_refl _) (.cells #[.int .i64 bn, .int .i64 bd, .int .i64 on, .int .i64 od, v] 26))
  obtain ⟨hl, a, cap, rfl, hc⟩ := h
  clear hc
  by_cases h : szF ps.length m < 0
  · go_enter Try.func7, Try.ntmps7
    go_wp2_with (go_at_call 27; refine (szFracS_any _ ps _ _ h0 hm).mono ?_; rintro e w' ⟨rfl, rfl⟩)
    go_ret
    refine ⟨ret_int ?_, (Below.refl _ _).alloc (Nat.le_refl _) _⟩
    unfold szF at *; split <;> simp_all
  · have h' : 0 ≤ szF ps.length m := by omega
    go_enter Try.func7, Try.ntmps7
    go_wp2_with (go_at_call 27; refine (szFracS_any _ ps _ _ h0 hm).mono ?_; rintro e w' ⟨rfl, rfl⟩)
    go_ret
    exact ⟨rfl, (Below.refl _ _).alloc (Nat.le_refl _) _⟩

theorem toTuning_any (bn bd on od : Int) (v : Value) (ps : List (Int × Int)) (w : World) (h : Pairs w v ps) (hb : ps.length ≤ 1048576) :
    Calls Try.prog 9 #[tunV bn bd on od v] w fun e w' => ∃ v', e = .returned (tunV bn bd on od v') ∧ OwnP 29 w' w.heap.size v' ps ∧ Below w.heap.size w w' := by
  go_enter Try.func9, Try.ntmps9
  go_wp2_with fail
  refine (toFracP_any bn bd _).mono ?_
  rintro e w1 ⟨rfl, b1⟩
  have x0 := (((BoxU.newAt w [.int .i64 bn, .int .i64 bd, .int .i64 on, .int .i64 od, v] 26 rfl).below ((Below.refl _ _).alloc (Nat.le_refl _) _)).below ((Below.refl _ _).alloc (Nat.le_refl _) _)).below b1
  have x1 := ((BoxU.newAt (w.alloc (.cells #[.int .i64 bn, .int .i64 bd, .int .i64 on, .int .i64 od, v] 26)) [.int .i64 0, .int .i64 0, .int .i64 0, .int .i64 0, .slice none 0 0] 32 (n := w.heap.size + 1) (by simp)).below ((Below.refl _ _).alloc (Nat.le_refl _) _)).below b1
  have x2 := (BoxU.newAt ((w.alloc (.cells #[.int .i64 bn, .int .i64 bd, .int .i64 on, .int .i64 od, v] 26)).alloc (.cells #[.int .i64 0, .int .i64 0, .int .i64 0, .int .i64 0, .slice none 0 0] 32)) [.int .i64 0, .int .i64 0, .int .i64 0, .int .i64 0, .slice none 0 0] 32 (n := w.heap.size + 1 + 1) (by simp)).below b1
  have B1 : Below w.heap.size w w1 := by
    refine Below.trans ?_ (b1.mono (by simp <;> omega))
    repeat (first | exact Below.refl _ _ | refine Below.alloc ?_ (by simp <;> omega) _)
  clear b1
  have c1_0 := x0.1.at 0 rfl
  have c1_1 := x0.1.at 1 rfl
  have c1_2 := x0.1.at 2 rfl
  have c1_3 := x0.1.at 3 rfl
  have c1_4 := x0.1.at 4 rfl
  have d1_0 := x2.1.at 0 rfl
  have f1_0 := x2.2 0
  have d1_1 := x2.1.at 1 rfl
  have f1_1 := x2.2 1
  have d1_2 := x2.1.at 2 rfl
  have f1_2 := x2.2 2
  have d1_3 := x2.1.at 3 rfl
  have f1_3 := x2.2 3
  have d1_4 := x2.1.at 4 rfl
  have f1_4 := x2.2 4
  have g1_0 := x1.1.at 0 rfl
  have h1_0 := x1.2 0
  have g1_1 := x1.1.at 1 rfl
  have h1_1 := x1.2 1
  have g1_2 := x1.1.at 2 rfl
  have h1_2 := x1.2 2
  have g1_3 := x1.1.at 3 rfl
  have h1_3 := x1.2 3
  have g1_4 := x1.1.at 4 rfl
  have h1_4 := x1.2 4
  go_wp2_with fail
  clear c1_0 d1_0 f1_0 g1_0 h1_0 c1_1 d1_1 f1_1 g1_1 h1_1 c1_2 d1_2 f1_2 g1_2 h1_2 c1_3 d1_3 f1_3 g1_3 h1_3 c1_4 d1_4 f1_4 g1_4 h1_4
  refine (toFracP_any on od _).mono ?_
  rintro e w2 ⟨rfl, b2⟩
  have x3 := ((x0.other (b' := w.heap.size + 1 + 1) (j := 0) (.int .i64 bn) (by omega)).other (b' := w.heap.size + 1 + 1) (j := 1) (.int .i64 bd) (by omega)).below b2
  have x4 := ((x1.other (b' := w.heap.size + 1 + 1) (j := 0) (.int .i64 bn) (by omega)).other (b' := w.heap.size + 1 + 1) (j := 1) (.int .i64 bd) (by omega)).below b2
  have x5 : BoxU w2 (w.heap.size + 1 + 1) [.int .i64 bn, .int .i64 bd, .int .i64 0, .int .i64 0, .slice none 0 0] := ((x2.set 0 (.int .i64 bn) (by simp)).set 1 (.int .i64 bd) (by simp)).below b2
  have B2 : Below w.heap.size w w2 := by
    refine Below.trans ?_ (b2.mono (by have := B1.size; simp; omega))
    exact (B1.setCell (by simp <;> omega) _).setCell (by simp <;> omega) _
  clear b2 x0 x1 x2 B1
  have c2_0 := x3.1.at 0 rfl
  have c2_1 := x3.1.at 1 rfl
  have c2_2 := x3.1.at 2 rfl
  have c2_3 := x3.1.at 3 rfl
  have c2_4 := x3.1.at 4 rfl
  have d2_0 := x5.1.at 0 rfl
  have f2_0 := x5.2 0
  have d2_1 := x5.1.at 1 rfl
  have f2_1 := x5.2 1
  have d2_2 := x5.1.at 2 rfl
  have f2_2 := x5.2 2
  have d2_3 := x5.1.at 3 rfl
  have f2_3 := x5.2 3
  have d2_4 := x5.1.at 4 rfl
  have f2_4 := x5.2 4
  have g2_0 := x4.1.at 0 rfl
  have h2_0 := x4.2 0
  have g2_1 := x4.1.at 1 rfl
  have h2_1 := x4.2 1
  have g2_2 := x4.1.at 2 rfl
  have h2_2 := x4.2 2
  have g2_3 := x4.1.at 3 rfl
  have h2_3 := x4.2 3
  have g2_4 := x4.1.at 4 rfl
  have h2_4 := x4.2 4
  go_wp2_with fail
  clear c2_0 d2_0 f2_0 g2_0 h2_0 c2_1 d2_1 f2_1 g2_1 h2_1 c2_2 d2_2 f2_2 g2_2 h2_2 c2_3 d2_3 f2_3 g2_3 h2_3 c2_4 d2_4 f2_4 g2_4 h2_4
  have B3 : Below w.heap.size w ((w2.setCell ⟨w.heap.size + 1 + 1, 2, none⟩ (.int .i64 on)).setCell ⟨w.heap.size + 1 + 1, 3, none⟩ (.int .i64 od)) := (B2.setCell (by simp <;> omega) _).setCell (by simp <;> omega) _
  refine (toFracS_any v ps _ (h.below B3) hb).mono ?_
  rintro e w3 ⟨v', rfl, ov, b3⟩
  have y3 := ((x3.other (b' := w.heap.size + 1 + 1) (j := 2) (.int .i64 on) (by omega)).other (b' := w.heap.size + 1 + 1) (j := 3) (.int .i64 od) (by omega)).below b3
  have y4 := ((x4.other (b' := w.heap.size + 1 + 1) (j := 2) (.int .i64 on) (by omega)).other (b' := w.heap.size + 1 + 1) (j := 3) (.int .i64 od) (by omega)).below b3
  have y5 : BoxU w3 (w.heap.size + 1 + 1) [.int .i64 bn, .int .i64 bd, .int .i64 on, .int .i64 od, .slice none 0 0] := ((x5.set 2 (.int .i64 on) (by simp)).set 3 (.int .i64 od) (by simp)).below b3
  have hbel := B3.trans (b3.mono B3.size)
  have hz := y5.1.1
  have zz := x5.1.1
  clear x3 x4 x5 B2 B3
  obtain ⟨a, cap, rfl, _, hob⟩ := ov.shape1
  have ovb : ∀ g, a.map (·.block) = some g → w.heap.size + 3 ≤ g := fun g hg => by have := (ov.blk g (hob.trans hg)).1; simp at this; omega
  have OV := Lib.hid (ov.mono (base' := w.heap.size) (by simp; omega))
  have HB := Lib.hid hbel
  have HO := Lib.hid ovb
  clear b3 ov hbel ovb hob
  have c3_0 := y3.1.at 0 rfl
  have c3_1 := y3.1.at 1 rfl
  have c3_2 := y3.1.at 2 rfl
  have c3_3 := y3.1.at 3 rfl
  have c3_4 := y3.1.at 4 rfl
  have d3_0 := y5.1.at 0 rfl
  have f3_0 := y5.2 0
  have d3_1 := y5.1.at 1 rfl
  have f3_1 := y5.2 1
  have d3_2 := y5.1.at 2 rfl
  have f3_2 := y5.2 2
  have d3_3 := y5.1.at 3 rfl
  have f3_3 := y5.2 3
  have d3_4 := y5.1.at 4 rfl
  have f3_4 := y5.2 4
  have g3_0 := y4.1.at 0 rfl
  have h3_0 := y4.2 0
  have g3_1 := y4.1.at 1 rfl
  have h3_1 := y4.2 1
  have g3_2 := y4.1.at 2 rfl
  have h3_2 := y4.2 2
  have g3_3 := y4.1.at 3 rfl
  have h3_3 := y4.2 3
  have g3_4 := y4.1.at 4 rfl
  have h3_4 := y4.2 4
  go_wp2
  refine bodyPost_ret (v := tunV bn bd on od (.slice a ps.length cap)) (by simp [results, Try.results9, go_sem, g3_0, g3_1, g3_2, g3_3, g3_4]) rfl ⟨_, rfl, ?_, ?_⟩
  · have keep : ∀ {w1 : World} (b j : Nat) (u : Value), b < w.heap.size + 3 → OwnP 29 w1 w.heap.size (.slice a ps.length cap) ps → OwnP 29 (w1.setCell ⟨b, j, none⟩ u) w.heap.size (.slice a ps.length cap) ps := by
      intro w1 b j u hb h
      refine h.keep (grown_set _ _ _ _) (fun g hg e => ?_)
      have := HO.out g (by cases a with
        | none => simp [Value.ownBlock] at hg
        | some x => simpa [Value.ownBlock] using hg)
      simp at e
      omega
    have hov := OV.out
    repeat (with_reducible refine keep _ _ _ ?_ ?_; · omega)
    exact hov
  · have hhb := HB.out
    repeat (with_reducible refine Below.setCell ?_ ?_ _; rotate_left; · (simp <;> omega))
    exact hhb

end Go.Proofs.Ytpngabaeekjhmaa
