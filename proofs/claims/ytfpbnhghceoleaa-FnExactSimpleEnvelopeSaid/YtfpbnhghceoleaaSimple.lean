/-
  SimpleEnvelope of both sides.
-/
import Derived.Test.YtfpbnhghceoleaaMarkP
import Derived.Test.YtfpbnhghceoleaaEnv
namespace Go.Proofs.Ytfpbnhghceoleaa
open Go.RowKit

theorem OwnP.lit {e : TypeId} (w : World) (ps : List (Int × Int)) (hl : ps.length ≤ 1000000) : OwnP e (w.alloc (.cells (flatP ps).toArray e)) w.heap.size (.slice (some ⟨w.heap.size, 0, none⟩) ps.length ps.length) ps :=
  ⟨by simp, .inr ⟨w.heap.size, ps.length, _, rfl, Nat.le_refl _, heap_alloc_new w _, Nat.le_refl _, by unfold maxLen; omega, by simp, by rw [List.take_of_length_le (by simp)]⟩⟩

def simpR (a d s r : Int) : (Int × List (Int × Int) × Int) × Int := if envB 0 [(a, 65536), (d, s)] r = true then ((0, [(a, 65536), (d, s)], r), 0) else ((0, [], 0), 2)

theorem isEnv_box (s : Int) (v : Value) (r : Int) (ps : List (Int × Int)) (p : Nat) (w : World) (h : Pairs w v ps) (_ : w.cell? ⟨p, 0, none⟩ = some (.int .i64 s)) (_ : w.cell? ⟨p, 1, none⟩ = some v) (_ : w.cell? ⟨p, 2, none⟩ = some (.int .i64 r)) :
    Calls Try.prog 62 #[envV s v r] w fun e w' => e = .returned (.bool (envB s ps r)) ∧ Below w.heap.size w w' := isEnvelope_any s v r ps w h
theorem l14Ok_box (s : Int) (v : Value) (r : Int) (ps : List (Int × Int)) (p : Nat) (w : World) (h : Pairs w v ps) (p0 : w.cell? ⟨p, 0, none⟩ = some (.int .i64 s)) (p1 : w.cell? ⟨p, 1, none⟩ = some v) (p2 : w.cell? ⟨p, 2, none⟩ = some (.int .i64 r)) :
    Calls Try.prog 61 #[.pointer (some ⟨p, 0, none⟩)] w fun e w' => e = .returned (.bool (envB s ps r)) ∧ Below w.heap.size w w' :=
  (l14Ok_any s v r ps p w h p0 p1 p2).mono fun _ _ ⟨h1, h2⟩ => ⟨h1, h2 ▸ Below.refl _ _⟩

theorem implSimple_any (a d s r : Int) (w : World) :
    Calls Try.prog 16 #[.int .i64 a, .int .i64 d, .int .i64 s, .int .i64 r] w fun e w' => ∃ v', e = .returned (.tuple #[envV (simpR a d s r).1.1 v' (simpR a d s r).1.2.2, .int .i64 (simpR a d s r).2]) ∧ OwnP 85 w' w.heap.size v' (simpR a d s r).1.2.1 ∧ Below w.heap.size w w' := by
  have b0 : Below w.heap.size w (w.alloc (.cells #[.int .i64 0, .slice none 0 0, .int .i64 0] 24)) := (Below.refl _ _).alloc (Nat.le_refl _) _
  have x0 := BoxU.newAt w [.int .i64 0, .slice none 0 0, .int .i64 0] 24 rfl
  have o1 : OwnP 85 _ _ _ _ := OwnP.lit (e := 85) (w.alloc (.cells #[.int .i64 0, .slice none 0 0, .int .i64 0] 24)) [(a, 65536), (d, s)] (by simp)
  have a1 := (Below.refl (w.alloc (.cells #[.int .i64 0, .slice none 0 0, .int .i64 0] 24)).heap.size _).alloc (Nat.le_refl _) (.cells #[.int .i64 a, .int .i64 65536, .int .i64 d, .int .i64 s] 85)
  have x1 := x0.below a1
  have a2 := (Below.refl ((w.alloc (.cells #[.int .i64 0, .slice none 0 0, .int .i64 0] 24)).alloc (.cells #[.int .i64 a, .int .i64 65536, .int .i64 d, .int .i64 s] 85)).heap.size _).alloc (Nat.le_refl _) (.cells #[.int .i64 0, .slice (some ⟨w.heap.size + 1, 0, none⟩) 2 2, .int .i64 r] 24)
  have x2 := x1.below a2
  have y2 := BoxU.newAt ((w.alloc (.cells #[.int .i64 0, .slice none 0 0, .int .i64 0] 24)).alloc (.cells #[.int .i64 a, .int .i64 65536, .int .i64 d, .int .i64 s] 85)) [.int .i64 0, .slice (some ⟨w.heap.size + 1, 0, none⟩) 2 2, .int .i64 r] 24 (n := w.heap.size + 1 + 1) (by simp)
  have o2 := o1.below a2
  simp only [World.size_alloc] at o2
  have B2 := (b0.trans (a1.mono (by simp))).trans (a2.mono (by simp <;> omega))
  clear b0 x0 x1 o1 a1 a2
  go_enter Try.func16, Try.ntmps16
  go_wp2_with fail
  refine (isEnv_box 0 _ r [(a, 65536), (d, s)] _ _ (o2.pairs (by simp)) (y2.1.at 0 rfl) (y2.1.at 1 rfl) (y2.1.at 2 rfl)).mono ?_; rintro e w4 ⟨rfl, b4⟩
  have X := Lib.hid (x2.below b4)
  have y4 := y2.below b4
  have o4 := o2.below b4
  have B4 := B2.trans (b4.mono (by simp <;> omega))
  clear x2 y2 o2 B2 b4
  have i0 := X.out.1.at 0 rfl; have i1 := X.out.1.at 1 rfl; have i2 := X.out.1.at 2 rfl
  have f0 := X.out.2 0; have f1 := X.out.2 1; have f2 := X.out.2 2
  have j0 := y4.1.at 0 rfl; have j1 := y4.1.at 1 rfl; have j2 := y4.1.at 2 rfl
  have OO := Lib.hid o4; have BB := Lib.hid B4
  clear y4 o4 B4
  have keep : ∀ (w1 : World) (j : Nat) (u : Value), OwnP 85 w1 (w.heap.size + 1) (.slice (some ⟨w.heap.size + 1, 0, none⟩) 2 2) [(a, 65536), (d, s)] → OwnP 85 (w1.setCell ⟨w.heap.size, j, none⟩ u) (w.heap.size + 1) (.slice (some ⟨w.heap.size + 1, 0, none⟩) 2 2) [(a, 65536), (d, s)] :=
    fun _ j u h => h.keep (grown_set _ _ _ _) (fun g hg e => by simp [Value.ownBlock] at hg e; omega)
  have KK := Lib.hid keep; clear keep
  cases hE : envB 0 [(a, 65536), (d, s)] r
  · go_wp2
    refine bodyPost_ret (v := .tuple #[envV 0 (.slice none 0 0) 0, .int .i64 2]) (by simp [results, Try.results16, go_sem, *]) rfl ⟨.slice none 0 0, by simp [simpR, hE], by simp only [simpR, hE]; exact OwnP.nil _ _ _, ?_⟩
    have := BB.out
    repeat (with_reducible refine Below.setCell ?_ ?_ _; rotate_left; · (simp <;> omega))
    exact this
  · go_wp2
    refine bodyPost_ret (v := .tuple #[envV 0 (.slice (some ⟨w.heap.size + 1, 0, none⟩) 2 2) r, .int .i64 0]) (by simp [results, Try.results16, go_sem, *]) rfl ⟨.slice (some ⟨w.heap.size + 1, 0, none⟩) 2 2, by simp [simpR, hE], ?_, ?_⟩
    · simp only [simpR, hE]
      exact (KK.out _ _ _ (KK.out _ _ _ (KK.out _ _ _ OO.out))).mono (by omega)
    · have := BB.out
      repeat (with_reducible refine Below.setCell ?_ ?_ _; rotate_left; · (simp <;> omega))
      exact this
theorem specSimple_any (a d s r : Int) (w : World) :
    Calls Try.prog 15 #[.int .i64 a, .int .i64 d, .int .i64 s, .int .i64 r] w fun e w' => ∃ v', e = .returned (.tuple #[envV (simpR a d s r).1.1 v' (simpR a d s r).1.2.2, .int .i64 (simpR a d s r).2]) ∧ OwnP 85 w' w.heap.size v' (simpR a d s r).1.2.1 ∧ Below w.heap.size w w' := by
  have b0 : Below w.heap.size w (w.alloc (.cells #[.int .i64 0, .slice none 0 0, .int .i64 0] 24)) := (Below.refl _ _).alloc (Nat.le_refl _) _
  have x0 := BoxU.newAt w [.int .i64 0, .slice none 0 0, .int .i64 0] 24 rfl
  have o1 : OwnP 85 _ _ _ _ := OwnP.lit (e := 85) (w.alloc (.cells #[.int .i64 0, .slice none 0 0, .int .i64 0] 24)) [(a, 65536), (d, s)] (by simp)
  have a1 := (Below.refl (w.alloc (.cells #[.int .i64 0, .slice none 0 0, .int .i64 0] 24)).heap.size _).alloc (Nat.le_refl _) (.cells #[.int .i64 a, .int .i64 65536, .int .i64 d, .int .i64 s] 85)
  have x1 := x0.below a1
  have a2 := (Below.refl ((w.alloc (.cells #[.int .i64 0, .slice none 0 0, .int .i64 0] 24)).alloc (.cells #[.int .i64 a, .int .i64 65536, .int .i64 d, .int .i64 s] 85)).heap.size _).alloc (Nat.le_refl _) (.cells #[.int .i64 0, .slice (some ⟨w.heap.size + 1, 0, none⟩) 2 2, .int .i64 r] 24)
  have x2 := x1.below a2
  have y2 := BoxU.newAt ((w.alloc (.cells #[.int .i64 0, .slice none 0 0, .int .i64 0] 24)).alloc (.cells #[.int .i64 a, .int .i64 65536, .int .i64 d, .int .i64 s] 85)) [.int .i64 0, .slice (some ⟨w.heap.size + 1, 0, none⟩) 2 2, .int .i64 r] 24 (n := w.heap.size + 1 + 1) (by simp)
  have o2 := o1.below a2
  simp only [World.size_alloc] at o2
  have B2 := (b0.trans (a1.mono (by simp))).trans (a2.mono (by simp <;> omega))
  clear b0 x0 x1 o1 a1 a2
  go_enter Try.func15, Try.ntmps15
  go_wp2_with fail
  refine (l14Ok_box 0 _ r [(a, 65536), (d, s)] _ _ (o2.pairs (by simp)) (y2.1.at 0 rfl) (y2.1.at 1 rfl) (y2.1.at 2 rfl)).mono ?_; rintro e w4 ⟨rfl, b4⟩
  have X := Lib.hid (x2.below b4)
  have y4 := y2.below b4
  have o4 := o2.below b4
  have B4 := B2.trans (b4.mono (by simp <;> omega))
  clear x2 y2 o2 B2 b4
  have i0 := X.out.1.at 0 rfl; have i1 := X.out.1.at 1 rfl; have i2 := X.out.1.at 2 rfl
  have f0 := X.out.2 0; have f1 := X.out.2 1; have f2 := X.out.2 2
  have j0 := y4.1.at 0 rfl; have j1 := y4.1.at 1 rfl; have j2 := y4.1.at 2 rfl
  have OO := Lib.hid o4; have BB := Lib.hid B4
  clear y4 o4 B4
  have keep : ∀ (w1 : World) (j : Nat) (u : Value), OwnP 85 w1 (w.heap.size + 1) (.slice (some ⟨w.heap.size + 1, 0, none⟩) 2 2) [(a, 65536), (d, s)] → OwnP 85 (w1.setCell ⟨w.heap.size, j, none⟩ u) (w.heap.size + 1) (.slice (some ⟨w.heap.size + 1, 0, none⟩) 2 2) [(a, 65536), (d, s)] :=
    fun _ j u h => h.keep (grown_set _ _ _ _) (fun g hg e => by simp [Value.ownBlock] at hg e; omega)
  have KK := Lib.hid keep; clear keep
  cases hE : envB 0 [(a, 65536), (d, s)] r
  · go_wp2
    refine bodyPost_ret (v := .tuple #[envV 0 (.slice none 0 0) 0, .int .i64 2]) (by simp [results, Try.results15, go_sem, *]) rfl ⟨.slice none 0 0, by simp [simpR, hE], by simp only [simpR, hE]; exact OwnP.nil _ _ _, ?_⟩
    have := BB.out
    repeat (with_reducible refine Below.setCell ?_ ?_ _; rotate_left; · (simp <;> omega))
    exact this
  · go_wp2
    refine bodyPost_ret (v := .tuple #[envV 0 (.slice (some ⟨w.heap.size + 1, 0, none⟩) 2 2) r, .int .i64 0]) (by simp [results, Try.results15, go_sem, *]) rfl ⟨.slice (some ⟨w.heap.size + 1, 0, none⟩) 2 2, by simp [simpR, hE], ?_, ?_⟩
    · simp only [simpR, hE]
      exact (KK.out _ _ _ (KK.out _ _ _ (KK.out _ _ _ OO.out))).mono (by omega)
    · have := BB.out
      repeat (with_reducible refine Below.setCell ?_ ?_ _; rotate_left; · (simp <;> omega))
      exact this

end Go.Proofs.Ytfpbnhghceoleaa
