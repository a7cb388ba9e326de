/-
 Draws in a row: 'Dr w0 w p v bs n': since w0 nothing older has turned but the source in block p, which has been drawn from at most n times.
-/
import Derived.Test.YtflaacndokbddaaDoorSrc
import Derived.Test.YtflaacndokbddaaDoorObj
namespace Go.Proofs.YtflaacndokbddaaDoor
open Go.RowKit

structure Dr (w0 w : World) (p : Nat) (v : Value) (bs : List Int) (n : Nat) : Prop where
 src : Src w p v bs n
 grown : w0.grownBy w (some p)
 lt : p < w0.heap.size
section
variable {w0 w w' : World} {p n m : Nat} {v : Value} {bs : List Int}
theorem Dr.start (h : Src w p v bs n) : Dr w w p v bs n := ⟨h, grown_refl _ _, h.lt⟩
theorem Dr.next (h : Dr w0 w p v bs n) (h2 : Src w' p v bs m) (g : w.grownBy w' (some p)) : Dr w0 w' p v bs m := ⟨h2, grown_trans h.grown g, h.lt⟩
theorem Dr.le (h : Dr w0 w p v bs n) (hm : n ≤ m) : Dr w0 w p v bs m := ⟨h.src.le hm, h.grown, h.lt⟩
theorem Dr.below (h : Dr w0 w p v bs n) (hb : Below w.heap.size w w') : Dr w0 w' p v bs n := ⟨h.src.below hb, grown_trans h.grown (grown_of_below hb), h.lt⟩
theorem Dr.alloc (h : Dr w0 w p v bs n) (o : _root_.Go.Obj) : Dr w0 (w.alloc o) p v bs n := h.below ((Below.refl _ _).alloc (Nat.le_refl _) o)
theorem Dr.set (h : Dr w0 w p v bs n) {b j : Nat} (u : Value) (hb : w0.heap.size ≤ b) : Dr w0 (w.setCell ⟨b, j, none⟩ u) p v bs n := by
 obtain ⟨⟨k, seed, hk, hs, hx, hbs, w1, hnum, hbel, hp⟩, g, hl⟩ := h
 have hne : b ≠ p := by omega
 refine ⟨⟨k, seed, hk, hs, hx.other u hne, hbs, w1, hnum, hbel.setCell (by show w1.heap.size ≤ b; omega) u, hp⟩, ?_, hl⟩
 exact ⟨g.os, g.tape, g.output, by simpa using g.size, fun i hi hr => (heap_setCell_other w ⟨b, j, none⟩ i u (by show ¬ i = b; omega)).trans (g.block i hi hr)⟩
theorem Dr.size (h : Dr w0 w p v bs n) : w0.heap.size ≤ w.heap.size := h.grown.size

theorem BoxU.grown {b : Nat} {vs : List Value} {r : Option Nat} (h : BoxU w b vs) (hg : w.grownBy w' r) (hne : some b ≠ r) : BoxU w' b vs :=
 ⟨⟨Nat.lt_of_lt_of_le h.1.1 hg.size, fun i v hv => (World.cell?_of_block (w := w) (a := ⟨b, i, none⟩) (hg.block b h.1.1 hne)).trans (h.1.2 i v hv)⟩,
  fun i => (World.frozen?_of_block (w := w) (a := ⟨b, i, none⟩) (hg.block b h.1.1 hne)).trans (h.2 i)⟩
theorem Dr.row {r : Option Nat} (h : Dr w0 w p v bs n) (hg : w.grownBy w' r) (hr : ∀ g, r = some g → w0.heap.size ≤ g) : Dr w0 w' p v bs n := by
 obtain ⟨⟨k, seed, hk, hs, hx, hbs, w1, hnum, hbel, hp⟩, g, hl⟩ := h
 refine ⟨⟨k, seed, hk, hs, hx.grown hg (fun e => by have := hr p e.symm; omega), hbs, w1, hnum, hbel.grown hg hbel.size (fun k hk => by have := hr k hk; omega), hp⟩, ?_, hl⟩
 exact ⟨hg.os.trans g.os, hg.tape.trans g.tape, hg.output.trans g.output, Nat.le_trans g.size hg.size, fun i hi hne => (hg.block i (Nat.lt_of_lt_of_le hi g.size) (fun e => by have := hr i e.symm; omega)).trans (g.block i hi hne)⟩

theorem pickD (h : Dr w0 w p v bs n) (m : Int) (hn : n ≤ 999999998) (hm : 1 ≤ m ∧ m ≤ 1000000000) :
 Calls Tryd.prog 29 #[.pointer (some ⟨p, 0, none⟩), .int .i64 m] w fun e w' => ∃ r : Int, e = .returned (.int .i64 r) ∧ (0 ≤ r ∧ r < m) ∧ Dr w0 w' p v bs (n + 2) :=
 (pick_any m p v bs n w h.src hn hm).mono fun _ _ ⟨r, he, hr, hs, hg⟩ => ⟨r, he, hr, h.next hs hg⟩

theorem nextD (h : Dr w0 w p v bs n) (hn : n ≤ 999999998) :
 Calls Tryd.prog 31 #[.pointer (some ⟨p, 0, none⟩)] w fun e w' => ∃ r : Int, e = .returned (.int .i64 r) ∧ (0 ≤ r ∧ r ≤ 255) ∧ Dr w0 w' p v bs (n + 1) :=
 (next_any p v bs n w h.src (by omega)).mono fun _ _ ⟨r, he, hr, hs, hg⟩ => ⟨r, he, hr, h.next hs hg⟩



end

theorem Own.madeN (w : World) (xs : List Int) (hl : xs.length ≤ 1000000) : Own (w.alloc (.cells (xs.map (Value.int .i64)).toArray 2)) w.heap.size (.slice (some ⟨w.heap.size, 0, none⟩) xs.length xs.length) xs :=
 ⟨by simp, .inr ⟨w.heap.size, xs.length, _, rfl, Nat.le_refl _, heap_alloc_new w _, Nat.le_refl _, by unfold maxLen; omega, by simp, by rw [List.take_of_length_le (by simp)]⟩⟩
theorem amongD {w0 w : World} {p n : Nat} {v : Value} {bs : List Int} (h : Dr w0 w p v bs n) (xs : List Int) (P : Int → Prop) (hP : ∀ x ∈ xs, P x) (hn : n ≤ 999999998) (hx : 0 < xs.length ∧ xs.length ≤ 1000000) {b : Nat} (hb : w.heap.size = b := by rfl) :
 Calls Tryd.prog 30 #[.pointer (some ⟨p, 0, none⟩), .slice (some ⟨b, 0, none⟩) xs.length xs.length] (w.alloc (.cells (xs.map (Value.int .i64)).toArray 2)) fun e w' =>
  ∃ r : Int, e = .returned (.int .i64 r) ∧ P r ∧ Dr w0 w' p v bs (n + 2) := by
 subst hb
 have ha := h.alloc (.cells (xs.map (Value.int .i64)).toArray 2)
 refine (among_any _ xs p v bs n w.heap.size _ ha.src hn (Own.madeN w xs hx.2) (Nat.lt_of_lt_of_le h.lt h.size) hx).mono ?_
 rintro e w' ⟨i, hi, he, hs, hg⟩
 exact ⟨_, he, hP _ (by rw [show xs.getD i 0 = xs[i] by simp [List.getD, hi]]; exact List.getElem_mem hi), ha.next hs hg⟩

end Go.Proofs.YtflaacndokbddaaDoor
