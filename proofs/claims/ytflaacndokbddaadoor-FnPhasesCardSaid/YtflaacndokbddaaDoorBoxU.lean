/-
 A struct in memory that may be written: its cells, from its block's head on.
-/
import Derived.Test.YtflaacndokbddaaDoorMem
namespace Go.Proofs.YtflaacndokbddaaDoor
open Go.RowKit

def BoxU (w : World) (b : Nat) (vs : List Value) : Prop := Box w b vs ∧ ∀ i, w.frozen? ⟨b, i, none⟩ = false
theorem BoxU.below {w w' : World} {b : Nat} {vs : List Value} (h : BoxU w b vs) (hb : Below w.heap.size w w') : BoxU w' b vs :=
 ⟨h.1.below hb, fun i => (hb.frozen (p := ⟨b, i, none⟩) h.1.1).trans (h.2 i)⟩
theorem BoxU.newAt (w : World) (vs : List Value) (t : TypeId) {n : Nat} (hn : w.heap.size = n) : BoxU (w.alloc (.cells vs.toArray t)) n vs := by
 subst hn; exact ⟨Box.new w vs t, fun i => by simp [go_sem]⟩
theorem BoxU.set {w : World} {b : Nat} {vs : List Value} (h : BoxU w b vs) (j : Nat) (x : Value) (hj : j < vs.length) : BoxU (w.setCell ⟨b, j, none⟩ x) b (vs.set j x) := by
 have hc := h.1.2 j (vs[j]) (by simp [hj])
 refine ⟨⟨by simpa using h.1.1, fun i v hv => ?_⟩, fun i => by simpa [go_sem] using h.2 i⟩
 by_cases e : i = j
 · subst e
   have : v = x := by simpa [hj] using hv.symm
   subst this
   simp [go_sem, hc]
 · have : vs[i]? = some v := by rw [List.getElem?_set_ne (by omega)] at hv; exact hv
   have := h.1.2 i v this
   simp [go_sem, e, this]
theorem BoxU.other {w : World} {b b' j : Nat} {vs : List Value} (h : BoxU w b vs) (x : Value) (hj : b' ≠ b) : BoxU (w.setCell ⟨b', j, none⟩ x) b vs :=
 ⟨⟨by simpa using h.1.1, fun i v hv => by have := h.1.2 i v hv; simp [go_sem, this]⟩, fun i => by simpa [go_sem] using h.2 i⟩

end Go.Proofs.YtflaacndokbddaaDoor
