/-
  The logic of trees, first part: types of data, how cells in memory read as data, and when such a reading stays.
-/
import Derived.Laws.OwnMore
import Derived.Below
import Derived.BigQuiet
namespace Go.Proofs.Ythglggjgjlmhlaa
open Go.RowKit
set_option linter.unusedSimpArgs false
set_option linter.unusedVariables false

/-- Types of data: numbers, truth values, strings, slices (with the number of the element's type), pairs (structs). -/
inductive Ty where
  | int (k : IntKind)
  | bool
  | str
  | row (e : TypeId) (t : Ty)
  | prod (a b : Ty)
deriving DecidableEq
namespace Ty
@[reducible] def den : Ty → Type
  | .int _ => Int
  | .bool => Bool
  | .str => ByteArray
  | .row _ t => List t.den
  | .prod a b => a.den × b.den
def w : Ty → Nat
  | .prod a b => a.w + b.w
  | _ => 1
def dflt : (t : Ty) → t.den
  | .int _ => (0 : Int)
  | .bool => false
  | .str => ByteArray.empty
  | .row _ _ => []
  | .prod a b => (a.dflt, b.dflt)
end Ty
theorem Ty.w_pos (t : Ty) : 0 < t.w := by
  induction t with
  | prod a b ha hb => simp only [Ty.w]; omega
  | _ => simp [Ty.w]

/-- The cells' values us read as x, by way of blocks in S. -/
def Rd (S : Nat → Prop) (w : World) : (t : Ty) → List Value → t.den → Prop
  | .int k, us, x => us = [.int k x]
  | .bool, us, x => us = [.bool x]
  | .str, us, x => us = [.string x]
  | .prod a b, us, x => ∃ u1 u2, us = u1 ++ u2 ∧ Rd S w a u1 x.1 ∧ Rd S w b u2 x.2
  | .row _ t, us, xs => ∃ a cap, us = [.slice a xs.length cap] ∧ xs.length ≤ cap ∧ cap ≤ maxLen ∧
      (0 < xs.length → ∃ b o, a = some ⟨b, o, none⟩ ∧ S b ∧ ∀ i (h : i < xs.length), ∃ vs : List Value, vs.length = t.w ∧ (∀ j, j < t.w → w.cell? ⟨b, o + i * t.w + j, none⟩ = vs[j]?) ∧ Rd S w t vs xs[i])
theorem Rd.len {S : Nat → Prop} {w : World} {t : Ty} {us : List Value} {x : t.den} (h : Rd S w t us x) : us.length = t.w := by
  induction t generalizing us with
  | int k => simp only [Rd] at h; subst h; rfl
  | bool => simp only [Rd] at h; subst h; rfl
  | str => simp only [Rd] at h; subst h; rfl
  | row e t ih => obtain ⟨a, cap, rfl, _⟩ := h; rfl
  | prod a b ha hb =>
    obtain ⟨u1, u2, rfl, h1, h2⟩ := h
    simp [Ty.w, ha h1, hb h2]
theorem Rd.frame {S S' : Nat → Prop} {w w' : World} {t : Ty} {us : List Value} {x : t.den} (h : Rd S w t us x)
    (hS : ∀ b, b < w.heap.size → S b → S' b ∧ w'.heap[b]? = w.heap[b]?) : Rd S' w' t us x := by
  induction t generalizing us with
  | int k => exact h
  | bool => exact h
  | str => exact h
  | prod a b ha hb =>
    obtain ⟨u1, u2, rfl, h1, h2⟩ := h
    exact ⟨u1, u2, rfl, ha h1, hb h2⟩
  | row e t ih =>
    obtain ⟨a, cap, rfl, hl, hl2, h⟩ := h
    refine ⟨a, cap, rfl, hl, hl2, fun h0 => ?_⟩
    obtain ⟨b, o, rfl, hb, hc⟩ := h h0
    have hlt : b < w.heap.size := by
      obtain ⟨vs, hvl, hv, _⟩ := hc 0 h0
      have h1 := hv 0 t.w_pos
      have h2 : vs[0]? = some (vs[0]'(by have := t.w_pos; omega)) := List.getElem?_eq_getElem _
      rw [h2] at h1
      exact World.block_lt_of_cell? w _ h1
    obtain ⟨hb', hbl⟩ := hS b hlt hb
    refine ⟨b, o, rfl, hb', fun i hi => ?_⟩
    obtain ⟨vs, hvl, hv, hr⟩ := hc i hi
    exact ⟨vs, hvl, fun j hj => (World.cell?_of_block (w := w) (a := ⟨b, o + i * t.w + j, none⟩) hbl).trans (hv j hj), ih hr⟩

end Go.Proofs.Ythglggjgjlmhlaa
