/-
  The Walsh transform: as sums with signs, and by butterflies; that they agree for tables of 2, 4, 8 and 16 samples.
-/
import Derived.Test.YtfpbnhghceoleaaLib
namespace Go.Proofs.Ytfpbnhghceoleaa
open Go.RowKit

/-- Whether a number below 16 has an odd number of ones. -/
def oddOnes (n : Nat) : Bool := [false, true, true, false, true, false, false, true, true, false, false, true, false, true, true, false].getD n false

/-- The sum of the first elements, with their signs. -/
def wsum (xs : List Int) (k : Nat) : Nat → Int
  | 0 => 0
  | i + 1 => wrap32 (wsum xs k i + (if oddOnes (k &&& i) = true then -(xs.getD i 0) else xs.getD i 0))
def walTo (xs : List Int) (n : Nat) : List Int := (List.range n).map fun k => wsum xs k xs.length

/-- The first i butterflies of a width. -/
def bfly (h : Nat) : Nat → List Int → List Int
  | 0, l => l
  | i + 1, l => if i &&& h = 0 then ((bfly h i l).set i (wrap32 ((bfly h i l).getD i 0 + (bfly h i l).getD (i + h) 0))).set (i + h) (wrap32 ((bfly h i l).getD i 0 - (bfly h i l).getD (i + h) 0)) else bfly h i l
@[simp] theorem bfly_length (h i : Nat) (l : List Int) : (bfly h i l).length = l.length := by
  induction i with
  | zero => rfl
  | succ i ih => unfold bfly; split <;> simp [ih]
/-- The first s stages. -/
def stages (xs : List Int) : Nat → List Int
  | 0 => xs
  | s + 1 => bfly (2 ^ s) xs.length (stages xs s)
@[simp] theorem stages_length (xs : List Int) (s : Nat) : (stages xs s).length = xs.length := by
  induction s with
  | zero => rfl
  | succ s ih => simp [stages, ih]

theorem w_add (a b : Int) : wrap32 (wrap32 a + b) = wrap32 (a + b) := by unfold wrap32; omega
theorem w_add' (a b : Int) : wrap32 (a + wrap32 b) = wrap32 (a + b) := by unfold wrap32; omega
theorem w_sub (a b : Int) : wrap32 (wrap32 a - b) = wrap32 (a - b) := by unfold wrap32; omega
theorem w_sub' (a b : Int) : wrap32 (a - wrap32 b) = wrap32 (a - b) := by unfold wrap32; omega
theorem w_neg (a b : Int) : wrap32 (a + -wrap32 b) = wrap32 (a + -b) := by unfold wrap32; omega

theorem two_of (xs : List Int) (h : xs.length = 2) : ∃ a b, xs = [a, b] := by
  match xs, h with | [a, b], _ => exact ⟨a, b, rfl⟩
theorem four_of (xs : List Int) (h : xs.length = 4) : ∃ a b c d, xs = [a, b, c, d] := by
  match xs, h with | [a, b, c, d], _ => exact ⟨a, b, c, d, rfl⟩
theorem eight_of (xs : List Int) (h : xs.length = 8) : ∃ a b c d e f g i, xs = [a, b, c, d, e, f, g, i] := by
  match xs, h with | [a, b, c, d, e, f, g, i], _ => exact ⟨a, b, c, d, e, f, g, i, rfl⟩
theorem sixteen_of (xs : List Int) (h : xs.length = 16) : ∃ a b c d e f g i a' b' c' d' e' f' g' i', xs = [a, b, c, d, e, f, g, i, a', b', c', d', e', f', g', i'] := by
  match xs, h with | [a, b, c, d, e, f, g, i, a', b', c', d', e', f', g', i'], _ => exact ⟨a, b, c, d, e, f, g, i, a', b', c', d', e', f', g', i', rfl⟩

theorem wcong {a b : Int} (h : a = b) : wrap32 a = wrap32 b := by rw [h]
theorem walsh2 (xs : List Int) (h : xs.length = 2) : stages xs 1 = walTo xs xs.length := by
  obtain ⟨a, b, rfl⟩ := two_of xs h
  simp [stages, bfly, walTo, wsum, List.range_succ, oddOnes, w_add, w_add', w_sub, w_sub', w_neg]
  apply wcong; omega
theorem walsh4 (xs : List Int) (h : xs.length = 4) : stages xs 2 = walTo xs xs.length := by
  obtain ⟨a, b, c, d, rfl⟩ := four_of xs h
  simp [stages, bfly, walTo, wsum, List.range_succ, oddOnes, w_add, w_add', w_sub, w_sub', w_neg]
  refine ⟨?_, ?_, ?_, ?_⟩ <;> (apply wcong; omega)
set_option maxHeartbeats 2000000 in
theorem walsh8 (xs : List Int) (h : xs.length = 8) : stages xs 3 = walTo xs xs.length := by
  obtain ⟨a, b, c, d, e, f, g, i, rfl⟩ := eight_of xs h
  simp [stages, bfly, walTo, wsum, List.range_succ, oddOnes, w_add, w_add', w_sub, w_sub', w_neg]
  refine ⟨?_, ?_, ?_, ?_, ?_, ?_, ?_, ?_⟩ <;> (apply wcong; omega)

set_option maxRecDepth 100000 in
set_option maxHeartbeats 4000000 in
theorem walsh16 (xs : List Int) (h : xs.length = 16) : stages xs 4 = walTo xs xs.length := by
  obtain ⟨a, b, c, d, e, f, g, i, a', b', c', d', e', f', g', i', rfl⟩ := sixteen_of xs h
  simp [stages, bfly, walTo, wsum, List.range_succ, oddOnes, w_add, w_add', w_sub, w_sub', w_neg]
  refine ⟨?_, ?_, ?_, ?_, ?_, ?_, ?_, ?_, ?_, ?_, ?_, ?_, ?_, ?_, ?_, ?_⟩ <;> (apply wcong; omega)

end Go.Proofs.Ytfpbnhghceoleaa
