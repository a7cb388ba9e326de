/-
 Contracts: levels on lines; LineAt of both sides.
-/
import Derived.Test.YtflaacndokbddaaDoorNum
namespace Go.Proofs.YtflaacndokbddaaDoor
open Go.RowKit

theorem isCount_any (n : Int) (w : World) : Calls Tryd.prog 23 #[.int .i64 n] w fun e w' => e = .returned (.bool (inB n 0 4000)) ∧ w = w' := by
 go_enter Tryd.func23, Tryd.ntmps23
 go_wp2_with (go_at_call 33; refine (within_any _ _ _ _).mono ?_; rintro e w' ⟨rfl, rfl⟩)
 go_ret
 exact ⟨rfl, rfl⟩

def lineF (f t l a : Int) : Int := if a = l then t else f + (t - f) * a / l

theorem line_bd {f t l a : Int} (hf : 0 ≤ f ∧ f ≤ 65536) (ht : 0 ≤ t ∧ t ≤ 65536) (hl : 0 ≤ l ∧ l ≤ 4000) (ha : 0 ≤ a ∧ a ≤ l) :
 -262144000 ≤ (t - f) * a ∧ (t - f) * a ≤ 262144000 := by
 have := mul_abs (a := t - f) (b := a) (A := 65536) (B := 4000) (by omega) (by omega)
 omega





end Go.Proofs.YtflaacndokbddaaDoor
