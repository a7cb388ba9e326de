/-
  The law FnExactValidTable, walked.
-/
import Derived.Test.YtbahhkpfbmlcjaaSeq2
namespace Go.Proofs.Ytbahhkpfbmlcjaa
open Go.RowKit

theorem law_FnExactValidTable (a : Option Addr) (len cap : Nat) (zs : List Int) (w : World) (hrow : IsRow .i64 w a len cap zs) :
    Calls Try.prog 5 #[.slice a len cap] w fun e w' => e = .returned (.bool true) ∧ Below w.heap.size w w' := by
  have hx := Nums.of_row hrow
  have hlen : (zs.take len).length = len := by
    obtain ⟨_, a', cap', hv, _⟩ := hx; simp at hv; simp; omega
  have hl := hx.1
  generalize zs.take len = xs at *
  clear hrow
  by_cases hb : 1048576 < len
  · go_enter Try.func5, Try.ntmps5
    go_wp2
    go_ret
    exact ⟨rfl, Below.refl _ _⟩
  go_enter Try.func5, Try.ntmps5
  go_wp2_with fail
  refine (toInt64S_any _ xs _ hx (by omega)).mono ?_; rintro e w1 ⟨v1, rfl, o1, b1⟩
  go_wp2_with fail
  refine (specValidTable_any _ xs _ o1.ints).mono ?_; rintro e w' ⟨rfl, rfl⟩
  go_wp2_with fail
  refine (toInt64S_any _ xs _ (hx.below b1) (by omega)).mono ?_; rintro e w2 ⟨v2, rfl, o2, b2⟩
  go_wp2_with fail
  refine (implValidTable_any _ xs _ o2.ints).mono ?_; rintro e w' ⟨rfl, rfl⟩
  have b12 := b1.trans (b2.mono b1.size)
  go_wp2_with fail
  refine (toInt64S_any _ xs _ (hx.below b12) (by omega)).mono ?_; rintro e w3 ⟨v3, rfl, o3, b3⟩
  go_wp2_with fail
  refine (eqInt64S_any _ _ xs xs _ (o2.below b3).ints o3.ints).mono ?_; rintro e w' ⟨rfl, k, rfl⟩
  have b13 := b12.trans (b3.mono b12.size)
  go_wp2_with fail
  go_ret
  exact ⟨rfl, below_drewN b13 _⟩

end Go.Proofs.Ytbahhkpfbmlcjaa
