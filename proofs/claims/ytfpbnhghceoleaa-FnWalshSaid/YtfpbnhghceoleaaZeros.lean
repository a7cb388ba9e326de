/-
  Contract: zeros.
-/
import Derived.Test.YtfpbnhghceoleaaPick
namespace Go.Proofs.Ytfpbnhghceoleaa
open Go.RowKit

theorem zeros_any (n : Nat) (w : World) (hn : n ≤ 1048576) :
    Calls Try.prog 113 #[.int .i64 n] w fun e w' => ∃ v', e = .returned v' ∧ Own w' w.heap.size v' (List.replicate n 0) ∧ Below w.heap.size w w' := by
  obtain ⟨i0, hi, hz0, hz1, hz2⟩ := info_parts infoI
  go_enter Try.func113, Try.ntmps113
  go_wp2_with (at_make; refine wpList_make_full _ rfl (.tmp 3) (.tmp 3) 30 rfl w.heap.size 2 i0 (.int .i64 0) 1 Try.underlying30 hi hz0 hz1 .i64 .i64 _ _ n rfl rfl rfl rfl (by rw [hz2]; omega) (by unfold maxLen; omega) (Nat.le_refl _) ?_; intro w1 hown hgrow)
  have hO : Own w1 w.heap.size (.slice (some ⟨w.heap.size, 0, none⟩) n n) (List.replicate n 0) := by
    unfold Own; have := hown; simp only [Value.cells, Nat.mul_one] at this; rw [toList_madeCells_one] at this; simpa using this
  have hB : Below w.heap.size w w1 := (Below.refl _ _).grown hgrow (Nat.le_refl _) (fun k hk => by cases hk)
  clear hown hgrow hi hz0 hz1 hz2
  go_ret
  exact ⟨_, rfl, hO, hB⟩

end Go.Proofs.Ytfpbnhghceoleaa
