/-
  Equality of tunings, of the laws.
-/
import Derived.Test.YtpngabaeekjhmaaTun
namespace Go.Proofs.Ytpngabaeekjhmaa
open Go.RowKit

theorem eqTuning_same (bn bd on od : Int) (v1 v2 : Value) (ps : List (Int × Int)) (w : World) (h1 : Pairs w v1 ps) (h2 : Pairs w v2 ps) :
    Calls Try.prog 11 #[tunV bn bd on od v1, tunV bn bd on od v2] w fun e w' => e = .returned (.bool true) ∧ Below w.heap.size w w' := by
  have b0 : Below w.heap.size w ((w.alloc (.cells #[.int .i64 bn, .int .i64 bd, .int .i64 on, .int .i64 od, v1] 32)).alloc (.cells #[.int .i64 bn, .int .i64 bd, .int .i64 on, .int .i64 od, v2] 32)) := by
    repeat (first | exact Below.refl _ _ | refine Below.alloc ?_ (by simp <;> omega) _)
  go_enter Try.func11, Try.ntmps11
  go_wp2_with fail
  refine (eqFrac_same bn bd _).mono ?_
  rintro e w1 ⟨rfl, b1⟩
  have kcw1wheapsize_0 : w1.cell? ⟨w.heap.size, 0, none⟩ = some (.int .i64 bn) := (b1.cell (p := ⟨w.heap.size, 0, none⟩) (by simp <;> omega)).trans (by simp [go_sem])
  have kfw1wheapsize_0 : w1.frozen? ⟨w.heap.size, 0, none⟩ = false := (b1.frozen (p := ⟨w.heap.size, 0, none⟩) (by simp <;> omega)).trans (by simp [go_sem])
  have kcw1wheapsize_1 : w1.cell? ⟨w.heap.size, 1, none⟩ = some (.int .i64 bd) := (b1.cell (p := ⟨w.heap.size, 1, none⟩) (by simp <;> omega)).trans (by simp [go_sem])
  have kfw1wheapsize_1 : w1.frozen? ⟨w.heap.size, 1, none⟩ = false := (b1.frozen (p := ⟨w.heap.size, 1, none⟩) (by simp <;> omega)).trans (by simp [go_sem])
  have kcw1wheapsize_2 : w1.cell? ⟨w.heap.size, 2, none⟩ = some (.int .i64 on) := (b1.cell (p := ⟨w.heap.size, 2, none⟩) (by simp <;> omega)).trans (by simp [go_sem])
  have kfw1wheapsize_2 : w1.frozen? ⟨w.heap.size, 2, none⟩ = false := (b1.frozen (p := ⟨w.heap.size, 2, none⟩) (by simp <;> omega)).trans (by simp [go_sem])
  have kcw1wheapsize_3 : w1.cell? ⟨w.heap.size, 3, none⟩ = some (.int .i64 od) := (b1.cell (p := ⟨w.heap.size, 3, none⟩) (by simp <;> omega)).trans (by simp [go_sem])
  have kfw1wheapsize_3 : w1.frozen? ⟨w.heap.size, 3, none⟩ = false := (b1.frozen (p := ⟨w.heap.size, 3, none⟩) (by simp <;> omega)).trans (by simp [go_sem])
  have kcw1wheapsize_4 : w1.cell? ⟨w.heap.size, 4, none⟩ = some (v1) := (b1.cell (p := ⟨w.heap.size, 4, none⟩) (by simp <;> omega)).trans (by simp [go_sem])
  have kfw1wheapsize_4 : w1.frozen? ⟨w.heap.size, 4, none⟩ = false := (b1.frozen (p := ⟨w.heap.size, 4, none⟩) (by simp <;> omega)).trans (by simp [go_sem])
  have kcw1wheapsize1_0 : w1.cell? ⟨w.heap.size + 1, 0, none⟩ = some (.int .i64 bn) := (b1.cell (p := ⟨w.heap.size + 1, 0, none⟩) (by simp <;> omega)).trans (by simp [go_sem])
  have kfw1wheapsize1_0 : w1.frozen? ⟨w.heap.size + 1, 0, none⟩ = false := (b1.frozen (p := ⟨w.heap.size + 1, 0, none⟩) (by simp <;> omega)).trans (by simp [go_sem])
  have kcw1wheapsize1_1 : w1.cell? ⟨w.heap.size + 1, 1, none⟩ = some (.int .i64 bd) := (b1.cell (p := ⟨w.heap.size + 1, 1, none⟩) (by simp <;> omega)).trans (by simp [go_sem])
  have kfw1wheapsize1_1 : w1.frozen? ⟨w.heap.size + 1, 1, none⟩ = false := (b1.frozen (p := ⟨w.heap.size + 1, 1, none⟩) (by simp <;> omega)).trans (by simp [go_sem])
  have kcw1wheapsize1_2 : w1.cell? ⟨w.heap.size + 1, 2, none⟩ = some (.int .i64 on) := (b1.cell (p := ⟨w.heap.size + 1, 2, none⟩) (by simp <;> omega)).trans (by simp [go_sem])
  have kfw1wheapsize1_2 : w1.frozen? ⟨w.heap.size + 1, 2, none⟩ = false := (b1.frozen (p := ⟨w.heap.size + 1, 2, none⟩) (by simp <;> omega)).trans (by simp [go_sem])
  have kcw1wheapsize1_3 : w1.cell? ⟨w.heap.size + 1, 3, none⟩ = some (.int .i64 od) := (b1.cell (p := ⟨w.heap.size + 1, 3, none⟩) (by simp <;> omega)).trans (by simp [go_sem])
  have kfw1wheapsize1_3 : w1.frozen? ⟨w.heap.size + 1, 3, none⟩ = false := (b1.frozen (p := ⟨w.heap.size + 1, 3, none⟩) (by simp <;> omega)).trans (by simp [go_sem])
  have kcw1wheapsize1_4 : w1.cell? ⟨w.heap.size + 1, 4, none⟩ = some (v2) := (b1.cell (p := ⟨w.heap.size + 1, 4, none⟩) (by simp <;> omega)).trans (by simp [go_sem])
  have kfw1wheapsize1_4 : w1.frozen? ⟨w.heap.size + 1, 4, none⟩ = false := (b1.frozen (p := ⟨w.heap.size + 1, 4, none⟩) (by simp <;> omega)).trans (by simp [go_sem])
  have hz1 : w.heap.size + 1 < w1.heap.size := by have := b1.size; simp at this; omega
  have c1 := b0.trans (b1.mono b0.size)
  clear b1
  go_wp2_with fail
  refine (eqFrac_same on od _).mono ?_
  rintro e w2 ⟨rfl, b2⟩
  have k2 := (b2.cell (p := ⟨w.heap.size, 4, none⟩) (by simp; omega)).trans kcw1wheapsize_4
  have k3 := (b2.cell (p := ⟨w.heap.size + 1, 4, none⟩) (by simp; omega)).trans kcw1wheapsize1_4
  have c2 := c1.trans (b2.mono c1.size)
  clear b2
  go_wp2_with fail
  refine (eqFracS_same v1 v2 ps _ (h1.below c2) (h2.below c2)).mono ?_
  rintro e w3 ⟨rfl, b3⟩
  have c3 := c2.trans (b3.mono c2.size)
  clear b3
  go_wp2
  go_ret
  exact ⟨rfl, c3⟩

end Go.Proofs.Ytpngabaeekjhmaa
