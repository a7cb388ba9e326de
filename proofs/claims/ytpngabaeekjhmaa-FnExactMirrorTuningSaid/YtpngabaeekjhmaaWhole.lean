/-
  Contracts: whole and l15One.
-/
import Derived.Test.YtpngabaeekjhmaaFracOp
import Derived.Laws.StructEq
namespace Go.Proofs.Ytpngabaeekjhmaa
open Go.RowKit

theorem stoodF1 : Try.prog.stoodInHeld 29 = false := by kernel_rfl
theorem eqF1Run (d : Nat) (xs ys : Array Value) (w : World) : (Op.equalIn (d + 1) 29 (.agg xs) (.agg ys)).run Try.prog w = (Op.eqFields d xs ys (Try.prog.fieldsOf 29).toList).run Try.prog w :=
  run_equalIn_struct w d 29 xs ys (by kernel_rfl) stoodF1

theorem whole_any (n : Int) (w : World) : Calls Try.prog 50 #[.int .i64 n] w fun e w' => e = .returned (.agg #[.int .i64 n, .int .i64 1]) ∧ Below w.heap.size w w' := by
  have B0 : Below w.heap.size w w := Below.refl _ _
  have HBB := Lib.hid B0
  clear B0
  go_enter Try.func50, Try.ntmps50
  go_wp2
  refine bodyPost_ret (v := .agg #[.int .i64 n, .int .i64 1]) (by simp [results, Try.results50, go_sem]) rfl ⟨rfl, ?_⟩
  repeat (first | exact HBB.out | refine Below.alloc ?_ (by simp <;> omega) _ | refine Below.setCell ?_ (by simp <;> omega) _ | refine below_drewN ?_ _)
theorem l15One_any (w : World) : Calls Try.prog 48 #[] w fun e w' => e = .returned (.agg #[.int .i64 1, .int .i64 1]) ∧ Below w.heap.size w w' := by
  have B0 : Below w.heap.size w w := Below.refl _ _
  have HBB := Lib.hid B0
  clear B0
  go_enter Try.func48, Try.ntmps48
  go_wp2
  refine bodyPost_ret (v := .agg #[.int .i64 1, .int .i64 1]) (by simp [results, Try.results48, go_sem]) rfl ⟨rfl, ?_⟩
  repeat (first | exact HBB.out | refine Below.alloc ?_ (by simp <;> omega) _ | refine Below.setCell ?_ (by simp <;> omega) _ | refine below_drewN ?_ _)

end Go.Proofs.Ytpngabaeekjhmaa
