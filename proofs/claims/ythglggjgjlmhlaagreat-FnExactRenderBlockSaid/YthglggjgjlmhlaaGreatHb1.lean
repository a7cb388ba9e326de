/-
  Contracts of functions: l00Own, l07Own.
-/
import Derived.Test.YthglggjgjlmhlaaGreatGa1
import Derived.Test.YthglggjgjlmhlaaGreatPe
namespace Go.Proofs.YthglggjgjlmhlaaGreat
open Go.RowKit
set_option linter.unusedSimpArgs false
set_option linter.unusedVariables false

def K_l00Own : Con := ⟨[.val ((.row 2 (.int .i64)))], [⟨(.row 2 (.int .i64)), true⟩], fun x => x.1.length ≤ 1099511627776, fun x => x.1⟩
set_option maxRecDepth 100000 in
set_option maxHeartbeats 1000000 in
theorem l00Own_ok : PureT Tryz.prog 43 K_l00Own := by
  refine pure_of_body Tryz.func43 rfl ?_
  have hres : Tryz.f43.results.toList = [.tmp 2] := rfl
  rintro ⟨(xs : List Int), _⟩ hc hL
  simp only [K_l00Own, lensOk, PK.lenOk, glensOk, GP.lenOk, flensOk, GO.lenOk, olensOk, Ty.lenOk, Ty.flat, Bool.and_true, Bool.true_and, Bool.and_false, Bool.false_and, true_and, and_true, implies_true, forall_const] at hL
  simp only [K_l00Own, St.init, St.initG, Tryz.ntmps43, go_sem] 
  have hx : xs.length ≤ 1099511627776 := hc
  refine AWP_seq_k fun K1 hK1 => ?_
  refine AWP_region (G := G) (T := T_kinds) T_kinds_ok ?_
  simp only [go_sem]
  refine hK1 _ ?_
  refine AWP_seq_k fun K2 hK2 => ?_
  refine AWP_region (G := G) (T := T_kinds) T_kinds_ok ?_
  simp only [go_sem]
  repeat (with_reducible refine And.intro (by first | omega | exact ⟨rfl, by omega, by omega, by omega⟩) ?_)
  refine hK2 _ ?_
  refine AWP_ret ?_
  simp only [hres, go_sem]
  first
    | exact finOk_mk (by rfl) (by decide)
    | refine ⟨?_, finOk_mk (by rfl) (by decide)⟩
      rfl

theorem l00Own_fn : FnOk Tryz.prog 43 := fnOk_of Tryz.func43 rfl (by decide)

def T_l00Own : Tab := fun f => if f = 43 then some (.p K_l00Own) else T_kinds f
theorem T_l00Own_ok : TabOk Tryz.prog T_l00Own := fun f k h => by
  unfold T_l00Own at h
  split at h
  · rename_i e; cases h; subst e; exact ⟨l00Own_ok, l00Own_fn⟩
  · exact T_kinds_ok f k h
attribute [go_sem] T_l00Own K_l00Own


def T_l07Own : Tab := T_l00Own
theorem T_l07Own_ok : TabOk Tryz.prog T_l07Own := T_l00Own_ok
attribute [go_sem] T_l07Own
end Go.Proofs.YthglggjgjlmhlaaGreat
