/-
  Contracts of functions: isPatch.
-/
import Derived.Test.YthglggjgjlmhlaaGa5
import Derived.Test.YthglggjgjlmhlaaGa4
namespace Go.Proofs.Ythglggjgjlmhlaa
open Go.RowKit
set_option linter.unusedSimpArgs false
set_option linter.unusedVariables false

def T_mGa60 : Tab := fun f => match T_isWellFormed f with
  | some k => some k
  | none => T_order f
theorem T_mGa60_ok : TabOk Try.prog T_mGa60 := fun f k h => by
  unfold T_mGa60 at h
  split at h
  · rename_i e; cases h; exact T_isWellFormed_ok f _ e
  · exact T_order_ok f k h
attribute [go_sem] T_mGa60 T0


def K_isPatch : Con := ⟨[.val ((.prod (.int .i64) (.prod (.row 24 (.row 2 (.int .i64))) (.prod (.row 140 (.prod (.int .i64) (.prod (.int .i64) (.prod (.int .i64) (.row 2 (.int .i64)))))) (.row 2 (.int .i64))))))], [⟨.bool, true⟩], fun _ => True, fun x => patchB x.1⟩
set_option maxRecDepth 100000 in
set_option maxHeartbeats 1000000 in
theorem isPatch_ok : PureT Try.prog 74 K_isPatch := by
  refine pure_of_body Try.func74 rfl ?_
  have hres : Try.f74.results.toList = [.tmp 2] := rfl
  rintro ⟨⟨(pi : Int), (ts : List (List Int)), (ns : List NodeD), (os : List Int)⟩, _⟩ hc hL
  simp only [K_isPatch, lensOk, PK.lenOk, glensOk, GP.lenOk, flensOk, GO.lenOk, olensOk, Ty.lenOk, Ty.flat, Bool.and_true, Bool.true_and, Bool.and_false, Bool.false_and, true_and, and_true, implies_true, forall_const] at hL
  obtain ⟨⟨lts, lts2⟩, ⟨lns, lns2⟩, los⟩ := hL
  simp only [K_isPatch, St.init, St.initG, Try.ntmps74, go_sem] 
  refine AWP_seq_k fun K1 hK1 => ?_
  refine AWP_region (G := G) (T := T_mGa60) T_mGa60_ok ?_
  simp only [go_sem]
  repeat (with_reducible refine And.intro (by first | omega | exact ⟨rfl, by omega, by omega, by omega⟩ | clear hK1; simp_all) ?_)
  refine hK1 _ ?_
  refine AWP_seq_k fun K2 hK2 => ?_
  refine AWP_draw (G := G) (T := T_mGa60) T_mGa60_ok mixed
    [[], [0], [0, 1], [0, 1, 2], [0, 1, 2, 3], [0, 1, 2, 3, 4], [0, 1, 2], [0, 1, 2, 6], [0, 1, 2, 6, 7], [0, 1, 2, 3, 4, 5, 6, 7, 8], [0, 1, 2, 3, 4, 5, 6, 7, 8, 9], [0, 1, 2, 3, 4, 5, 6, 7, 8, 9, 10]]
    [[], [], [], [], [], [], [212, 213, 214, 215, 216, 217, 218, 219, 220, 221, 222, 223, 224, 225, 226, 227], [212, 213, 214, 215, 216, 217, 218, 219, 220, 221, 222, 223, 224, 225, 226, 227], [212, 213, 214, 215, 216, 217, 218, 219, 220, 221, 222, 223, 224, 225, 226, 227], [], [], []]
    [[], [], [], [], [212, 213, 214, 215, 216, 217, 218, 219, 220, 221, 222, 223, 224, 225, 226, 227], [], [], [], [], [], [], []] (by kernel_rfl) (by kernel_rfl) (adrawR_ok (acc := []) ?_)
  simp (maxSteps := 2000000) only [go_sem]
  repeat' (first | (with_reducible refine And.intro (by first | exact chk_leaf (by kernel_rfl) | omega | exact ⟨rfl, by omega, by omega, by omega⟩ | clear hK1 hK2; simp_all) ?_) | (with_reducible refine gcase_dt (fun g1 => ?_) (fun g1 => ?_)) | (with_reducible refine gcase_df (fun g1 => ?_) (fun g1 => ?_)) | (with_reducible refine gcase_ndt (fun g1 => ?_) (fun g1 => ?_)) | (with_reducible refine gcase_ndf (fun g1 => ?_) (fun g1 => ?_)) | (with_reducible refine gcase_nt (fun g1 => ?_) (fun g1 => ?_)) | (with_reducible refine gcase_nf (fun g1 => ?_) (fun g1 => ?_)) | (with_reducible refine gcase_mk (fun g1 => ?_) (fun g1 => ?_)))
  all_goals
   refine hK2 _ ?_
   refine AWP_ret ?_
   simp only [hres, go_sem]
   first
     | exact finOk_mk (by rfl) (by decide)
     | refine ⟨?_, finOk_mk (by rfl) (by decide)⟩
       clear hK1 hK2; simp_all [patchB] <;> first | rfl | exact decide_eq_decide.2 (by omega)

theorem isPatch_fn : FnOk Try.prog 74 := fnOk_of Try.func74 rfl (by decide)

def T_isPatch : Tab := fun f => if f = 74 then some (.p K_isPatch) else T_mGa60 f
theorem T_isPatch_ok : TabOk Try.prog T_isPatch := fun f k h => by
  unfold T_isPatch at h
  split at h
  · rename_i e; cases h; subst e; exact ⟨isPatch_ok, isPatch_fn⟩
  · exact T_mGa60_ok f k h
attribute [go_sem] T_isPatch K_isPatch

end Go.Proofs.Ythglggjgjlmhlaa
