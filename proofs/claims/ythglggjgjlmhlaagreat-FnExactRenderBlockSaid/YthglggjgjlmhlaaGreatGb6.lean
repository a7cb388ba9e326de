/-
  Contracts of functions: l07Ok, l12Ask.
-/
import Derived.Test.YthglggjgjlmhlaaGreatGb4
import Derived.Test.YthglggjgjlmhlaaGreatGb5
namespace Go.Proofs.YthglggjgjlmhlaaGreat
open Go.RowKit
set_option linter.unusedSimpArgs false
set_option linter.unusedVariables false

def T_mGb60 : Tab := fun f => match T_l07Formed f with
  | some k => some k
  | none => T_l07Order f
theorem T_mGb60_ok : TabOk Tryz.prog T_mGb60 := fun f k h => by
  unfold T_mGb60 at h
  split at h
  · rename_i e; cases h; exact T_l07Formed_ok f _ e
  · exact T_l07Order_ok f k h
attribute [go_sem] T_mGb60 T0


def K_l07Ok : Con := ⟨[.ptr (.prod (.int .i64) (.prod (.row 24 (.row 2 (.int .i64))) (.prod (.row 75 (.prod (.int .i64) (.prod (.int .i64) (.prod (.int .i64) (.row 2 (.int .i64)))))) (.row 2 (.int .i64)))))], [⟨.bool, true⟩], fun _ => True, fun x => patchB x.1⟩
set_option maxRecDepth 100000 in
set_option maxHeartbeats 1000000 in
theorem l07Ok_ok : PureT Tryz.prog 40 K_l07Ok := by
  refine pure_of_body Tryz.func40 rfl ?_
  have hres : Tryz.f40.results.toList = [.tmp 2] := rfl
  rintro ⟨⟨(pi : Int), (ts : List (List Int)), (ns : List NodeD), (os : List Int)⟩, _⟩ hc hL
  simp only [K_l07Ok, lensOk, PK.lenOk, glensOk, GP.lenOk, flensOk, GO.lenOk, olensOk, Ty.lenOk, Ty.flat, Bool.and_true, Bool.true_and, Bool.and_false, Bool.false_and, true_and, and_true, implies_true, forall_const] at hL
  obtain ⟨⟨lts, lts2⟩, ⟨lns, lns2⟩, los⟩ := hL
  simp only [K_l07Ok, St.init, St.initG, Tryz.ntmps40, go_sem] 
  refine AWP_seq_k fun K1 hK1 => ?_
  refine AWP_region (G := G) (T := T_mGb60) T_mGb60_ok ?_
  simp only [go_sem]
  repeat (with_reducible refine And.intro (by first | omega | exact ⟨rfl, by omega, by omega, by omega⟩ | assumption) ?_)
  refine hK1 _ ?_
  refine AWP_seq_k fun K2 hK2 => ?_
  refine AWP_seq_k fun K3 hK3 => ?_
  refine AWP_region (G := G) (T := T_mGb60) T_mGb60_ok ?_
  simp only [go_sem]
  repeat (with_reducible refine And.intro (by first | omega | exact ⟨rfl, by omega, by omega, by omega⟩ | assumption) ?_)
  refine hK3 _ ?_
  refine AWP_cond rfl ?_ ?_
  ·
   intro c0
   try simp only [decide_eq_true_eq, decide_eq_false_iff_not, Bool.not_eq_true', Bool.not_eq_false', ne_eq, Int.not_lt, Int.not_le] at c0
   refine AWP_seq_k fun K4 hK4 => ?_
   refine AWP_region (G := G) (T := T_mGb60) T_mGb60_ok ?_
   simp only [go_sem]
   repeat (with_reducible refine And.intro (by first | omega | exact ⟨rfl, by omega, by omega, by omega⟩ | assumption) ?_)
   refine hK4 _ ?_
   refine AWP_ret ?_
   simp only [hres, go_sem]
   first
     | exact finOk_mk (by rfl) (by decide)
     | refine ⟨?_, finOk_mk (by rfl) (by decide)⟩
       clear hK1 hK2 hK3 hK4; unfold patchB; simp_all [ordR] <;> (split <;> simp_all)
  ·
   intro c0
   try simp only [decide_eq_true_eq, decide_eq_false_iff_not, Bool.not_eq_true', Bool.not_eq_false', ne_eq, Int.not_lt, Int.not_le] at c0
   refine AWP_skip ?_
   simp only [go_sem]
   refine hK2 _ ?_
   refine AWP_seq_k fun K5 hK5 => ?_
   refine AWP_region (G := G) (T := T_mGb60) T_mGb60_ok ?_
   simp (maxSteps := 2000000) only [go_sem]
   repeat (with_reducible refine And.intro (by first | omega | exact ⟨rfl, by omega, by omega, by omega⟩ | assumption) ?_)
   refine hK5 _ ?_
   refine AWP_seq_k fun K6 hK6 => ?_
   refine AWP_region (G := G) (T := T_mGb60) T_mGb60_ok ?_
   simp only [go_sem]
   repeat (with_reducible refine And.intro (by first | omega | exact ⟨rfl, by omega, by omega, by omega⟩ | assumption) ?_)
   refine hK6 _ ?_
   refine AWP_ret ?_
   simp only [hres, go_sem]
   first
     | exact finOk_mk (by rfl) (by decide)
     | refine ⟨?_, finOk_mk (by rfl) (by decide)⟩
       clear hK1 hK2 hK3 hK5 hK6; unfold patchB; simp_all [ordR] <;> (split <;> simp_all)

theorem l07Ok_fn : FnOk Tryz.prog 40 := fnOk_of Tryz.func40 rfl (by decide)

def T_l07Ok : Tab := fun f => if f = 40 then some (.p K_l07Ok) else T_mGb60 f
theorem T_l07Ok_ok : TabOk Tryz.prog T_l07Ok := fun f k h => by
  unfold T_l07Ok at h
  split at h
  · rename_i e; cases h; subst e; exact ⟨l07Ok_ok, l07Ok_fn⟩
  · exact T_mGb60_ok f k h
attribute [go_sem] T_l07Ok K_l07Ok


def T_l12Ask : Tab := T_l07Ok
theorem T_l12Ask_ok : TabOk Tryz.prog T_l12Ask := T_l07Ok_ok
attribute [go_sem] T_l12Ask
end Go.Proofs.YthglggjgjlmhlaaGreat
