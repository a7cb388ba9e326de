/-
  Contracts of functions: l08In, inputs, outputs.
-/
import Derived.Test.YthglggjgjlmhlaaGreatHr1
namespace Go.Proofs.YthglggjgjlmhlaaGreat
open Go.RowKit
set_option linter.unusedSimpArgs false
set_option linter.unusedVariables false

def K_l08In : Con := ⟨[.ptr (.prod (.int .i64) (.prod (.int .i64) (.prod (.int .i64) (.row 2 (.int .i64))))), .val ((.row 2 (.int .i64))), .val ((.row 2 (.int .i64)))], [⟨(.row 2 (.int .i64)), true⟩], fun x => insC x.1 x.2.1 x.2.2.1, fun x => insV x.1 x.2.1 x.2.2.1⟩
set_option maxRecDepth 100000 in
set_option maxHeartbeats 1000000 in
theorem l08In_ok : PureT Tryz.prog 69 K_l08In := by
  refine pure_of_body Tryz.func69 rfl ?_
  have hres : Tryz.f69.results.toList = [.tmp 6] := rfl
  rintro ⟨⟨(kd : Int), (a : Int), (bb : Int), (fr : List Int)⟩, (ff : List Int), (vv : List Int), _⟩ hc hL
  simp only [K_l08In, lensOk, PK.lenOk, glensOk, GP.lenOk, flensOk, GO.lenOk, olensOk, Ty.lenOk, Ty.flat, Bool.and_true, Bool.true_and, Bool.and_false, Bool.false_and, true_and, and_true, implies_true, forall_const] at hL
  simp only [K_l08In, St.init, St.initG, Tryz.ntmps69, go_sem] 
  obtain ⟨h1, h2, h3⟩ := (show insC (kd, a, bb, fr) ff vv from hc)
  have h1 : kd = 1 → 0 ≤ a ∧ a < ff.length := h1
  have h2 : idxs vv.length fr = true := h2
  have h3 : fr.length ≤ 1000 := h3
  refine AWP_seq_k fun K1 hK1 => ?_
  refine AWP_region (G := G) (T := T_l07Map) T_l07Map_ok ?_
  simp only [go_sem]
  refine hK1 _ ?_
  refine AWP_seq_k fun K2 hK2 => ?_
  refine AWP_seq_k fun K3 hK3 => ?_
  refine AWP_region (G := G) (T := T_l07Map) T_l07Map_ok ?_
  simp (maxSteps := 2000000) only [go_sem]
  repeat (with_reducible refine And.intro (by first | omega | exact ⟨rfl, by omega, by omega, by omega⟩) ?_)
  refine hK3 _ ?_
  refine AWP_cond rfl ?_ ?_
  ·
   intro c0
   try simp only [decide_eq_true_eq, decide_eq_false_iff_not, Bool.not_eq_true', Bool.not_eq_false', ne_eq, Int.not_lt, Int.not_le] at c0
   refine AWP_seq_k fun K4 hK4 => ?_
   refine AWP_region (G := G) (T := T_l07Map) T_l07Map_ok ?_
   simp (maxSteps := 2000000) only [List.nodup_nil, go_sem]
   repeat (with_reducible refine And.intro (by first | omega | exact ⟨rfl, by omega, by omega, by omega⟩) ?_)
   refine hK4 _ ?_
   refine AWP_ret ?_
   simp only [hres, go_sem]
   first
     | exact finOk_mk (by rfl) (by decide)
     | refine ⟨?_, finOk_mk (by rfl) (by decide)⟩
       first | exact (insV_t c0).symm | exact (insV_f c0).symm
  ·
   intro c0
   try simp only [decide_eq_true_eq, decide_eq_false_iff_not, Bool.not_eq_true', Bool.not_eq_false', ne_eq, Int.not_lt, Int.not_le] at c0
   refine AWP_skip ?_
   simp only [go_sem]
   refine hK2 _ ?_
   refine AWP_seq_k fun K5 hK5 => ?_
   refine AWP_region (G := G) (T := T_l07Map) T_l07Map_ok ?_
   simp (maxSteps := 2000000) only [go_sem]
   repeat (with_reducible refine And.intro (by first | omega | exact ⟨rfl, by omega, by omega, by omega⟩ | exact ⟨h3, h2⟩) ?_)
   refine hK5 _ ?_
   refine AWP_ret ?_
   simp only [hres, go_sem]
   first
     | exact finOk_mk (by rfl) (by decide)
     | refine ⟨?_, finOk_mk (by rfl) (by decide)⟩
       first | exact (insV_t c0).symm | exact (insV_f c0).symm

theorem l08In_fn : FnOk Tryz.prog 69 := fnOk_of Tryz.func69 rfl (by decide)

def T_l08In : Tab := fun f => if f = 69 then some (.p K_l08In) else T_l07Map f
theorem T_l08In_ok : TabOk Tryz.prog T_l08In := fun f k h => by
  unfold T_l08In at h
  split at h
  · rename_i e; cases h; subst e; exact ⟨l08In_ok, l08In_fn⟩
  · exact T_l07Map_ok f k h
attribute [go_sem] T_l08In K_l08In


def K_inputs : Con := ⟨[.ptr (.prod (.prod (.int .i64) (.prod (.row 24 (.row 2 (.int .i64))) (.prod (.row 75 (.prod (.int .i64) (.prod (.int .i64) (.prod (.int .i64) (.row 2 (.int .i64)))))) (.row 2 (.int .i64))))) (.prod (.row 2 (.int .i64)) (.prod (.row 2 (.int .i64)) (.row 24 (.row 2 (.int .i64)))))), .val ((.prod (.int .i64) (.prod (.int .i64) (.prod (.int .i64) (.row 2 (.int .i64)))))), .val ((.row 2 (.int .i64)))], [⟨(.row 2 (.int .i64)), true⟩], fun x => insC x.2.1 x.2.2.1 x.1.2.2.1, fun x => insV x.2.1 x.2.2.1 x.1.2.2.1⟩
set_option maxRecDepth 100000 in
set_option maxHeartbeats 1000000 in
theorem inputs_ok : PureT Tryz.prog 79 K_inputs := by
  refine pure_of_body Tryz.func79 rfl ?_
  have hres : Tryz.f79.results.toList = [.tmp 6] := rfl
  rintro ⟨⟨⟨(pi : Int), (ts : List (List Int)), (ns : List NodeD), (os : List Int)⟩, (oo : List Int), (vv : List Int), (cc : List (List Int))⟩, ⟨(kd : Int), (a : Int), (bb : Int), (fr : List Int)⟩, (ff : List Int), _⟩ hc hL
  simp only [K_inputs, lensOk, PK.lenOk, glensOk, GP.lenOk, flensOk, GO.lenOk, olensOk, Ty.lenOk, Ty.flat, Bool.and_true, Bool.true_and, Bool.and_false, Bool.false_and, true_and, and_true, implies_true, forall_const] at hL
  simp only [K_inputs, St.init, St.initG, Tryz.ntmps79, go_sem] 
  obtain ⟨h1, h2, h3⟩ := (show insC (kd, a, bb, fr) ff vv from hc)
  have h1 : kd = 1 → 0 ≤ a ∧ a < ff.length := h1
  have h2 : idxs vv.length fr = true := h2
  have h3 : fr.length ≤ 1000 := h3
  refine AWP_seq_k fun K1 hK1 => ?_
  refine AWP_region (G := G) (T := T_l08In) T_l08In_ok ?_
  simp only [go_sem]
  refine hK1 _ ?_
  refine AWP_seq_k fun K2 hK2 => ?_
  refine AWP_seq_k fun K3 hK3 => ?_
  refine AWP_region (G := G) (T := T_l08In) T_l08In_ok ?_
  simp only [go_sem]
  repeat (with_reducible refine And.intro (by first | omega | exact ⟨rfl, by omega, by omega, by omega⟩) ?_)
  refine hK3 _ ?_
  refine AWP_cond rfl ?_ ?_
  ·
   intro c0
   try simp only [decide_eq_true_eq, decide_eq_false_iff_not, Bool.not_eq_true', Bool.not_eq_false', ne_eq, Int.not_lt, Int.not_le] at c0
   refine AWP_seq_k fun K4 hK4 => ?_
   refine AWP_region (G := G) (T := T_l08In) T_l08In_ok ?_
   simp (maxSteps := 2000000) only [List.nodup_nil, go_sem]
   repeat (with_reducible refine And.intro (by first | omega | exact ⟨rfl, by omega, by omega, by omega⟩) ?_)
   refine hK4 _ ?_
   refine AWP_ret ?_
   simp only [hres, go_sem]
   first
     | exact finOk_mk (by rfl) (by decide)
     | refine ⟨?_, finOk_mk (by rfl) (by decide)⟩
       first | exact (insV_t c0).symm | exact (insV_f c0).symm
  ·
   intro c0
   try simp only [decide_eq_true_eq, decide_eq_false_iff_not, Bool.not_eq_true', Bool.not_eq_false', ne_eq, Int.not_lt, Int.not_le] at c0
   refine AWP_skip ?_
   simp only [go_sem]
   refine hK2 _ ?_
   refine AWP_seq_k fun K5 hK5 => ?_
   refine AWP_draw (G := G) (T := T_l08In) T_l08In_ok mixed
     [[], [0], [], [2], [2, 3], [2, 3, 4], [0, 1, 2, 3, 4, 5], [0, 1, 2, 3, 4, 5, 6]]
     [[], [], [], [], [], [], [], []]
     [[], [], [], [], [], [], [], []] (by kernel_rfl) (by kernel_rfl) (adrawR_ok (acc := []) ?_)
   simp (maxSteps := 2000000) only [go_sem]
   repeat (with_reducible refine And.intro (by first | exact chk_leaf (by kernel_rfl) | omega | exact ⟨rfl, by omega, by omega, by omega⟩ | exact ⟨h3, h2⟩) ?_)
   refine hK5 _ ?_
   refine AWP_ret ?_
   simp only [hres, go_sem]
   first
     | exact finOk_mk (by rfl) (by decide)
     | refine ⟨?_, finOk_mk (by rfl) (by decide)⟩
       first | exact (insV_t c0).symm | exact (insV_f c0).symm

theorem inputs_fn : FnOk Tryz.prog 79 := fnOk_of Tryz.func79 rfl (by decide)

def T_inputs : Tab := fun f => if f = 79 then some (.p K_inputs) else T_l08In f
theorem T_inputs_ok : TabOk Tryz.prog T_inputs := fun f k h => by
  unfold T_inputs at h
  split at h
  · rename_i e; cases h; subst e; exact ⟨inputs_ok, inputs_fn⟩
  · exact T_l08In_ok f k h
attribute [go_sem] T_inputs K_inputs


def K_outputs : Con := ⟨[.ptr (.prod (.prod (.int .i64) (.prod (.row 24 (.row 2 (.int .i64))) (.prod (.row 75 (.prod (.int .i64) (.prod (.int .i64) (.prod (.int .i64) (.row 2 (.int .i64)))))) (.row 2 (.int .i64))))) (.prod (.row 2 (.int .i64)) (.prod (.row 2 (.int .i64)) (.row 24 (.row 2 (.int .i64))))))], [⟨(.row 2 (.int .i64)), true⟩], fun x => x.1.1.2.2.2.length ≤ 1000 ∧ idxs x.1.2.2.1.length x.1.1.2.2.2 = true, fun x => outsL x.1.1 x.1.2.2.1⟩
set_option maxRecDepth 100000 in
set_option maxHeartbeats 1000000 in
theorem outputs_ok : PureT Tryz.prog 60 K_outputs := by
  refine pure_of_body Tryz.func60 rfl ?_
  have hres : Tryz.f60.results.toList = [.tmp 2] := rfl
  rintro ⟨⟨⟨(pi : Int), (ts : List (List Int)), (ns : List NodeD), (os : List Int)⟩, (oo : List Int), (vv : List Int), (cc : List (List Int))⟩, _⟩ hc hL
  simp only [K_outputs, lensOk, PK.lenOk, glensOk, GP.lenOk, flensOk, GO.lenOk, olensOk, Ty.lenOk, Ty.flat, Bool.and_true, Bool.true_and, Bool.and_false, Bool.false_and, true_and, and_true, implies_true, forall_const] at hL
  simp only [K_outputs, St.init, St.initG, Tryz.ntmps60, go_sem] 
  have hcc : os.length ≤ 1000 ∧ idxs vv.length os = true := hc
  refine AWP_seq_k fun K1 hK1 => ?_
  refine AWP_region (G := G) (T := T_inputs) T_inputs_ok ?_
  simp only [go_sem]
  repeat (with_reducible refine And.intro (by first | omega | exact ⟨rfl, by omega, by omega, by omega⟩ | exact hcc) ?_)
  refine hK1 _ ?_
  refine AWP_seq_k fun K2 hK2 => ?_
  refine AWP_draw (G := G) (T := T_inputs) T_inputs_ok mixed
    [[], [0], [0, 1], [0, 1, 2], [0, 1, 2, 3], [], [5], [5, 6], [5, 6, 7], [0, 1, 2, 3, 4, 5, 6, 7, 8], [0, 1, 2, 3, 4, 5, 6, 7, 8, 9]]
    [[], [], [], [], [], [], [], [], [], [], []]
    [[], [], [], [], [], [], [], [], [], [], []] (by kernel_rfl) (by kernel_rfl) (adrawR_ok (acc := []) ?_)
  simp (maxSteps := 2000000) only [go_sem]
  repeat (with_reducible refine And.intro (by first | exact chk_leaf (by kernel_rfl) | omega | exact ⟨rfl, by omega, by omega, by omega⟩ | exact hcc) ?_)
  refine hK2 _ ?_
  refine AWP_ret ?_
  simp only [hres, go_sem]
  first
    | exact finOk_mk (by rfl) (by decide)
    | refine ⟨?_, finOk_mk (by rfl) (by decide)⟩
      rfl

theorem outputs_fn : FnOk Tryz.prog 60 := fnOk_of Tryz.func60 rfl (by decide)

def T_outputs : Tab := fun f => if f = 60 then some (.p K_outputs) else T_inputs f
theorem T_outputs_ok : TabOk Tryz.prog T_outputs := fun f k h => by
  unfold T_outputs at h
  split at h
  · rename_i e; cases h; subst e; exact ⟨outputs_ok, outputs_fn⟩
  · exact T_inputs_ok f k h
attribute [go_sem] T_outputs K_outputs

end Go.Proofs.YthglggjgjlmhlaaGreat
