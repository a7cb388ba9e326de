/-
  Contracts of functions: l08In, inputs, outputs.
-/
import Derived.Test.YtflaacndokbddaaGreatHr1
namespace Go.Proofs.YtflaacndokbddaaGreat
open Go.RowKit
set_option linter.unusedSimpArgs false
set_option linter.unusedVariables false

set_option maxRecDepth 100000
set_option maxHeartbeats 1000000
def K_l08In : Con := ⟨[.ptr (.prod (.int .i64) (.prod (.int .i64) (.prod (.int .i64) (.row 2 (.int .i64))))), .val ((.row 2 (.int .i64))), .val ((.row 2 (.int .i64)))], [⟨(.row 2 (.int .i64)), true⟩], fun x => insC x.1 x.2.1 x.2.2.1, fun x => insV x.1 x.2.1 x.2.2.1⟩
theorem l08In_ok : PureT Tryz.prog 121 K_l08In := by
  refine pure_of_body Tryz.func121 rfl ?_
  have hres : Tryz.f121.results.toList = [.tmp 6] := rfl
  rintro ⟨⟨(kd : Int), (a : Int), (bb : Int), (fr : List Int)⟩, (ff : List Int), (vv : List Int), _⟩ hc hL
  simp only [K_l08In, go_sem] at hL
  simp only [K_l08In, St.init, St.initG, Tryz.ntmps121, go_sem] 
  obtain ⟨h1, h2, h3⟩ := (show insC (kd, a, bb, fr) ff vv from hc)
  have h1 : kd = 1 → 0 ≤ a ∧ a < ff.length := h1
  have h2 : idxs vv.length fr = true := h2
  have h3 : fr.length ≤ 1000 := h3
  refine oS fun K1 hK1 => ?_
  refine oW T_l07Map_ok ?_
  simp only [go_sem]
  refine hK1 _ ?_
  refine oS fun K2 hK2 => ?_
  refine oS fun K3 hK3 => ?_
  refine oW T_l07Map_ok ?_
  simp (maxSteps := 2000000) only [go_sem]
  repeat (with_reducible refine oA ?_)
  refine hK3 _ ?_
  refine oC rfl ?_ ?_
  ·
   intro c0
   refine oS fun K4 hK4 => ?_
   refine oW T_l07Map_ok ?_
   simp (maxSteps := 2000000) only [List.nodup_nil, go_sem]
   repeat (with_reducible refine oA ?_)
   refine hK4 _ ?_
   refine AWP_ret ?_
   simp only [hres, go_sem]
   first | exact oF | (refine ⟨?_, oF⟩; first | exact (insV_t c0).symm | exact (insV_f c0).symm)
  intro c0
  refine AWP_skip ?_
  simp only [go_sem]
  refine hK2 _ ?_
  refine oS fun K5 hK5 => ?_
  refine oW T_l07Map_ok ?_
  simp (maxSteps := 2000000) only [go_sem]
  repeat (with_reducible first | refine oA ?_ | refine And.intro (by first | exact ⟨h3, h2⟩) ?_)
  refine hK5 _ ?_
  refine AWP_ret ?_
  simp only [hres, go_sem]
  first | exact oF | (refine ⟨?_, oF⟩; first | exact (insV_t c0).symm | exact (insV_f c0).symm)
def T_l08In : Tab := fun f => if f = 121 then some (.p K_l08In) else T_l07Map f
theorem T_l08In_ok : TabOk Tryz.prog T_l08In := tabP l08In_ok (fnOk_of Tryz.func121 rfl (by decide)) T_l07Map_ok
attribute [go_sem] T_l08In K_l08In

def K_inputs : Con := ⟨[.ptr (.prod (.prod (.int .i64) (.prod (.row 26 (.row 2 (.int .i64))) (.prod (.row 90 (.prod (.int .i64) (.prod (.int .i64) (.prod (.int .i64) (.row 2 (.int .i64)))))) (.row 2 (.int .i64))))) (.prod (.row 2 (.int .i64)) (.prod (.row 2 (.int .i64)) (.row 26 (.row 2 (.int .i64)))))), .val ((.prod (.int .i64) (.prod (.int .i64) (.prod (.int .i64) (.row 2 (.int .i64)))))), .val ((.row 2 (.int .i64)))], [⟨(.row 2 (.int .i64)), true⟩], fun x => insC x.2.1 x.2.2.1 x.1.2.2.1, fun x => insV x.2.1 x.2.2.1 x.1.2.2.1⟩
theorem inputs_ok : PureT Tryz.prog 193 K_inputs := by
  refine pure_of_body Tryz.func193 rfl ?_
  have hres : Tryz.f193.results.toList = [.tmp 6] := rfl
  rintro ⟨⟨⟨(pi : Int), (ts : List (List Int)), (ns : List NodeD), (os : List Int)⟩, (oo : List Int), (vv : List Int), (cc : List (List Int))⟩, ⟨(kd : Int), (a : Int), (bb : Int), (fr : List Int)⟩, (ff : List Int), _⟩ hc hL
  simp only [K_inputs, go_sem] at hL
  simp only [K_inputs, St.init, St.initG, Tryz.ntmps193, go_sem] 
  obtain ⟨h1, h2, h3⟩ := (show insC (kd, a, bb, fr) ff vv from hc)
  have h1 : kd = 1 → 0 ≤ a ∧ a < ff.length := h1
  have h2 : idxs vv.length fr = true := h2
  have h3 : fr.length ≤ 1000 := h3
  refine oS fun K1 hK1 => ?_
  refine oW T_l08In_ok ?_
  simp only [go_sem]
  refine hK1 _ ?_
  refine oS fun K2 hK2 => ?_
  refine oS fun K3 hK3 => ?_
  refine oW T_l08In_ok ?_
  simp only [go_sem]
  repeat (with_reducible refine oA ?_)
  refine hK3 _ ?_
  refine oC rfl ?_ ?_
  ·
   intro c0
   refine oS fun K4 hK4 => ?_
   refine oW T_l08In_ok ?_
   simp (maxSteps := 2000000) only [List.nodup_nil, go_sem]
   repeat (with_reducible refine oA ?_)
   refine hK4 _ ?_
   refine AWP_ret ?_
   simp only [hres, go_sem]
   first | exact oF | (refine ⟨?_, oF⟩; first | exact (insV_t c0).symm | exact (insV_f c0).symm)
  intro c0
  refine AWP_skip ?_
  simp only [go_sem]
  refine hK2 _ ?_
  refine oS fun K5 hK5 => ?_
  refine oR T_l08In_ok
    [[], [0], [], [2], [2, 3], [2, 3, 4], [0, 1, 2, 3, 4, 5], [0, 1, 2, 3, 4, 5, 6]]
    [[], [], [], [], [], [], [], []]
    [[], [], [], [], [], [], [], []] (by kernel_rfl) (by kernel_rfl) (adrawR_ok (acc := []) ?_)
  simp (maxSteps := 2000000) only [go_sem]
  repeat (with_reducible first | refine oD ?_ | refine And.intro (by first | exact ⟨h3, h2⟩) ?_)
  refine hK5 _ ?_
  refine AWP_ret ?_
  simp only [hres, go_sem]
  first | exact oF | (refine ⟨?_, oF⟩; first | exact (insV_t c0).symm | exact (insV_f c0).symm)
def T_inputs : Tab := fun f => if f = 193 then some (.p K_inputs) else T_l08In f
theorem T_inputs_ok : TabOk Tryz.prog T_inputs := tabP inputs_ok (fnOk_of Tryz.func193 rfl (by decide)) T_l08In_ok
attribute [go_sem] T_inputs K_inputs

def K_outputs : Con := ⟨[.ptr (.prod (.prod (.int .i64) (.prod (.row 26 (.row 2 (.int .i64))) (.prod (.row 90 (.prod (.int .i64) (.prod (.int .i64) (.prod (.int .i64) (.row 2 (.int .i64)))))) (.row 2 (.int .i64))))) (.prod (.row 2 (.int .i64)) (.prod (.row 2 (.int .i64)) (.row 26 (.row 2 (.int .i64))))))], [⟨(.row 2 (.int .i64)), true⟩], fun x => x.1.1.2.2.2.length ≤ 1000 ∧ idxs x.1.2.2.1.length x.1.1.2.2.2 = true, fun x => outsL x.1.1 x.1.2.2.1⟩
theorem outputs_ok : PureT Tryz.prog 136 K_outputs := by
  refine pure_of_body Tryz.func136 rfl ?_
  have hres : Tryz.f136.results.toList = [.tmp 2] := rfl
  rintro ⟨⟨⟨(pi : Int), (ts : List (List Int)), (ns : List NodeD), (os : List Int)⟩, (oo : List Int), (vv : List Int), (cc : List (List Int))⟩, _⟩ hc hL
  simp only [K_outputs, go_sem] at hL
  simp only [K_outputs, St.init, St.initG, Tryz.ntmps136, go_sem] 
  have hcc : os.length ≤ 1000 ∧ idxs vv.length os = true := hc
  refine oS fun K1 hK1 => ?_
  refine oW T_inputs_ok ?_
  simp only [go_sem]
  repeat (with_reducible first | refine oA ?_ | refine And.intro (by first | exact hcc) ?_)
  refine hK1 _ ?_
  refine oS fun K2 hK2 => ?_
  refine oR T_inputs_ok
    [[], [0], [0, 1], [0, 1, 2], [0, 1, 2, 3], [], [5], [5, 6], [5, 6, 7], [0, 1, 2, 3, 4, 5, 6, 7, 8], [0, 1, 2, 3, 4, 5, 6, 7, 8, 9]]
    [[], [], [], [], [], [], [], [], [], [], []]
    [[], [], [], [], [], [], [], [], [], [], []] (by kernel_rfl) (by kernel_rfl) (adrawR_ok (acc := []) ?_)
  simp (maxSteps := 2000000) only [go_sem]
  repeat (with_reducible first | refine oD ?_ | refine And.intro (by first | exact hcc) ?_)
  refine hK2 _ ?_
  refine AWP_ret ?_
  simp only [hres, go_sem]
  first | exact oF | exact oFr
def T_outputs : Tab := fun f => if f = 136 then some (.p K_outputs) else T_inputs f
theorem T_outputs_ok : TabOk Tryz.prog T_outputs := tabP outputs_ok (fnOk_of Tryz.func136 rfl (by decide)) T_inputs_ok
attribute [go_sem] T_outputs K_outputs

end Go.Proofs.YtflaacndokbddaaGreat
