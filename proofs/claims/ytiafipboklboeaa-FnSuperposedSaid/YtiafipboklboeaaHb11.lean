/-
  Contracts of functions: startState.
-/
import Derived.Test.YtiafipboklboeaaHr2
import Derived.Test.YtiafipboklboeaaGa6
import Derived.Test.YtiafipboklboeaaPi
namespace Go.Proofs.Ytiafipboklboeaa
open Go.RowKit
set_option linter.unusedSimpArgs false
set_option linter.unusedVariables false

set_option maxRecDepth 100000
set_option maxHeartbeats 4000000
def T_mHb110 : Tab := fun f => match T_start f with
 | some k => some k
 | none => T_isPatch f
theorem T_mHb110_ok : TabOk Try.prog T_mHb110 := tabM T_start_ok T_isPatch_ok
attribute [go_sem] T_mHb110 T0

def K_startState : GCon where
  ps := [.val ((.prod (.int .i64) (.prod (.row 26 (.row 2 (.int .i64))) (.prod (.row 83 (.prod (.int .i64) (.prod (.int .i64) (.prod (.int .i64) (.row 2 (.int .i64)))))) (.row 2 (.int .i64))))))]
  os := []
  c := fun x => patchB x.1.1 = true
  r := fun _ => .agg [.ow 10]
  o := fun x => [(10, .tree 26 (.row 2 (.int .i64)) (startL x.1.1) none)]
  ok := by
    rintro ⟨⟨⟨(pi : Int), (ts : List (List Int)), (ns : List NodeD), (os : List Int)⟩, _⟩, _⟩
    exact ⟨rfl, rfl, by decide⟩
theorem startState_ok : GenT Try.prog 30 K_startState := by
  refine gen_of_body Try.func30 rfl ?_
  have hres : Try.f30.results.toList = [.cell 2 35] := rfl
  rintro ⟨⟨⟨(pi : Int), (ts : List (List Int)), (ns : List NodeD), (os : List Int)⟩, _⟩, _⟩ hc hL hO
  simp only [K_startState, go_sem] at hL
  simp only [K_startState, go_sem] at hO
  simp only [K_startState, St.init, St.initG, Try.ntmps30, go_sem] 
  have hP : patchB (pi, ts, ns, os) = true := hc
  have hF := (patchB_parts hP).1
  have hn24 : ns.length ≤ 24 := (formedB_parts hF).1
  refine oS fun K1 hK1 => ?_
  refine oW T_mHb110_ok ?_
  simp only [go_sem]
  repeat (with_reducible first | refine oA ?_ | refine And.intro (by first | exact hnc2 (by omega)) ?_)
  refine hK1 _ ?_
  refine oS fun K2 hK2 => ?_
  refine oW T_mHb110_ok ?_
  simp only [go_sem]
  repeat (with_reducible first | refine oA ?_ | refine And.intro (by first | exact hnc2 (by omega)) ?_)
  refine hK2 _ ?_
  refine oS fun K3 hK3 => ?_
  refine oS fun K4 hK4 => ?_
  refine oW T_mHb110_ok ?_
  simp only [go_sem]
  repeat (with_reducible first | refine oA ?_ | refine And.intro (by first | exact hnc2 (by omega)) ?_)
  refine hK4 _ ?_
  refine AWP_block ?_
  refine AWP_wk (Wk_nilBox _ 148 0 9001 26 ((.row 2 (.int .i64))) (by decide)) ?_
  simp (maxSteps := 2000000) only [go_sem]
  refine AWP_loop_k (ι := { k : Nat // k ≤ ns.length }) (fun k => ⟨[zz, zz, .c (.po 132 0), .c (.po 148 0), zz, zz, zz, zz, .c (.rd [] 83 ((.prod (.int .i64) (.prod (.int .i64) (.prod (.int .i64) (.row 2 (.int .i64)))))) (ns)), .c (.sc (.int .i64 (ns.length))), .c (.sc (.int .i64 (k.1))), zz, zz, zz, zz, zz, zz, zz, zz, zz, zz, zz, zz], [(132, .box [.sc (.slice none 0 0)]), (148, .box [.ow 9001]), (9001, .tree 26 (.row 2 (.int .i64)) (((ns.take k.1).map startV)) none)]⟩) (fun k => ns.length - k.1) ⟨0, by simp⟩ ?_ ?_
  ·
   refine oK ?_
   simp (maxSteps := 2000000) only [go_sem]
   all_goals ((repeat' refine And.intro ?_ ?_) <;> first | rfl | (congr 1; done) | (simp; done))
  rintro ⟨k, hk⟩ K5 hL5
  have hml : ((ns.take k).map startV).length ≤ 24 := by rw [List.length_map, List.length_take]; omega
  have hnc : k < ns.length → nodeC (ns.getD k (0, 0, 0, [])) := fun h => ⟨_, (nodeIn_parts (node_at (p := (pi, ts, ns, os)) (patchB_parts hP).1 h)).1⟩
  have hnx : k < ns.length → (ns.take k).map startV ++ [startV (ns.getD k (0, 0, 0, []))] = (ns.take (k + 1)).map startV := fun h => map_next3 _ h
  have hnc2 : k < ns.length → nodeC ((ns.getD k (0, 0, 0, [])).1, (ns.getD k (0, 0, 0, [])).2.1, (ns.getD k (0, 0, 0, [])).2.2.1, (ns.getD k (0, 0, 0, [])).2.2.2) := hnc
  refine oS fun K6 hK6 => ?_
  refine oW T_mHb110_ok ?_
  simp only [go_sem]
  repeat (with_reducible first | refine oA ?_ | refine And.intro (by first | exact hnc2 (by omega)) ?_)
  refine hK6 _ ?_
  refine oS fun K7 hK7 => ?_
  refine oC rfl ?_ ?_
  ·
   intro c0
   refine AWP_skip ?_
   simp only [go_sem]
   refine hK7 _ ?_
   refine oS fun K8 hK8 => ?_
   refine AWP_block ?_
   refine oS fun K9 hK9 => ?_
   refine oW T_mHb110_ok ?_
   simp only [go_sem]
   repeat (with_reducible first | refine oA ?_ | refine And.intro (by first | exact hnc2 (by omega)) ?_)
   refine hK9 _ ?_
   refine oR T_mHb110_ok
     [[], [0], [], [2], [2, 3], [0, 1, 2, 3, 4], [0, 1, 2, 3, 4, 5], [0, 1, 2, 3, 4, 5, 6]]
     [[372, 373, 374, 375, 376, 377, 378, 379, 380, 381, 382, 383, 384, 385, 386, 387, 388], [372, 373, 374, 375, 376, 377, 378, 379, 380, 381, 382, 383, 384, 385, 386, 387, 388], [], [], [], [], [], []]
     [[], [], [], [372, 373, 374, 375, 376, 377, 378, 379, 380, 381, 382, 383, 384, 385, 386, 387], [372, 373, 374, 375, 376, 377, 378, 379, 380, 381, 382, 383, 384, 385, 386, 387, 388], [], [], []] (by kernel_rfl) (by kernel_rfl) (adrawR_ok (acc := []) ?_)
   simp (maxSteps := 2000000) only [List.nodup_cons, List.nodup_nil, List.not_mem_nil, not_false_eq_true, go_sem]
   repeat (with_reducible first | refine oD ?_ | refine And.intro (by first | exact hnc2 (by omega)) ?_)
   refine hK8 _ ?_
   refine oW T_mHb110_ok ?_
   simp only [go_sem]
   repeat (with_reducible first | refine oA ?_ | refine And.intro (by first | exact hnc2 (by omega)) ?_)
   refine hL5 ⟨k + 1, by omega⟩ _ (oK ?_) ?_
   ·
    simp (maxSteps := 2000000) only [go_sem]
    all_goals ((repeat' refine And.intro ?_ ?_) <;> first | rfl | exact wk (by omega) | (congr 1; exact hnx (by omega)) | exact hnx (by omega))
   ·
    first | (simp only []; omega) | omega | (simp; omega)
  intro c0
  refine AWP_exit ?_
  simp only [go_sem]
  refine hK3 _ ?_
  refine oS fun K10 hK10 => ?_
  refine oW T_mHb110_ok ?_
  simp only [go_sem]
  repeat (with_reducible first | refine oA ?_ | refine And.intro (by first | exact hnc2 (by omega)) ?_)
  refine hK10 _ ?_
  refine AWP_ret ?_
  simp only [hres, go_sem]
  first | exact oG | (refine ⟨oG, ?_⟩; (repeat' refine And.intro ?_ ?_) <;> first | rfl | (congr 1; exact congrArg (List.map startV) (List.take_of_length_le (by omega))) | (congr 1; done))
def T_startState : Tab := fun f => if f = 30 then some (.g K_startState) else T_mHb110 f
theorem T_startState_ok : TabOk Try.prog T_startState := tabG startState_ok (fnOk_of Try.func30 rfl (by decide)) T_mHb110_ok
attribute [go_sem] T_startState K_startState

end Go.Proofs.Ytiafipboklboeaa
