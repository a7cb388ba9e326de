/-
  Contracts of functions: l08Start.
-/
import Derived.Test.YtiafipboklboeaaHr3
import Derived.Test.YtiafipboklboeaaHb1
import Derived.Test.YtiafipboklboeaaPi
namespace Go.Proofs.Ytiafipboklboeaa
open Go.RowKit
set_option linter.unusedSimpArgs false
set_option linter.unusedVariables false

set_option maxRecDepth 100000
set_option maxHeartbeats 4000000
def T_mHb120 : Tab := fun f => match T_l06Start f with
 | some k => some k
 | none => T_l07Own f
theorem T_mHb120_ok : TabOk Try.prog T_mHb120 := tabM T_l06Start_ok T_l07Own_ok
attribute [go_sem] T_mHb120 T0

def K_l08Start : GCon where
  ps := [.ptr ((.prod (.int .i64) (.prod (.row 26 (.row 2 (.int .i64))) (.prod (.row 83 (.prod (.int .i64) (.prod (.int .i64) (.prod (.int .i64) (.row 2 (.int .i64)))))) (.row 2 (.int .i64))))))]
  os := []
  c := fun x => patchB x.1.1 = true
  r := fun _ => .agg [.ow 10]
  o := fun x => [(10, .tree 26 (.row 2 (.int .i64)) (startL x.1.1) none)]
  ok := by
    rintro ⟨⟨⟨(pi : Int), (ts : List (List Int)), (ns : List NodeD), (os : List Int)⟩, _⟩, _⟩
    exact ⟨rfl, rfl, by decide⟩
theorem l08Start_ok : GenT Try.prog 75 K_l08Start := by
  refine gen_of_body Try.func75 rfl ?_
  have hres : Try.f75.results.toList = [.cell 2 35] := rfl
  rintro ⟨⟨⟨(pi : Int), (ts : List (List Int)), (ns : List NodeD), (os : List Int)⟩, _⟩, _⟩ hc hL hO
  simp only [K_l08Start, go_sem] at hL
  simp only [K_l08Start, go_sem] at hO
  simp only [K_l08Start, St.init, St.initG, Try.ntmps75, go_sem] 
  have hP : patchB (pi, ts, ns, os) = true := hc
  have hF := (patchB_parts hP).1
  have hn24 : ns.length ≤ 24 := (formedB_parts hF).1
  refine oS fun K1 hK1 => ?_
  refine oW T_mHb120_ok ?_
  simp only [go_sem]
  refine hK1 _ ?_
  refine oS fun K2 hK2 => ?_
  refine oW T_mHb120_ok ?_
  simp only [List.nodup_cons, List.nodup_nil, List.not_mem_nil, not_false_eq_true, go_sem]
  repeat (with_reducible refine oA ?_)
  refine hK2 _ ?_
  refine oS fun K3 hK3 => ?_
  refine oS fun K4 hK4 => ?_
  refine oW T_mHb120_ok ?_
  simp only [go_sem]
  refine hK4 _ ?_
  refine AWP_block ?_
  refine AWP_loop_k (ι := { k : Nat // k ≤ ns.length }) (fun k => ⟨[.c (.pt [] ((.prod (.int .i64) (.prod (.row 26 (.row 2 (.int .i64))) (.prod (.row 83 (.prod (.int .i64) (.prod (.int .i64) (.prod (.int .i64) (.row 2 (.int .i64)))))) (.row 2 (.int .i64)))))) (pi, ts, ns, os) 0), zz, .c (.po 132 0), .c (.po 148 0), .c (.sc (.int .i64 (k.1))), zz, zz, zz, zz, zz, zz, zz, zz, zz, zz, zz, zz, zz, zz, zz, zz, zz, zz, zz, zz, zz, zz, zz, zz], [(132, .box [.sc (.slice none 0 0)]), (148, .box [.ow 9001]), (9001, .tree 26 (.row 2 (.int .i64)) (((ns.take k.1).map startV)) none)]⟩) (fun k => ns.length - k.1) ⟨0, by simp⟩ ?_ ?_
  ·
   refine oK ?_
   simp (maxSteps := 2000000) only [go_sem]
   all_goals ((repeat' refine And.intro ?_ ?_) <;> first | rfl | (congr 1; done) | (simp; done))
  rintro ⟨k, hk⟩ K5 hL5
  have hml : ((ns.take k).map startV).length ≤ 24 := by rw [List.length_map, List.length_take]; omega
  have hnc : k < ns.length → nodeC (ns.getD k (0, 0, 0, [])) := fun h => ⟨_, (nodeIn_parts (node_at (p := (pi, ts, ns, os)) (patchB_parts hP).1 h)).1⟩
  have hnx : k < ns.length → (ns.take k).map startV ++ [startV (ns.getD k (0, 0, 0, []))] = (ns.take (k + 1)).map startV := fun h => map_next3 _ h
  refine oS fun K6 hK6 => ?_
  refine oS fun K7 hK7 => ?_
  refine oW T_mHb120_ok ?_
  simp (maxSteps := 2000000) only [go_sem]
  repeat (with_reducible refine oA ?_)
  refine hK7 _ ?_
  refine oC rfl ?_ ?_
  ·
   intro c0
   refine AWP_skip ?_
   simp only [go_sem]
   refine hK6 _ ?_
   refine oS fun K8 hK8 => ?_
   refine AWP_block ?_
   refine oR T_mHb120_ok
     [[], [0], [], [2], [2, 3], [2, 3, 4], [], [2, 3, 4, 5, 6], [2, 3, 4, 5, 6, 7], [2, 3, 4, 5, 6, 7, 8], [0, 1, 2, 3, 4, 5, 6, 7, 8, 9], [0, 1, 2, 3, 4, 5, 6, 7, 8, 9, 10], [0, 1, 2, 3, 4, 5, 6, 7, 8, 9, 10, 11]]
     [[484, 485, 486, 487, 488, 489, 490, 491, 492, 493, 494, 495, 496, 497, 498, 499, 500], [484, 485, 486, 487, 488, 489, 490, 491, 492, 493, 494, 495, 496, 497, 498, 499, 500], [], [], [], [], [], [], [], [], [], [], []]
     [[], [], [], [], [], [], [], [], [484, 485, 486, 487, 488, 489, 490, 491, 492, 493, 494, 495, 496, 497, 498, 499], [484, 485, 486, 487, 488, 489, 490, 491, 492, 493, 494, 495, 496, 497, 498, 499, 500], [], [], []] (by kernel_rfl) (by kernel_rfl) (adrawR_ok (acc := []) ?_)
   simp (maxSteps := 2000000) only [List.nodup_cons, List.nodup_nil, List.not_mem_nil, not_false_eq_true, go_sem]
   repeat (with_reducible first | refine oD ?_ | refine And.intro (by first | exact hnc (by omega)) ?_)
   refine hK8 _ ?_
   refine oW T_mHb120_ok ?_
   simp only [go_sem]
   refine hL5 ⟨k + 1, by omega⟩ _ (oK ?_) ?_
   ·
    simp (maxSteps := 2000000) only [go_sem]
    all_goals ((repeat' refine And.intro ?_ ?_) <;> first | rfl | exact wk (by omega) | (congr 1; exact hnx (by omega)) | exact hnx (by omega))
   ·
    first | (simp only []; omega) | omega | (simp; omega)
  intro c0
  refine AWP_exit ?_
  simp only [go_sem]
  refine hK3 _ ?_
  refine oS fun K9 hK9 => ?_
  refine oW T_mHb120_ok ?_
  simp only [go_sem]
  repeat (with_reducible refine oA ?_)
  refine hK9 _ ?_
  refine AWP_ret ?_
  simp only [hres, go_sem]
  first | exact oG | (refine ⟨oG, ?_⟩; (repeat' refine And.intro ?_ ?_) <;> first | rfl | (congr 1; exact congrArg (List.map startV) (List.take_of_length_le (by omega))) | (congr 1; done))
def T_l08Start : Tab := fun f => if f = 75 then some (.g K_l08Start) else T_mHb120 f
theorem T_l08Start_ok : TabOk Try.prog T_l08Start := tabG l08Start_ok (fnOk_of Try.func75 rfl (by decide)) T_mHb120_ok
attribute [go_sem] T_l08Start K_l08Start

end Go.Proofs.Ytiafipboklboeaa
