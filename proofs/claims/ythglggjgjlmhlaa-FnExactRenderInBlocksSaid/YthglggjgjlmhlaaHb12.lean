/-
  Contracts of functions: l08Start.
-/
import Derived.Test.YthglggjgjlmhlaaHr3
import Derived.Test.YthglggjgjlmhlaaHb1
import Derived.Test.YthglggjgjlmhlaaPi
namespace Go.Proofs.Ythglggjgjlmhlaa
open Go.RowKit
set_option linter.unusedSimpArgs false
set_option linter.unusedVariables false

def T_mHb120 : Tab := fun f => match T_l06Start f with
  | some k => some k
  | none => T_l07Own f
theorem T_mHb120_ok : TabOk Try.prog T_mHb120 := fun f k h => by
  unfold T_mHb120 at h
  split at h
  · rename_i e; cases h; exact T_l06Start_ok f _ e
  · exact T_l07Own_ok f k h
attribute [go_sem] T_mHb120 T0


def K_l08Start : GCon where
  ps := [.ptr ((.prod (.int .i64) (.prod (.row 24 (.row 2 (.int .i64))) (.prod (.row 140 (.prod (.int .i64) (.prod (.int .i64) (.prod (.int .i64) (.row 2 (.int .i64)))))) (.row 2 (.int .i64))))))]
  os := []
  c := fun x => patchB x.1.1 = true
  r := fun _ => .agg [.ow 10]
  o := fun x => [(10, .tree 24 (.row 2 (.int .i64)) (startL x.1.1) none)]
  ok := by
    rintro ⟨⟨⟨(pi : Int), (ts : List (List Int)), (ns : List NodeD), (os : List Int)⟩, _⟩, _⟩
    exact ⟨rfl, rfl, by decide⟩
set_option maxRecDepth 100000 in
set_option maxHeartbeats 4000000 in
theorem l08Start_ok : GenT Try.prog 81 K_l08Start := by
  refine gen_of_body Try.func81 rfl ?_
  have hres : Try.f81.results.toList = [.cell 2 31] := rfl
  rintro ⟨⟨⟨(pi : Int), (ts : List (List Int)), (ns : List NodeD), (os : List Int)⟩, _⟩, _⟩ hc hL hO
  simp only [K_l08Start, lensOk, PK.lenOk, glensOk, GP.lenOk, flensOk, GO.lenOk, olensOk, Ty.lenOk, Ty.flat, Bool.and_true, Bool.true_and, Bool.and_false, Bool.false_and, true_and, and_true, implies_true, forall_const] at hL
  simp only [K_l08Start, lensOk, PK.lenOk, glensOk, GP.lenOk, flensOk, GO.lenOk, olensOk, Ty.lenOk, Ty.flat, Bool.and_true, Bool.true_and, Bool.and_false, Bool.false_and, true_and, and_true, implies_true, forall_const] at hO
  simp only [K_l08Start, St.init, St.initG, Try.ntmps81, go_sem] 
  have hP : patchB (pi, ts, ns, os) = true := hc
  have hF := (patchB_parts hP).1
  have hn24 : ns.length ≤ 24 := (formedB_parts hF).1
  refine AWP_seq_k fun K1 hK1 => ?_
  refine AWP_region (G := G) (T := T_mHb120) T_mHb120_ok ?_
  simp only [go_sem]
  refine hK1 _ ?_
  refine AWP_seq_k fun K2 hK2 => ?_
  refine AWP_region (G := G) (T := T_mHb120) T_mHb120_ok ?_
  simp only [List.nodup_cons, List.nodup_nil, List.not_mem_nil, not_false_eq_true, go_sem]
  repeat (with_reducible refine And.intro (by first | omega | exact ⟨rfl, by omega, by omega, by omega⟩) ?_)
  refine hK2 _ ?_
  refine AWP_seq_k fun K3 hK3 => ?_
  refine AWP_seq_k fun K4 hK4 => ?_
  refine AWP_region (G := G) (T := T_mHb120) T_mHb120_ok ?_
  simp only [go_sem]
  refine hK4 _ ?_
  refine AWP_block ?_
  refine AWP_loop_k (ι := { k : Nat // k ≤ ns.length }) (fun k => ⟨[.c (.pt [] ((.prod (.int .i64) (.prod (.row 24 (.row 2 (.int .i64))) (.prod (.row 140 (.prod (.int .i64) (.prod (.int .i64) (.prod (.int .i64) (.row 2 (.int .i64)))))) (.row 2 (.int .i64)))))) (pi, ts, ns, os) 0), zz, .c (.po 132 0), .c (.po 148 0), .c (.sc (.int .i64 (k.1))), zz, zz, zz, zz, zz, zz, zz, zz, zz, zz, zz, zz, zz, zz, zz, zz, zz, zz, zz, zz, zz, zz, zz, zz], [(132, .box [.sc (.slice none 0 0)]), (148, .box [.ow 9001]), (9001, .tree 24 (.row 2 (.int .i64)) (((ns.take k.1).map startV)) none)]⟩) (fun k => ns.length - k.1) ⟨0, by simp⟩ ?_ ?_
  ·
   refine Wk_to (by rfl) ?_
   simp (maxSteps := 2000000) only [go_sem]
   all_goals ((repeat' refine And.intro ?_ ?_) <;> first | rfl | (congr 1; done) | (simp; done))
  rintro ⟨k, hk⟩ K5 hL5
  have hml : ((ns.take k).map startV).length ≤ 24 := by rw [List.length_map, List.length_take]; omega
  have hnc : k < ns.length → nodeC (ns.getD k (0, 0, 0, [])) := fun h => ⟨_, (nodeIn_parts (node_at (p := (pi, ts, ns, os)) (patchB_parts hP).1 h)).1⟩
  have hnx : k < ns.length → (ns.take k).map startV ++ [startV (ns.getD k (0, 0, 0, []))] = (ns.take (k + 1)).map startV := fun h => map_next3 _ h
  refine AWP_seq_k fun K6 hK6 => ?_
  refine AWP_seq_k fun K7 hK7 => ?_
  refine AWP_region (G := G) (T := T_mHb120) T_mHb120_ok ?_
  simp (maxSteps := 2000000) only [go_sem]
  repeat (with_reducible refine And.intro (by first | omega | exact ⟨rfl, by omega, by omega, by omega⟩) ?_)
  refine hK7 _ ?_
  refine AWP_cond rfl ?_ ?_
  ·
   intro c0
   try simp only [decide_eq_true_eq, decide_eq_false_iff_not, Bool.not_eq_true', Bool.not_eq_false', ne_eq, Int.not_lt, Int.not_le] at c0
   refine AWP_skip ?_
   simp only [go_sem]
   refine hK6 _ ?_
   refine AWP_seq_k fun K8 hK8 => ?_
   refine AWP_block ?_
   refine AWP_draw (G := G) (T := T_mHb120) T_mHb120_ok mixed
     [[], [0], [], [2], [2, 3], [2, 3, 4], [], [2, 3, 4, 5, 6], [2, 3, 4, 5, 6, 7], [2, 3, 4, 5, 6, 7, 8], [0, 1, 2, 3, 4, 5, 6, 7, 8, 9], [0, 1, 2, 3, 4, 5, 6, 7, 8, 9, 10], [0, 1, 2, 3, 4, 5, 6, 7, 8, 9, 10, 11]]
     [[484, 485, 486, 487, 488, 489, 490, 491, 492, 493, 494, 495, 496, 497, 498, 499, 500], [484, 485, 486, 487, 488, 489, 490, 491, 492, 493, 494, 495, 496, 497, 498, 499, 500], [], [], [], [], [], [], [], [], [], [], []]
     [[], [], [], [], [], [], [], [], [484, 485, 486, 487, 488, 489, 490, 491, 492, 493, 494, 495, 496, 497, 498, 499], [484, 485, 486, 487, 488, 489, 490, 491, 492, 493, 494, 495, 496, 497, 498, 499, 500], [], [], []] (by kernel_rfl) (by kernel_rfl) (adrawR_ok (acc := []) ?_)
   simp (maxSteps := 2000000) only [List.nodup_cons, List.nodup_nil, List.not_mem_nil, not_false_eq_true, go_sem]
   repeat (with_reducible refine And.intro (by first | exact chk_leaf (by kernel_rfl) | omega | exact ⟨rfl, by omega, by omega, by omega⟩ | exact hnc (by omega)) ?_)
   refine hK8 _ ?_
   refine AWP_region (G := G) (T := T_mHb120) T_mHb120_ok ?_
   simp only [go_sem]
   refine hL5 ⟨k + 1, by omega⟩ _ (Wk_to (by rfl) ?_) ?_
   ·
    simp (maxSteps := 2000000) only [go_sem]
    all_goals ((repeat' refine And.intro ?_ ?_) <;> first | rfl | exact wk (by omega) | (congr 1; exact hnx (by omega)) | exact hnx (by omega))
   ·
    first | (simp only []; omega) | omega | (simp; omega)
  ·
   intro c0
   try simp only [decide_eq_true_eq, decide_eq_false_iff_not, Bool.not_eq_true', Bool.not_eq_false', ne_eq, Int.not_lt, Int.not_le] at c0
   refine AWP_exit ?_
   simp only [go_sem]
   refine hK3 _ ?_
   refine AWP_seq_k fun K9 hK9 => ?_
   refine AWP_region (G := G) (T := T_mHb120) T_mHb120_ok ?_
   simp only [go_sem]
   repeat (with_reducible refine And.intro (by first | omega | exact ⟨rfl, by omega, by omega, by omega⟩) ?_)
   refine hK9 _ ?_
   refine AWP_ret ?_
   simp only [hres, go_sem]
   first
     | exact finOkG_mk (by rfl)
     | refine ⟨finOkG_mk (by rfl), ?_⟩
       (repeat' refine And.intro ?_ ?_) <;> first | rfl | (congr 1; exact congrArg (List.map startV) (List.take_of_length_le (by omega))) | (congr 1; done)

theorem l08Start_fn : FnOk Try.prog 81 := fnOk_of Try.func81 rfl (by decide)

def T_l08Start : Tab := fun f => if f = 81 then some (.g K_l08Start) else T_mHb120 f
theorem T_l08Start_ok : TabOk Try.prog T_l08Start := fun f k h => by
  unfold T_l08Start at h
  split at h
  · rename_i e; cases h; subst e; exact ⟨l08Start_ok, l08Start_fn⟩
  · exact T_mHb120_ok f k h
attribute [go_sem] T_l08Start K_l08Start

end Go.Proofs.Ythglggjgjlmhlaa
