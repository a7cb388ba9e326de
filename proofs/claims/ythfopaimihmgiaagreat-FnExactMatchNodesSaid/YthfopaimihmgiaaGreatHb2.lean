/-
  Contracts of functions: l12Unite.
-/
import Derived.Test.YthfopaimihmgiaaGreatHb1
namespace Go.Proofs.YthfopaimihmgiaaGreat
open Go.RowKit
set_option linter.unusedSimpArgs false
set_option linter.unusedVariables false

def K_l12Unite : Con := ⟨[.ptr (.prod (.int .i64) (.prod (.row 24 (.row 2 (.int .i64))) (.prod (.row 102 (.prod (.int .i64) (.prod (.int .i64) (.prod (.int .i64) (.row 2 (.int .i64)))))) (.row 2 (.int .i64))))), .ptr (.prod (.int .i64) (.prod (.row 24 (.row 2 (.int .i64))) (.prod (.row 102 (.prod (.int .i64) (.prod (.int .i64) (.prod (.int .i64) (.row 2 (.int .i64)))))) (.row 2 (.int .i64)))))], [⟨(.prod (.int .i64) (.prod (.row 24 (.row 2 (.int .i64))) (.prod (.row 102 (.prod (.int .i64) (.prod (.int .i64) (.prod (.int .i64) (.row 2 (.int .i64)))))) (.row 2 (.int .i64))))), true⟩], fun x => smallP x.1 ∧ smallP x.2.1, fun x => l12U x.1 x.2.1⟩
set_option maxRecDepth 100000 in
set_option maxHeartbeats 8000000 in
theorem l12Unite_ok : PureT Tryz.prog 58 K_l12Unite := by
  refine pure_of_body Tryz.func58 rfl ?_
  have hres : Tryz.f58.results.toList = [.cell 4 32] := rfl
  rintro ⟨⟨(pi : Int), (ts : List (List Int)), (ns : List NodeD), (os : List Int)⟩, ⟨(pi2 : Int), (ts2 : List (List Int)), (ns2 : List NodeD), (os2 : List Int)⟩, _⟩ hc hL
  simp only [K_l12Unite, lensOk, PK.lenOk, glensOk, GP.lenOk, flensOk, GO.lenOk, olensOk, Ty.lenOk, Ty.flat, Bool.and_true, Bool.true_and, Bool.and_false, Bool.false_and, true_and, and_true, implies_true, forall_const] at hL
  simp only [K_l12Unite, St.init, St.initG, Tryz.ntmps58, go_sem] 
  obtain ⟨hp, hq⟩ := (show smallP (pi, ts, ns, os) ∧ smallP (pi2, ts2, ns2, os2) from hc)
  have hpf := smallP_fitsP hp
  have hqf := smallP_fitsP hq
  obtain ⟨p1, p2, p3, p4, p5⟩ := hp
  obtain ⟨q1, q2, q3, q4, q5⟩ := hq
  simp only at p1 p2 p3 p4 p5 q1 q2 q3 q4 q5
  refine AWP_seq_k fun K1 hK1 => ?_
  refine AWP_region (G := G) (T := T_l07Own) T_l07Own_ok ?_
  simp only [go_sem]
  refine hK1 _ ?_
  refine AWP_seq_k fun K2 hK2 => ?_
  refine AWP_region (G := G) (T := T_l07Own) T_l07Own_ok ?_
  simp only [go_sem]
  repeat (with_reducible refine And.intro (by first | omega | exact ⟨rfl, by omega, by omega, by omega⟩ | assumption) ?_)
  refine hK2 _ ?_
  refine AWP_seq_k fun K3 hK3 => ?_
  refine AWP_region (G := G) (T := T_l07Own) T_l07Own_ok ?_
  simp only [go_sem]
  repeat (with_reducible refine And.intro (by first | omega | exact ⟨rfl, by omega, by omega, by omega⟩ | assumption) ?_)
  refine hK3 _ ?_
  refine AWP_seq_k fun K4 hK4 => ?_
  refine AWP_region (G := G) (T := T_l07Own) T_l07Own_ok ?_
  simp (maxSteps := 2000000) only [go_sem]
  repeat (with_reducible refine And.intro (by first | omega | exact ⟨rfl, by omega, by omega, by omega⟩) ?_)
  refine hK4 _ ?_
  refine AWP_seq_k fun K5 hK5 => ?_
  refine AWP_seq_k fun K6 hK6 => ?_
  refine AWP_region (G := G) (T := T_l07Own) T_l07Own_ok ?_
  simp only [go_sem]
  refine hK6 _ ?_
  refine AWP_block ?_
  refine AWP_wk (Wk_hole _ 341) ?_
  simp (maxSteps := 2000000) only [go_sem]
  refine AWP_loop_k (ι := { k : Nat // k ≤ ns2.length }) (fun k => ⟨[.c (.pt [] ((.prod (.int .i64) (.prod (.row 24 (.row 2 (.int .i64))) (.prod (.row 102 (.prod (.int .i64) (.prod (.int .i64) (.prod (.int .i64) (.row 2 (.int .i64)))))) (.row 2 (.int .i64)))))) (pi, ts, ns, os) 0), zz, zz, zz, .c (.po 164 0), .c (.po 180 0), .c (.po 196 0), .c (.sc (.int .i64 (ns.length))), .c (.sc (.int .i64 (k.1))), zz, zz, zz, zz, zz, zz, zz, zz, zz, zz, zz, zz, zz, zz, zz, zz, zz, zz, zz, zz, zz, zz, zz, zz, zz, zz, zz, zz, zz, zz, zz, zz, zz, zz, zz, zz, zz, zz, zz, zz, zz, zz, zz, zz, zz, zz, zz, zz, zz, zz, zz, zz, zz, zz, zz, zz, zz, zz, zz, zz, zz, zz, zz, zz, zz, zz, zz, zz, zz, zz, zz, zz, zz, zz, zz, zz, zz, zz, zz, zz, zz, zz, zz], [(164, .box [.sc (.int .i64 (0)), .sc (.slice none 0 0), .sc (.slice none 0 0), .sc (.slice none 0 0)]), (180, .box [.sc (.int .i64 (pi)), .ow 9001, .ow 9002, .ow 9003]), (196, .box [.sc (.int .i64 (pi2)), .ow 9011, .ow 9012, .ow 9013]), (9001, .tree 24 (.row 2 (.int .i64)) (ts) none), (9002, .tree 102 (.prod (.int .i64) (.prod (.int .i64) (.prod (.int .i64) (.row 2 (.int .i64))))) (ns ++ (ns2.take k.1).map (shiftN (ns.length : Int) (ts.length : Int))) none), (9003, .row 2 (.int .i64) (os) []), (9011, .tree 24 (.row 2 (.int .i64)) (ts2) none), (9012, .tree 102 ((.prod (.int .i64) (.prod (.int .i64) (.prod (.int .i64) (.row 2 (.int .i64)))))) ns2 (some (0, k.1))), (9013, .row 2 (.int .i64) (os2) [])]⟩) (fun k => ns2.length - k.1) ⟨0, by simp⟩ ?_ ?_
  ·
   refine Wk_to (by rfl) ?_
   simp (maxSteps := 2000000) only [go_sem]
   all_goals ((repeat' refine And.intro ?_ ?_) <;> first | rfl | (congr 1; simp; done) | (simp; done) | (congr 1; done))
  rintro ⟨k, hk⟩ K7 hL7
  have hfm : k < ns2.length → (ns2.getD k ((0, 0, 0, []) : NodeD)).2.2.2.length ≤ 23 := fun h => q4 _ (getD_mem h)
  have hml : (List.map (shiftN (ns.length : Int) (ts.length : Int)) (ns2.take k)).length ≤ 24 := by rw [List.length_map, List.length_take]; omega
  refine AWP_seq_k fun K8 hK8 => ?_
  refine AWP_seq_k fun K9 hK9 => ?_
  refine AWP_region (G := G) (T := T_l07Own) T_l07Own_ok ?_
  simp (maxSteps := 2000000) only [go_sem]
  repeat (with_reducible refine And.intro (by first | omega | exact ⟨rfl, by omega, by omega, by omega⟩) ?_)
  refine hK9 _ ?_
  refine AWP_cond rfl ?_ ?_
  ·
   intro c0
   try simp only [decide_eq_true_eq, decide_eq_false_iff_not, Bool.not_eq_true', Bool.not_eq_false', ne_eq, Int.not_lt, Int.not_le] at c0
   refine AWP_skip ?_
   simp only [go_sem]
   refine hK8 _ ?_
   refine AWP_seq_k fun K10 hK10 => ?_
   refine AWP_block ?_
   refine AWP_seq_k fun K11 hK11 => ?_
   refine AWP_region (G := G) (T := T_l07Own) T_l07Own_ok ?_
   simp (maxSteps := 2000000) only [go_sem]
   repeat (with_reducible refine And.intro (by first | omega | exact ⟨rfl, by omega, by omega, by omega⟩) ?_)
   refine hK11 _ ?_
   refine AWP_seq_k fun K12 hK12 => ?_
   refine AWP_seq_k fun K13 hK13 => ?_
   refine AWP_region (G := G) (T := T_l07Own) T_l07Own_ok ?_
   simp only [go_sem]
   refine hK13 _ ?_
   refine AWP_block ?_
   refine AWP_take 244 3 9021 ?_
   simp (maxSteps := 2000000) only [go_sem]
   repeat (with_reducible refine And.intro (by first | omega | decide) ?_)
   refine AWP_loop_k (ι := { m : Nat // m ≤ (ns2.getD k ((0, 0, 0, []) : NodeD)).2.2.2.length }) (fun k' => ⟨[.c (.pt [] ((.prod (.int .i64) (.prod (.row 24 (.row 2 (.int .i64))) (.prod (.row 102 (.prod (.int .i64) (.prod (.int .i64) (.prod (.int .i64) (.row 2 (.int .i64)))))) (.row 2 (.int .i64)))))) (pi, ts, ns, os) 0), zz, zz, zz, .c (.po 164 0), .c (.po 180 0), .c (.po 196 0), .c (.sc (.int .i64 (ns.length))), .c (.sc (.int .i64 (k))), .c (.po 244 0), .c (.sc (.int .i64 (k'.1))), zz, zz, zz, zz, zz, zz, zz, zz, zz, zz, zz, zz, zz, zz, zz, zz, zz, zz, zz, zz, zz, zz, zz, zz, zz, zz, zz, zz, zz, zz, zz, zz, zz, zz, zz, zz, zz, zz, zz, zz, zz, zz, zz, zz, zz, zz, zz, zz, zz, zz, zz, zz, zz, zz, zz, zz, zz, zz, zz, zz, zz, zz, zz, zz, zz, zz, zz, zz, zz, zz, zz, zz, zz, zz, zz, zz, zz, zz, zz, zz, zz], [(164, .box [.sc (.int .i64 (0)), .sc (.slice none 0 0), .sc (.slice none 0 0), .sc (.slice none 0 0)]), (180, .box [.sc (.int .i64 (pi)), .ow 9001, .ow 9002, .ow 9003]), (196, .box [.sc (.int .i64 (pi2)), .ow 9011, .ow 9012, .ow 9013]), (9001, .tree 24 (.row 2 (.int .i64)) (ts) none), (9002, .tree 102 (.prod (.int .i64) (.prod (.int .i64) (.prod (.int .i64) (.row 2 (.int .i64))))) (ns ++ (ns2.take k).map (shiftN (ns.length : Int) (ts.length : Int))) none), (9003, .row 2 (.int .i64) (os) []), (9011, .tree 24 (.row 2 (.int .i64)) (ts2) none), (9012, .tree 102 ((.prod (.int .i64) (.prod (.int .i64) (.prod (.int .i64) (.row 2 (.int .i64)))))) ns2 (some (0, k + 1))), (9013, .row 2 (.int .i64) (os2) []), (244, .box [.sc (.int .i64 ((ns2.getD k ((0, 0, 0, []) : NodeD)).1)), .sc (.int .i64 ((ns2.getD k ((0, 0, 0, []) : NodeD)).2.1)), .sc (.int .i64 ((ns2.getD k ((0, 0, 0, []) : NodeD)).2.2.1)), .ow 9021]), (9021, .row 2 (.int .i64) (((ns2.getD k ((0, 0, 0, []) : NodeD)).2.2.2.take k'.1).map (plus (ns.length : Int)) ++ (ns2.getD k ((0, 0, 0, []) : NodeD)).2.2.2.drop k'.1) [])]⟩) (fun k' => (ns2.getD k ((0, 0, 0, []) : NodeD)).2.2.2.length - k'.1) ⟨0, by simp⟩ ?_ ?_
   ·
    refine Wk_to (by rfl) ?_
    simp (maxSteps := 2000000) only [go_sem]
    all_goals ((repeat' refine And.intro ?_ ?_) <;> first | rfl | (simp; done) | (congr 1; done))
   rintro ⟨m, hm⟩ K14 hL14
   have hlm0 : (List.map (plus (ns.length : Int)) (List.take m (ns2.getD k ((0, 0, 0, []) : NodeD)).2.2.2)).length + (List.drop m (ns2.getD k ((0, 0, 0, []) : NodeD)).2.2.2).length = (ns2.getD k ((0, 0, 0, []) : NodeD)).2.2.2.length := by rw [← List.length_append]; exact mix_len
   have hlm : (((ns2.getD k ((0, 0, 0, []) : NodeD)).2.2.2.take m).map (plus (ns.length : Int)) ++ (ns2.getD k ((0, 0, 0, []) : NodeD)).2.2.2.drop m).length = (ns2.getD k ((0, 0, 0, []) : NodeD)).2.2.2.length := mix_len
   refine AWP_seq_k fun K15 hK15 => ?_
   refine AWP_seq_k fun K16 hK16 => ?_
   refine AWP_region (G := G) (T := T_l07Own) T_l07Own_ok ?_
   simp (maxSteps := 2000000) only [go_sem]
   repeat (with_reducible refine And.intro (by first | omega | exact ⟨rfl, by omega, by omega, by omega⟩) ?_)
   refine hK16 _ ?_
   refine AWP_cond rfl ?_ ?_
   ·
    intro c1
    try simp only [decide_eq_true_eq, decide_eq_false_iff_not, Bool.not_eq_true', Bool.not_eq_false', ne_eq, Int.not_lt, Int.not_le] at c1
    refine AWP_skip ?_
    simp only [go_sem]
    refine hK15 _ ?_
    refine AWP_seq_k fun K17 hK17 => ?_
    refine AWP_block ?_
    refine AWP_region (G := G) (T := T_l07Own) T_l07Own_ok ?_
    simp (maxSteps := 2000000) only [go_sem]
    repeat (with_reducible refine And.intro (by first | omega | exact ⟨rfl, by omega, by omega, by omega⟩) ?_)
    refine hK17 _ ?_
    refine AWP_region (G := G) (T := T_l07Own) T_l07Own_ok ?_
    simp only [go_sem]
    refine hL14 ⟨m + 1, by omega⟩ _ (Wk_to (by rfl) ?_) ?_
    ·
     simp (maxSteps := 2000000) only [go_sem]
     all_goals first | rfl | exact wk (by omega) | exact ⟨wk (by omega), by rw [mix_at (xs := (ns2.getD k ((0, 0, 0, []) : NodeD)).2.2.2) (f := plus (ns.length : Int)) (k := m) 0 (by omega)]; exact mix_set (xs := (ns2.getD k ((0, 0, 0, []) : NodeD)).2.2.2) (f := plus (ns.length : Int)) (k := m) 0 (by omega)⟩ | exact mix_set (xs := (ns2.getD k ((0, 0, 0, []) : NodeD)).2.2.2) (f := plus (ns.length : Int)) (k := m) 0 (by omega)
    ·
     first | (simp only []; omega) | omega | (simp; omega)
   ·
    intro c1
    try simp only [decide_eq_true_eq, decide_eq_false_iff_not, Bool.not_eq_true', Bool.not_eq_false', ne_eq, Int.not_lt, Int.not_le] at c1
    refine AWP_exit ?_
    simp only [go_sem]
    refine hK12 _ ?_
    refine AWP_seq_k fun K18 hK18 => ?_
    refine AWP_seq_k fun K19 hK19 => ?_
    refine AWP_region (G := G) (T := T_l07Own) T_l07Own_ok ?_
    simp only [go_sem]
    repeat (with_reducible refine And.intro (by first | omega | exact ⟨rfl, by omega, by omega, by omega⟩) ?_)
    refine hK19 _ ?_
    refine AWP_cond rfl ?_ ?_
    ·
     intro c2
     try simp only [decide_eq_true_eq, decide_eq_false_iff_not, Bool.not_eq_true', Bool.not_eq_false', ne_eq, Int.not_lt, Int.not_le] at c2
     have hsh : shiftN (ns.length : Int) (ts.length : Int) (ns2.getD k ((0, 0, 0, []) : NodeD)) = ((ns2.getD k ((0, 0, 0, []) : NodeD)).1, IntKind.i64.wrap ((ns2.getD k ((0, 0, 0, []) : NodeD)).2.1 + (ts.length : Int)), (ns2.getD k ((0, 0, 0, []) : NodeD)).2.2.1, ((ns2.getD k ((0, 0, 0, []) : NodeD)).2.2.2.take m).map (plus (ns.length : Int)) ++ (ns2.getD k ((0, 0, 0, []) : NodeD)).2.2.2.drop m) := by
       unfold shiftN
       rw [decide_eq_true c2, List.take_of_length_le (l := (ns2.getD k ((0, 0, 0, []) : NodeD)).2.2.2) (i := m) (by omega), List.drop_of_length_le (l := (ns2.getD k ((0, 0, 0, []) : NodeD)).2.2.2) (i := m) (by omega), List.append_nil]
       rfl
     refine AWP_draw (G := G) (T := T_l07Own) T_l07Own_ok mixed
       [[], [0], [], [2], [2, 3], [2, 3, 4], [2, 3, 4, 5], [0, 1, 2, 3, 4, 5, 6], [0, 1, 2, 3, 4, 5, 6, 7], [0, 1, 2, 3, 4, 5, 6, 7, 8]]
       [[], [], [], [], [], [], [], [], [], []]
       [[], [], [], [], [], [], [], [], [], []] (by kernel_rfl) (by kernel_rfl) (adrawR_ok (acc := []) ?_)
     simp (maxSteps := 2000000) only [go_sem]
     repeat (with_reducible refine And.intro (by first | exact chk_leaf (by kernel_rfl) | omega | exact ⟨rfl, by omega, by omega, by omega⟩) ?_)
     refine hK18 _ ?_
     refine AWP_region (G := G) (T := T_l07Own) T_l07Own_ok ?_
     simp (maxSteps := 2000000) only [List.nodup_cons, List.nodup_nil, List.not_mem_nil, not_false_eq_true, go_sem]
     repeat (with_reducible refine And.intro (by first | omega | exact ⟨rfl, by omega, by omega, by omega⟩) ?_)
     refine hK10 _ ?_
     refine AWP_region (G := G) (T := T_l07Own) T_l07Own_ok ?_
     simp only [go_sem]
     refine hL7 ⟨k + 1, by omega⟩ _ (Wk_to (by rfl) ?_) ?_
     ·
      simp (maxSteps := 2000000) only [go_sem]
      all_goals ((repeat' refine And.intro ?_ ?_) <;> first | rfl | exact wk (by omega) | (congr 1; rw [← hsh]; exact map_next2 ((0, 0, 0, []) : NodeD) (by omega)) | (congr 1; done) | fail)
     ·
      first | (simp only []; omega) | omega | (simp; omega)
    ·
     intro c2
     try simp only [decide_eq_true_eq, decide_eq_false_iff_not, Bool.not_eq_true', Bool.not_eq_false', ne_eq, Int.not_lt, Int.not_le] at c2
     have hsh : shiftN (ns.length : Int) (ts.length : Int) (ns2.getD k ((0, 0, 0, []) : NodeD)) = ((ns2.getD k ((0, 0, 0, []) : NodeD)).1, (ns2.getD k ((0, 0, 0, []) : NodeD)).2.1, (ns2.getD k ((0, 0, 0, []) : NodeD)).2.2.1, ((ns2.getD k ((0, 0, 0, []) : NodeD)).2.2.2.take m).map (plus (ns.length : Int)) ++ (ns2.getD k ((0, 0, 0, []) : NodeD)).2.2.2.drop m) := by
       unfold shiftN
       rw [decide_eq_false c2, List.take_of_length_le (l := (ns2.getD k ((0, 0, 0, []) : NodeD)).2.2.2) (i := m) (by omega), List.drop_of_length_le (l := (ns2.getD k ((0, 0, 0, []) : NodeD)).2.2.2) (i := m) (by omega), List.append_nil]
     refine AWP_skip ?_
     simp only [go_sem]
     refine hK18 _ ?_
     refine AWP_region (G := G) (T := T_l07Own) T_l07Own_ok ?_
     simp (maxSteps := 2000000) only [List.nodup_cons, List.nodup_nil, List.not_mem_nil, not_false_eq_true, go_sem]
     repeat (with_reducible refine And.intro (by first | omega | exact ⟨rfl, by omega, by omega, by omega⟩) ?_)
     refine hK10 _ ?_
     refine AWP_region (G := G) (T := T_l07Own) T_l07Own_ok ?_
     simp only [go_sem]
     refine hL7 ⟨k + 1, by omega⟩ _ (Wk_to (by rfl) ?_) ?_
     ·
      simp (maxSteps := 2000000) only [go_sem]
      all_goals ((repeat' refine And.intro ?_ ?_) <;> first | rfl | exact wk (by omega) | (congr 1; rw [← hsh]; exact map_next2 ((0, 0, 0, []) : NodeD) (by omega)) | (congr 1; done) | fail)
     ·
      first | (simp only []; omega) | omega | (simp; omega)
  ·
   intro c0
   try simp only [decide_eq_true_eq, decide_eq_false_iff_not, Bool.not_eq_true', Bool.not_eq_false', ne_eq, Int.not_lt, Int.not_le] at c0
   refine AWP_exit ?_
   simp only [go_sem]
   refine hK5 _ ?_
   refine AWP_seq_k fun K20 hK20 => ?_
   refine AWP_seq_k fun K21 hK21 => ?_
   refine AWP_region (G := G) (T := T_l07Own) T_l07Own_ok ?_
   simp only [go_sem]
   refine hK21 _ ?_
   refine AWP_block ?_
   refine AWP_loop_k (ι := { m : Nat // m ≤ os2.length }) (fun k' => ⟨[zz, zz, zz, zz, .c (.po 164 0), .c (.po 180 0), .c (.po 196 0), .c (.sc (.int .i64 (ns.length))), zz, zz, zz, .c (.sc (.int .i64 (k'.1))), zz, zz, zz, zz, zz, zz, zz, zz, zz, zz, zz, zz, zz, zz, zz, zz, zz, zz, zz, zz, zz, zz, zz, zz, zz, zz, zz, zz, zz, zz, zz, zz, zz, zz, zz, zz, zz, zz, zz, zz, zz, zz, zz, zz, zz, zz, zz, zz, zz, zz, zz, zz, zz, zz, zz, zz, zz, zz, zz, zz, zz, zz, zz, zz, zz, zz, zz, zz, zz, zz, zz, zz, zz, zz, zz, zz, zz, zz, zz, zz], [(164, .box [.sc (.int .i64 (0)), .sc (.slice none 0 0), .sc (.slice none 0 0), .sc (.slice none 0 0)]), (180, .box [.sc (.int .i64 (pi)), .ow 9001, .ow 9002, .ow 9003]), (196, .box [.sc (.int .i64 (pi2)), .ow 9011, .ow 9012, .ow 9013]), (9001, .tree 24 (.row 2 (.int .i64)) (ts) none), (9002, .tree 102 (.prod (.int .i64) (.prod (.int .i64) (.prod (.int .i64) (.row 2 (.int .i64))))) (ns ++ ns2.map (shiftN (ns.length : Int) (ts.length : Int))) none), (9003, .row 2 (.int .i64) (os ++ (os2.take k'.1).map (plus (ns.length : Int))) []), (9011, .tree 24 (.row 2 (.int .i64)) (ts2) none), (9012, .tree 102 ((.prod (.int .i64) (.prod (.int .i64) (.prod (.int .i64) (.row 2 (.int .i64)))))) ns2 (some (0, k))), (9013, .row 2 (.int .i64) (os2) [])]⟩) (fun k' => os2.length - k'.1) ⟨0, by simp⟩ ?_ ?_
   ·
    refine Wk_to (by rfl) ?_
    simp (maxSteps := 2000000) only [go_sem]
    all_goals ((repeat' refine And.intro ?_ ?_) <;> first | rfl | (congr 1; exact map_all (by omega)) | (simp; done) | (congr 1; done))
   rintro ⟨m, hm⟩ K22 hL22
   have hml2 : (List.map (plus (ns.length : Int)) (os2.take m)).length ≤ 4 := by rw [List.length_map, List.length_take]; omega
   refine AWP_seq_k fun K23 hK23 => ?_
   refine AWP_seq_k fun K24 hK24 => ?_
   refine AWP_region (G := G) (T := T_l07Own) T_l07Own_ok ?_
   simp (maxSteps := 2000000) only [go_sem]
   repeat (with_reducible refine And.intro (by first | omega | exact ⟨rfl, by omega, by omega, by omega⟩) ?_)
   refine hK24 _ ?_
   refine AWP_cond rfl ?_ ?_
   ·
    intro c3
    try simp only [decide_eq_true_eq, decide_eq_false_iff_not, Bool.not_eq_true', Bool.not_eq_false', ne_eq, Int.not_lt, Int.not_le] at c3
    refine AWP_skip ?_
    simp only [go_sem]
    refine hK23 _ ?_
    refine AWP_seq_k fun K25 hK25 => ?_
    refine AWP_block ?_
    refine AWP_draw (G := G) (T := T_l07Own) T_l07Own_ok mixed
      [[], [0], [], [2], [], [2, 3, 4], [2, 3, 4, 5], [], [2, 3, 4, 5, 6, 7], [2, 3, 4, 5, 6, 7, 8], [0, 1, 2, 3, 4, 5, 6, 7, 8, 9], [0, 1, 2, 3, 4, 5, 6, 7, 8, 9, 10], [0, 1, 2, 3, 4, 5, 6, 7, 8, 9, 10, 11]]
      [[1412], [1412], [], [], [], [], [], [], [], [], [], [], []]
      [[], [], [], [], [], [], [], [], [], [1412], [], [], []] (by kernel_rfl) (by kernel_rfl) (adrawR_ok (acc := []) ?_)
    simp (maxSteps := 2000000) only [List.nodup_cons, List.nodup_nil, List.not_mem_nil, not_false_eq_true, go_sem]
    repeat (with_reducible refine And.intro (by first | exact chk_leaf (by kernel_rfl) | omega | exact ⟨rfl, by omega, by omega, by omega⟩) ?_)
    refine hK25 _ ?_
    refine AWP_region (G := G) (T := T_l07Own) T_l07Own_ok ?_
    simp only [go_sem]
    refine hL22 ⟨m + 1, by omega⟩ _ (Wk_to (by rfl) ?_) ?_
    ·
     simp (maxSteps := 2000000) only [go_sem]
     all_goals ((repeat' refine And.intro ?_ ?_) <;> first | rfl | exact wk (by omega) | exact map_next2 (0 : Int) (by omega) | (congr 1; exact map_next2 (0 : Int) (by omega)) | fail)
    ·
     first | (simp only []; omega) | omega | (simp; omega)
   ·
    intro c3
    try simp only [decide_eq_true_eq, decide_eq_false_iff_not, Bool.not_eq_true', Bool.not_eq_false', ne_eq, Int.not_lt, Int.not_le] at c3
    refine AWP_exit ?_
    simp only [go_sem]
    refine hK20 _ ?_
    refine AWP_seq_k fun K26 hK26 => ?_
    refine AWP_region (G := G) (T := T_l07Own) T_l07Own_ok ?_
    simp (maxSteps := 2000000) only [go_sem]
    repeat (with_reducible refine And.intro (by first | omega | exact ⟨rfl, by omega, by omega, by omega⟩) ?_)
    refine hK26 _ ?_
    refine AWP_seq_k fun K27 hK27 => ?_
    refine AWP_region (G := G) (T := T_l07Own) T_l07Own_ok ?_
    simp only [go_sem]
    repeat (with_reducible refine And.intro (by first | omega | exact ⟨rfl, by omega, by omega, by omega⟩) ?_)
    refine hK27 _ ?_
    refine AWP_ret ?_
    simp only [hres, go_sem]
    first
      | exact finOk_mk (by rfl) (by decide)
      | refine ⟨?_, finOk_mk (by rfl) (by decide)⟩
        unfold l12U
        rw [List.take_of_length_le (by omega)]

theorem l12Unite_fn : FnOk Tryz.prog 58 := fnOk_of Tryz.func58 rfl (by decide)

def T_l12Unite : Tab := fun f => if f = 58 then some (.p K_l12Unite) else T_l07Own f
theorem T_l12Unite_ok : TabOk Tryz.prog T_l12Unite := fun f k h => by
  unfold T_l12Unite at h
  split at h
  · rename_i e; cases h; subst e; exact ⟨l12Unite_ok, l12Unite_fn⟩
  · exact T_l07Own_ok f k h
attribute [go_sem] T_l12Unite K_l12Unite

end Go.Proofs.YthfopaimihmgiaaGreat
