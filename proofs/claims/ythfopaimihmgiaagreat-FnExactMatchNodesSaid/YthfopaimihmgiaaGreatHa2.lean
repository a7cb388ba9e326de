/-
  Contracts of functions: unite.
-/
import Derived.Test.YthfopaimihmgiaaGreatHa1
namespace Go.Proofs.YthfopaimihmgiaaGreat
open Go.RowKit
set_option linter.unusedSimpArgs false
set_option linter.unusedVariables false

def K_unite : Con := ⟨[.val ((.row 32 (.prod (.int .i64) (.prod (.row 24 (.row 2 (.int .i64))) (.prod (.row 102 (.prod (.int .i64) (.prod (.int .i64) (.prod (.int .i64) (.row 2 (.int .i64)))))) (.row 2 (.int .i64)))))))], [⟨(.prod (.row 24 (.row 2 (.int .i64))) (.prod (.row 102 (.prod (.int .i64) (.prod (.int .i64) (.prod (.int .i64) (.row 2 (.int .i64)))))) (.row 2 (.int .i64)))), true⟩], fun x => smallPs x.1, fun x => uniteL x.1⟩
set_option maxRecDepth 100000 in
set_option maxHeartbeats 4000000 in
theorem unite_ok : PureT Tryz.prog 64 K_unite := by
  refine pure_of_body Tryz.func64 rfl ?_
  have hres : Tryz.f64.results.toList = [.cell 2 92] := rfl
  rintro ⟨(ps : List PatchD), _⟩ hc hL
  simp only [K_unite, lensOk, PK.lenOk, glensOk, GP.lenOk, flensOk, GO.lenOk, olensOk, Ty.lenOk, Ty.flat, Bool.and_true, Bool.true_and, Bool.and_false, Bool.false_and, true_and, and_true, implies_true, forall_const] at hL
  simp only [K_unite, St.init, St.initG, Tryz.ntmps64, go_sem] 
  obtain ⟨hx, hy⟩ := (show smallPs ps from hc)
  refine AWP_seq_k fun K1 hK1 => ?_
  refine AWP_region (G := G) (T := T_shiftedNode) T_shiftedNode_ok ?_
  simp only [go_sem]
  refine hK1 _ ?_
  refine AWP_seq_k fun K2 hK2 => ?_
  refine AWP_region (G := G) (T := T_shiftedNode) T_shiftedNode_ok ?_
  simp only [go_sem]
  repeat (with_reducible refine And.intro (by first | omega | exact ⟨rfl, by omega, by omega, by omega⟩) ?_)
  refine hK2 _ ?_
  refine AWP_seq_k fun K3 hK3 => ?_
  refine AWP_seq_k fun K4 hK4 => ?_
  refine AWP_region (G := G) (T := T_shiftedNode) T_shiftedNode_ok ?_
  simp only [go_sem]
  refine hK4 _ ?_
  refine AWP_block ?_
  refine AWP_wk (Wk_nilBox _ 148 0 9001 24 ((.row 2 (.int .i64))) (by decide)) ?_
  simp (maxSteps := 2000000) only [go_sem]
  refine AWP_wk (Wk_nilBox _ 148 1 9002 102 ((.prod (.int .i64) (.prod (.int .i64) (.prod (.int .i64) (.row 2 (.int .i64)))))) (by decide)) ?_
  simp (maxSteps := 2000000) only [go_sem]
  refine AWP_wk (Wk_nilBox _ 148 2 9003 2 (.int .i64) (by decide)) ?_
  simp (maxSteps := 2000000) only [go_sem]
  refine AWP_loop_k (ι := { k : Nat // k ≤ ps.length }) (fun k => ⟨[zz, zz, .c (.po 132 0), .c (.po 148 0), zz, zz, zz, zz, zz, zz, zz, zz, zz, .c (.rd [] 32 ((.prod (.int .i64) (.prod (.row 24 (.row 2 (.int .i64))) (.prod (.row 102 (.prod (.int .i64) (.prod (.int .i64) (.prod (.int .i64) (.row 2 (.int .i64)))))) (.row 2 (.int .i64)))))) (ps)), .c (.sc (.int .i64 (ps.length))), .c (.sc (.int .i64 (k.1))), zz, zz, zz, zz, zz, zz, zz, zz, zz, zz, zz, zz, zz, zz, zz, zz, zz, zz, zz, zz, zz, zz, zz, zz, zz, zz, zz, zz, zz, zz, zz, zz, zz, zz, zz, zz, zz, zz, zz, zz, zz, zz, zz, zz, zz, zz, zz, zz, zz, zz, zz], [(132, .box [.sc (.slice none 0 0), .sc (.slice none 0 0), .sc (.slice none 0 0)]), (148, .box [.ow 9001, .ow 9002, .ow 9003]), (9001, .tree 24 (.row 2 (.int .i64)) ((uniteL (ps.take k.1)).1) none), (9002, .tree 102 (.prod (.int .i64) (.prod (.int .i64) (.prod (.int .i64) (.row 2 (.int .i64))))) ((uniteL (ps.take k.1)).2.1) none), (9003, .row 2 (.int .i64) ((uniteL (ps.take k.1)).2.2) [])]⟩) (fun k => ps.length - k.1) ⟨0, by simp⟩ ?_ ?_
  ·
   refine Wk_to (by rfl) ?_
   simp (maxSteps := 2000000) only [go_sem]
   all_goals (first | rfl | ((repeat' refine And.intro ?_ ?_) <;> first | rfl | simp))
  rintro ⟨k, hk⟩ K5 hL5
  obtain ⟨u1, u2, u3⟩ := uniteL_len hy k hk
  have hsm : k < ps.length → smallP (ps.getD k ((0, [], [], []) : PatchD)) := fun h => hy _ (getD_mem h)
  have hnx : k < ps.length → uniteL (ps.take (k + 1)) = uStep (uniteL (ps.take k)) (ps.getD k ((0, [], [], []) : PatchD)) := fun h => uniteL_next _ h
  refine AWP_seq_k fun K6 hK6 => ?_
  refine AWP_region (G := G) (T := T_shiftedNode) T_shiftedNode_ok ?_
  simp only [go_sem]
  refine hK6 _ ?_
  refine AWP_seq_k fun K7 hK7 => ?_
  refine AWP_cond rfl ?_ ?_
  ·
   intro c0
   try simp only [decide_eq_true_eq, decide_eq_false_iff_not, Bool.not_eq_true', Bool.not_eq_false', ne_eq, Int.not_lt, Int.not_le] at c0
   have hS : smallP (ps.getD k ((0, [], [], []) : PatchD)) := hsm (by omega)
   obtain ⟨s1, s2, s3, s4, s5⟩ := id hS
   refine AWP_skip ?_
   simp only [go_sem]
   refine hK7 _ ?_
   refine AWP_seq_k fun K8 hK8 => ?_
   refine AWP_block ?_
   refine AWP_seq_k fun K9 hK9 => ?_
   refine AWP_region (G := G) (T := T_shiftedNode) T_shiftedNode_ok ?_
   simp only [go_sem]
   repeat (with_reducible refine And.intro (by first | omega | exact ⟨rfl, by omega, by omega, by omega⟩) ?_)
   refine hK9 _ ?_
   refine AWP_seq_k fun K10 hK10 => ?_
   refine AWP_draw (G := G) (T := T_shiftedNode) T_shiftedNode_ok mixed
     [[], [0], [0, 1], [], [3], [0, 1, 2, 3, 4], [0, 1, 2, 3, 4, 5], [0, 1, 2, 3, 4, 5, 6]]
     [[], [], [], [], [], [], [], []]
     [[], [], [], [], [], [], [], []] (by kernel_rfl) (by kernel_rfl) (adrawR_ok (acc := []) ?_)
   simp (maxSteps := 2000000) only [go_sem]
   repeat (with_reducible refine And.intro (by first | exact chk_leaf (by kernel_rfl) | omega | exact ⟨rfl, by omega, by omega, by omega⟩) ?_)
   refine hK10 _ ?_
   refine AWP_seq_k fun K11 hK11 => ?_
   refine AWP_seq_k fun K12 hK12 => ?_
   refine AWP_region (G := G) (T := T_shiftedNode) T_shiftedNode_ok ?_
   simp only [go_sem]
   repeat (with_reducible refine And.intro (by first | omega | exact ⟨rfl, by omega, by omega, by omega⟩) ?_)
   refine hK12 _ ?_
   refine AWP_block ?_
   refine AWP_loop_k (ι := { m : Nat // m ≤ (ps.getD k ((0, [], [], []) : PatchD)).2.2.1.length }) (fun k' => ⟨[zz, zz, .c (.po 132 0), .c (.po 148 0), zz, .c (.po 180 0), .c (.sc (.int .i64 ((uniteL (ps.take k)).2.1.length))), .c (.sc (.int .i64 ((uniteL (ps.take k)).1.length))), zz, zz, zz, zz, zz, .c (.rd [] 32 ((.prod (.int .i64) (.prod (.row 24 (.row 2 (.int .i64))) (.prod (.row 102 (.prod (.int .i64) (.prod (.int .i64) (.prod (.int .i64) (.row 2 (.int .i64)))))) (.row 2 (.int .i64)))))) (ps)), .c (.sc (.int .i64 (ps.length))), .c (.sc (.int .i64 (k))), zz, zz, zz, zz, zz, zz, zz, zz, zz, zz, .c (.rd [] 102 ((.prod (.int .i64) (.prod (.int .i64) (.prod (.int .i64) (.row 2 (.int .i64)))))) ((ps.getD k ((0, [], [], []) : PatchD)).2.2.1)), .c (.sc (.int .i64 ((ps.getD k ((0, [], [], []) : PatchD)).2.2.1.length))), .c (.sc (.int .i64 (k'.1))), zz, zz, zz, zz, zz, zz, zz, zz, zz, zz, zz, zz, zz, zz, zz, zz, zz, zz, zz, zz, zz, zz, zz, zz, zz, zz, zz, zz, zz, zz, zz, zz, zz, zz, zz, zz, zz, zz], [(132, .box [.sc (.slice none 0 0), .sc (.slice none 0 0), .sc (.slice none 0 0)]), (148, .box [.ow 9001, .ow 9002, .ow 9003]), (9001, .tree 24 (.row 2 (.int .i64)) ((uniteL (ps.take k)).1) none), (9002, .tree 102 (.prod (.int .i64) (.prod (.int .i64) (.prod (.int .i64) (.row 2 (.int .i64))))) ((uniteL (ps.take k)).2.1 ++ ((ps.getD k ((0, [], [], []) : PatchD)).2.2.1.take k'.1).map (shiftN (uniteL (ps.take k)).2.1.length (uniteL (ps.take k)).1.length)) none), (9003, .row 2 (.int .i64) ((uniteL (ps.take k)).2.2) []), (180, .box [.sc (.int .i64 ((ps.getD k ((0, [], [], []) : PatchD)).1)), .rd [] 24 ((.row 2 (.int .i64))) ((ps.getD k ((0, [], [], []) : PatchD)).2.1), .rd [] 102 ((.prod (.int .i64) (.prod (.int .i64) (.prod (.int .i64) (.row 2 (.int .i64)))))) ((ps.getD k ((0, [], [], []) : PatchD)).2.2.1), .rd [] 2 (.int .i64) ((ps.getD k ((0, [], [], []) : PatchD)).2.2.2)])]⟩) (fun k' => (ps.getD k ((0, [], [], []) : PatchD)).2.2.1.length - k'.1) ⟨0, by simp⟩ ?_ ?_
   ·
    refine Wk_to (by rfl) ?_
    simp (maxSteps := 2000000) only [go_sem]
    all_goals (first | rfl | ((repeat' refine And.intro ?_ ?_) <;> first | rfl | simp))
   rintro ⟨m, hm⟩ K13 hL13
   have hfm : m < (ps.getD k ((0, [], [], []) : PatchD)).2.2.1.length → ((ps.getD k ((0, [], [], []) : PatchD)).2.2.1.getD m ((0, 0, 0, []) : NodeD)).2.2.2.length ≤ 23 := fun h => s4 _ (getD_mem h)
   have hml : (List.map (shiftN (uniteL (ps.take k)).2.1.length (uniteL (ps.take k)).1.length) ((ps.getD k ((0, [], [], []) : PatchD)).2.2.1.take m)).length ≤ 24 := by rw [List.length_map, List.length_take]; omega
   refine AWP_seq_k fun K14 hK14 => ?_
   refine AWP_region (G := G) (T := T_shiftedNode) T_shiftedNode_ok ?_
   simp only [go_sem]
   refine hK14 _ ?_
   refine AWP_seq_k fun K15 hK15 => ?_
   refine AWP_cond rfl ?_ ?_
   ·
    intro c1
    try simp only [decide_eq_true_eq, decide_eq_false_iff_not, Bool.not_eq_true', Bool.not_eq_false', ne_eq, Int.not_lt, Int.not_le] at c1
    refine AWP_skip ?_
    simp only [go_sem]
    refine hK15 _ ?_
    refine AWP_seq_k fun K16 hK16 => ?_
    refine AWP_block ?_
    refine AWP_seq_k fun K17 hK17 => ?_
    refine AWP_region (G := G) (T := T_shiftedNode) T_shiftedNode_ok ?_
    simp only [go_sem]
    repeat (with_reducible refine And.intro (by first | omega | exact ⟨rfl, by omega, by omega, by omega⟩) ?_)
    refine hK17 _ ?_
    refine AWP_draw (G := G) (T := T_shiftedNode) T_shiftedNode_ok mixed
      [[], [0], [], [], [], [2, 3, 4], [2, 3, 4, 5], [0, 1, 2, 3, 4, 5, 6], [0, 1, 2, 3, 4, 5, 6, 7], [0, 1, 2, 3, 4, 5, 6, 7, 8]]
      [[692, 693, 694, 695, 696, 697, 698, 699, 700, 701, 702, 703, 704, 705, 706, 707, 708], [692, 693, 694, 695, 696, 697, 698, 699, 700, 701, 702, 703, 704, 705, 706, 707, 708], [], [], [], [], [], [], [], []]
      [[], [], [], [], [], [692, 693, 694, 695, 696, 697, 698, 699, 700, 701, 702, 703, 704, 705, 706, 707], [692, 693, 694, 695, 696, 697, 698, 699, 700, 701, 702, 703, 704, 705, 706, 707, 708], [], [], []] (by kernel_rfl) (by kernel_rfl) (adrawR_ok (acc := []) ?_)
    simp (maxSteps := 2000000) only [List.nodup_cons, List.nodup_nil, List.not_mem_nil, not_false_eq_true, go_sem]
    repeat (with_reducible refine And.intro (by first | exact chk_leaf (by kernel_rfl) | omega | exact ⟨rfl, by omega, by omega, by omega⟩) ?_)
    refine hK16 _ ?_
    refine AWP_region (G := G) (T := T_shiftedNode) T_shiftedNode_ok ?_
    simp only [go_sem]
    refine hL13 ⟨m + 1, by omega⟩ _ (Wk_to (by rfl) ?_) ?_
    ·
     simp (maxSteps := 2000000) only [go_sem]
     all_goals ((repeat' refine And.intro ?_ ?_) <;> first | rfl | exact wk (by omega) | exact map_next2 ((0, 0, 0, []) : NodeD) (by omega) | (congr 1; done) | (congr 1; exact map_next2 ((0, 0, 0, []) : NodeD) (by omega)) | fail)
    ·
     first | (simp only []; omega) | omega | (simp; omega)
   ·
    intro c1
    try simp only [decide_eq_true_eq, decide_eq_false_iff_not, Bool.not_eq_true', Bool.not_eq_false', ne_eq, Int.not_lt, Int.not_le] at c1
    refine AWP_exit ?_
    simp only [go_sem]
    refine hK11 _ ?_
    refine AWP_seq_k fun K18 hK18 => ?_
    refine AWP_draw (G := G) (T := T_shiftedNode) T_shiftedNode_ok mixed
      [[], [0], [], [2], [2, 3], [0, 1, 2, 3, 4], [0, 1, 2, 3, 4, 5], [0, 1, 2, 3, 4, 5, 6]]
      [[836, 837, 838, 839, 840, 841, 842, 843, 844, 845, 846, 847, 848, 849, 850, 851], [836, 837, 838, 839, 840, 841, 842, 843, 844, 845, 846, 847, 848, 849, 850, 851], [], [], [], [], [], []]
      [[], [], [], [], [836, 837, 838, 839, 840, 841, 842, 843, 844, 845, 846, 847, 848, 849, 850, 851], [], [], []] (by kernel_rfl) (by kernel_rfl) (adrawR_ok (acc := []) ?_)
    simp (maxSteps := 2000000) only [List.nodup_cons, List.nodup_nil, List.not_mem_nil, not_false_eq_true, go_sem]
    repeat (with_reducible refine And.intro (by first | exact chk_leaf (by kernel_rfl) | omega | exact ⟨rfl, by omega, by omega, by omega⟩ | exact smallP_fits hS) ?_)
    refine hK18 _ ?_
    refine AWP_seq_k fun K19 hK19 => ?_
    refine AWP_region (G := G) (T := T_shiftedNode) T_shiftedNode_ok ?_
    simp only [go_sem]
    repeat (with_reducible refine And.intro (by first | omega | exact ⟨rfl, by omega, by omega, by omega⟩) ?_)
    refine hK19 _ ?_
    refine AWP_block ?_
    refine AWP_loop_k (ι := { m : Nat // m ≤ (ps.getD k ((0, [], [], []) : PatchD)).2.2.2.length }) (fun k' => ⟨[zz, zz, .c (.po 132 0), .c (.po 148 0), zz, zz, .c (.sc (.int .i64 ((uniteL (ps.take k)).2.1.length))), zz, zz, zz, zz, zz, zz, .c (.rd [] 32 ((.prod (.int .i64) (.prod (.row 24 (.row 2 (.int .i64))) (.prod (.row 102 (.prod (.int .i64) (.prod (.int .i64) (.prod (.int .i64) (.row 2 (.int .i64)))))) (.row 2 (.int .i64)))))) (ps)), .c (.sc (.int .i64 (ps.length))), .c (.sc (.int .i64 (k))), zz, zz, zz, zz, zz, zz, zz, zz, zz, zz, zz, zz, zz, zz, zz, zz, zz, zz, zz, zz, zz, zz, zz, zz, zz, zz, zz, zz, zz, zz, zz, zz, zz, zz, .c (.rd [] 2 (.int .i64) ((ps.getD k ((0, [], [], []) : PatchD)).2.2.2)), .c (.sc (.int .i64 ((ps.getD k ((0, [], [], []) : PatchD)).2.2.2.length))), .c (.sc (.int .i64 (k'.1))), zz, zz, zz, zz, zz, zz, zz, zz, zz, zz, zz, zz, zz, zz], [(132, .box [.sc (.slice none 0 0), .sc (.slice none 0 0), .sc (.slice none 0 0)]), (148, .box [.ow 9001, .ow 9002, .ow 9003]), (9001, .tree 24 (.row 2 (.int .i64)) ((uniteL (ps.take k)).1 ++ (ps.getD k ((0, [], [], []) : PatchD)).2.1) none), (9002, .tree 102 (.prod (.int .i64) (.prod (.int .i64) (.prod (.int .i64) (.row 2 (.int .i64))))) ((uniteL (ps.take k)).2.1 ++ (ps.getD k ((0, [], [], []) : PatchD)).2.2.1.map (shiftN (uniteL (ps.take k)).2.1.length (uniteL (ps.take k)).1.length)) none), (9003, .row 2 (.int .i64) ((uniteL (ps.take k)).2.2 ++ ((ps.getD k ((0, [], [], []) : PatchD)).2.2.2.take k'.1).map (plus (uniteL (ps.take k)).2.1.length)) [])]⟩) (fun k' => (ps.getD k ((0, [], [], []) : PatchD)).2.2.2.length - k'.1) ⟨0, by simp⟩ ?_ ?_
    ·
     refine Wk_to (by rfl) ?_
     simp (maxSteps := 2000000) only [go_sem]
     all_goals ((repeat' refine And.intro ?_ ?_) <;> first | rfl | exact map_all (by omega) | (congr 1; done) | (congr 1; exact map_all (by omega)) | fail)
    rintro ⟨m, hm⟩ K20 hL20
    have hml : (List.map (plus (uniteL (ps.take k)).2.1.length) ((ps.getD k ((0, [], [], []) : PatchD)).2.2.2.take m)).length ≤ 4 := by rw [List.length_map, List.length_take]; omega
    refine AWP_seq_k fun K21 hK21 => ?_
    refine AWP_region (G := G) (T := T_shiftedNode) T_shiftedNode_ok ?_
    simp only [go_sem]
    refine hK21 _ ?_
    refine AWP_seq_k fun K22 hK22 => ?_
    refine AWP_cond rfl ?_ ?_
    ·
     intro c2
     try simp only [decide_eq_true_eq, decide_eq_false_iff_not, Bool.not_eq_true', Bool.not_eq_false', ne_eq, Int.not_lt, Int.not_le] at c2
     refine AWP_skip ?_
     simp only [go_sem]
     refine hK22 _ ?_
     refine AWP_seq_k fun K23 hK23 => ?_
     refine AWP_block ?_
     refine AWP_seq_k fun K24 hK24 => ?_
     refine AWP_region (G := G) (T := T_shiftedNode) T_shiftedNode_ok ?_
     simp only [go_sem]
     repeat (with_reducible refine And.intro (by first | omega | exact ⟨rfl, by omega, by omega, by omega⟩) ?_)
     refine hK24 _ ?_
     refine AWP_region (G := G) (T := T_shiftedNode) T_shiftedNode_ok ?_
     simp (maxSteps := 2000000) only [go_sem]
     repeat (with_reducible refine And.intro (by first | omega | exact ⟨rfl, by omega, by omega, by omega⟩) ?_)
     refine hK23 _ ?_
     refine AWP_region (G := G) (T := T_shiftedNode) T_shiftedNode_ok ?_
     simp only [go_sem]
     refine hL20 ⟨m + 1, by omega⟩ _ (Wk_to (by rfl) ?_) ?_
     ·
      simp (maxSteps := 2000000) only [go_sem]
      all_goals ((repeat' refine And.intro ?_ ?_) <;> first | rfl | exact wk (by omega) | exact map_next2 (0 : Int) (by omega) | (congr 1; exact map_next2 (0 : Int) (by omega)) | fail)
     ·
      first | (simp only []; omega) | omega | (simp; omega)
    ·
     intro c2
     try simp only [decide_eq_true_eq, decide_eq_false_iff_not, Bool.not_eq_true', Bool.not_eq_false', ne_eq, Int.not_lt, Int.not_le] at c2
     refine AWP_exit ?_
     simp only [go_sem]
     refine hK8 _ ?_
     refine AWP_region (G := G) (T := T_shiftedNode) T_shiftedNode_ok ?_
     simp only [go_sem]
     refine hL5 ⟨k + 1, by omega⟩ _ (Wk_to (by rfl) ?_) ?_
     ·
      simp (maxSteps := 2000000) only [go_sem]
      have hq := hnx (by omega)
      all_goals ((repeat' refine And.intro ?_ ?_) <;> first | rfl | exact wk (by omega) | (congr 1; rw [hq]; rfl) | (rw [hq]; rfl) | (rw [hq, List.take_of_length_le (l := (ps.getD k ((0, [], [], []) : PatchD)).2.2.2) (i := m) (by omega)]; rfl) | (congr 1; done))
     ·
      first | (simp only []; omega) | omega | (simp; omega)
  ·
   intro c0
   try simp only [decide_eq_true_eq, decide_eq_false_iff_not, Bool.not_eq_true', Bool.not_eq_false', ne_eq, Int.not_lt, Int.not_le] at c0
   refine AWP_exit ?_
   simp only [go_sem]
   refine hK3 _ ?_
   refine AWP_seq_k fun K25 hK25 => ?_
   refine AWP_region (G := G) (T := T_shiftedNode) T_shiftedNode_ok ?_
   simp only [go_sem]
   repeat (with_reducible refine And.intro (by first | omega | exact ⟨rfl, by omega, by omega, by omega⟩) ?_)
   refine hK25 _ ?_
   refine AWP_ret ?_
   simp only [hres, go_sem]
   first
     | exact finOk_mk (by rfl) (by decide)
     | refine ⟨?_, finOk_mk (by rfl) (by decide)⟩
       exact congrArg uniteL (List.take_of_length_le (by omega))

theorem unite_fn : FnOk Tryz.prog 64 := fnOk_of Tryz.func64 rfl (by decide)

def T_unite : Tab := fun f => if f = 64 then some (.p K_unite) else T_shiftedNode f
theorem T_unite_ok : TabOk Tryz.prog T_unite := fun f k h => by
  unfold T_unite at h
  split at h
  · rename_i e; cases h; subst e; exact ⟨unite_ok, unite_fn⟩
  · exact T_shiftedNode_ok f k h
attribute [go_sem] T_unite K_unite

end Go.Proofs.YthfopaimihmgiaaGreat
