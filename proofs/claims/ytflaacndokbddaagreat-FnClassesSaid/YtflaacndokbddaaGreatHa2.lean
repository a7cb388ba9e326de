/-
  Contracts of functions: unite.
-/
import Derived.Test.YtflaacndokbddaaGreatHa1
namespace Go.Proofs.YtflaacndokbddaaGreat
open Go.RowKit
set_option linter.unusedSimpArgs false
set_option linter.unusedVariables false

set_option maxRecDepth 100000
set_option maxHeartbeats 4000000
def K_unite : Con := ⟨[.val ((.row 28 (.prod (.int .i64) (.prod (.row 26 (.row 2 (.int .i64))) (.prod (.row 90 (.prod (.int .i64) (.prod (.int .i64) (.prod (.int .i64) (.row 2 (.int .i64)))))) (.row 2 (.int .i64)))))))], [⟨(.prod (.row 26 (.row 2 (.int .i64))) (.prod (.row 90 (.prod (.int .i64) (.prod (.int .i64) (.prod (.int .i64) (.row 2 (.int .i64)))))) (.row 2 (.int .i64)))), true⟩], fun x => smallPs x.1, fun x => uniteL x.1⟩
theorem unite_ok : PureT Tryz.prog 48 K_unite := by
  refine pure_of_body Tryz.func48 rfl ?_
  have hres : Tryz.f48.results.toList = [.cell 2 82] := rfl
  rintro ⟨(ps : List PatchD), _⟩ hc hL
  simp only [K_unite, go_sem] at hL
  simp only [K_unite, St.init, St.initG, Tryz.ntmps48, go_sem] 
  obtain ⟨hx, hy⟩ := (show smallPs ps from hc)
  refine oS fun K1 hK1 => ?_
  refine oW T_shiftedNode_ok ?_
  simp only [go_sem]
  refine hK1 _ ?_
  refine oS fun K2 hK2 => ?_
  refine oW T_shiftedNode_ok ?_
  simp only [go_sem]
  repeat (with_reducible refine oA ?_)
  refine hK2 _ ?_
  refine oS fun K3 hK3 => ?_
  refine oS fun K4 hK4 => ?_
  refine oW T_shiftedNode_ok ?_
  simp only [go_sem]
  refine hK4 _ ?_
  refine AWP_block ?_
  refine AWP_wk (Wk_nilBox _ 148 0 9001 26 ((.row 2 (.int .i64))) (by decide)) ?_
  simp (maxSteps := 2000000) only [go_sem]
  refine AWP_wk (Wk_nilBox _ 148 1 9002 90 ((.prod (.int .i64) (.prod (.int .i64) (.prod (.int .i64) (.row 2 (.int .i64)))))) (by decide)) ?_
  simp (maxSteps := 2000000) only [go_sem]
  refine AWP_wk (Wk_nilBox _ 148 2 9003 2 (.int .i64) (by decide)) ?_
  simp (maxSteps := 2000000) only [go_sem]
  refine AWP_loop_k (ι := { k : Nat // k ≤ ps.length }) (fun k => ⟨[zz, zz, .c (.po 132 0), .c (.po 148 0), zz, zz, zz, zz, zz, zz, zz, zz, zz, .c (.rd [] 28 ((.prod (.int .i64) (.prod (.row 26 (.row 2 (.int .i64))) (.prod (.row 90 (.prod (.int .i64) (.prod (.int .i64) (.prod (.int .i64) (.row 2 (.int .i64)))))) (.row 2 (.int .i64)))))) (ps)), .c (.sc (.int .i64 (ps.length))), .c (.sc (.int .i64 (k.1))), zz, zz, zz, zz, zz, zz, zz, zz, zz, zz, zz, zz, zz, zz, zz, zz, zz, zz, zz, zz, zz, zz, zz, zz, zz, zz, zz, zz, zz, zz, zz, zz, zz, zz, zz, zz, zz, zz, zz, zz, zz, zz, zz, zz, zz, zz, zz, zz, zz, zz, zz], [(132, .box [.sc (.slice none 0 0), .sc (.slice none 0 0), .sc (.slice none 0 0)]), (148, .box [.ow 9001, .ow 9002, .ow 9003]), (9001, .tree 26 (.row 2 (.int .i64)) ((uniteL (ps.take k.1)).1) none), (9002, .tree 90 (.prod (.int .i64) (.prod (.int .i64) (.prod (.int .i64) (.row 2 (.int .i64))))) ((uniteL (ps.take k.1)).2.1) none), (9003, .row 2 (.int .i64) ((uniteL (ps.take k.1)).2.2) [])]⟩) (fun k => ps.length - k.1) ⟨0, by simp⟩ ?_ ?_
  ·
   refine oK ?_
   simp (maxSteps := 2000000) only [go_sem]
   all_goals (first | rfl | ((repeat' refine And.intro ?_ ?_) <;> first | rfl | simp))
  rintro ⟨k, hk⟩ K5 hL5
  obtain ⟨u1, u2, u3⟩ := uniteL_len hy k hk
  have hsm : k < ps.length → smallP (ps.getD k ((0, [], [], []) : PatchD)) := fun h => hy _ (getD_mem h)
  have hnx : k < ps.length → uniteL (ps.take (k + 1)) = uStep (uniteL (ps.take k)) (ps.getD k ((0, [], [], []) : PatchD)) := fun h => uniteL_next _ h
  refine oS fun K6 hK6 => ?_
  refine oW T_shiftedNode_ok ?_
  simp only [go_sem]
  refine hK6 _ ?_
  refine oS fun K7 hK7 => ?_
  refine oC rfl ?_ ?_
  ·
   intro c0
   have hS : smallP (ps.getD k ((0, [], [], []) : PatchD)) := hsm (by omega)
   obtain ⟨s1, s2, s3, s4, s5⟩ := id hS
   refine AWP_skip ?_
   simp only [go_sem]
   refine hK7 _ ?_
   refine oS fun K8 hK8 => ?_
   refine AWP_block ?_
   refine oS fun K9 hK9 => ?_
   refine oW T_shiftedNode_ok ?_
   simp only [go_sem]
   repeat (with_reducible refine oA ?_)
   refine hK9 _ ?_
   refine oS fun K10 hK10 => ?_
   refine oR T_shiftedNode_ok
     [[], [0], [0, 1], [], [3], [0, 1, 2, 3, 4], [0, 1, 2, 3, 4, 5], [0, 1, 2, 3, 4, 5, 6]]
     [[], [], [], [], [], [], [], []]
     [[], [], [], [], [], [], [], []] (by kernel_rfl) (by kernel_rfl) (adrawR_ok (acc := []) ?_)
   simp (maxSteps := 2000000) only [go_sem]
   repeat (with_reducible refine oD ?_)
   refine hK10 _ ?_
   refine oS fun K11 hK11 => ?_
   refine oS fun K12 hK12 => ?_
   refine oW T_shiftedNode_ok ?_
   simp only [go_sem]
   repeat (with_reducible refine oA ?_)
   refine hK12 _ ?_
   refine AWP_block ?_
   refine AWP_loop_k (ι := { m : Nat // m ≤ (ps.getD k ((0, [], [], []) : PatchD)).2.2.1.length }) (fun k' => ⟨[zz, zz, .c (.po 132 0), .c (.po 148 0), zz, .c (.po 180 0), .c (.sc (.int .i64 ((uniteL (ps.take k)).2.1.length))), .c (.sc (.int .i64 ((uniteL (ps.take k)).1.length))), zz, zz, zz, zz, zz, .c (.rd [] 28 ((.prod (.int .i64) (.prod (.row 26 (.row 2 (.int .i64))) (.prod (.row 90 (.prod (.int .i64) (.prod (.int .i64) (.prod (.int .i64) (.row 2 (.int .i64)))))) (.row 2 (.int .i64)))))) (ps)), .c (.sc (.int .i64 (ps.length))), .c (.sc (.int .i64 (k))), zz, zz, zz, zz, zz, zz, zz, zz, zz, zz, .c (.rd [] 90 ((.prod (.int .i64) (.prod (.int .i64) (.prod (.int .i64) (.row 2 (.int .i64)))))) ((ps.getD k ((0, [], [], []) : PatchD)).2.2.1)), .c (.sc (.int .i64 ((ps.getD k ((0, [], [], []) : PatchD)).2.2.1.length))), .c (.sc (.int .i64 (k'.1))), zz, zz, zz, zz, zz, zz, zz, zz, zz, zz, zz, zz, zz, zz, zz, zz, zz, zz, zz, zz, zz, zz, zz, zz, zz, zz, zz, zz, zz, zz, zz, zz, zz, zz, zz, zz, zz, zz], [(132, .box [.sc (.slice none 0 0), .sc (.slice none 0 0), .sc (.slice none 0 0)]), (148, .box [.ow 9001, .ow 9002, .ow 9003]), (9001, .tree 26 (.row 2 (.int .i64)) ((uniteL (ps.take k)).1) none), (9002, .tree 90 (.prod (.int .i64) (.prod (.int .i64) (.prod (.int .i64) (.row 2 (.int .i64))))) ((uniteL (ps.take k)).2.1 ++ ((ps.getD k ((0, [], [], []) : PatchD)).2.2.1.take k'.1).map (shiftN (uniteL (ps.take k)).2.1.length (uniteL (ps.take k)).1.length)) none), (9003, .row 2 (.int .i64) ((uniteL (ps.take k)).2.2) []), (180, .box [.sc (.int .i64 ((ps.getD k ((0, [], [], []) : PatchD)).1)), .rd [] 26 ((.row 2 (.int .i64))) ((ps.getD k ((0, [], [], []) : PatchD)).2.1), .rd [] 90 ((.prod (.int .i64) (.prod (.int .i64) (.prod (.int .i64) (.row 2 (.int .i64)))))) ((ps.getD k ((0, [], [], []) : PatchD)).2.2.1), .rd [] 2 (.int .i64) ((ps.getD k ((0, [], [], []) : PatchD)).2.2.2)])]⟩) (fun k' => (ps.getD k ((0, [], [], []) : PatchD)).2.2.1.length - k'.1) ⟨0, by simp⟩ ?_ ?_
   ·
    refine oK ?_
    simp (maxSteps := 2000000) only [go_sem]
    all_goals (first | rfl | ((repeat' refine And.intro ?_ ?_) <;> first | rfl | simp))
   rintro ⟨m, hm⟩ K13 hL13
   have hfm : m < (ps.getD k ((0, [], [], []) : PatchD)).2.2.1.length → ((ps.getD k ((0, [], [], []) : PatchD)).2.2.1.getD m ((0, 0, 0, []) : NodeD)).2.2.2.length ≤ 23 := fun h => s4 _ (getD_mem h)
   have hml : (List.map (shiftN (uniteL (ps.take k)).2.1.length (uniteL (ps.take k)).1.length) ((ps.getD k ((0, [], [], []) : PatchD)).2.2.1.take m)).length ≤ 24 := by rw [List.length_map, List.length_take]; omega
   refine oS fun K14 hK14 => ?_
   refine oW T_shiftedNode_ok ?_
   simp only [go_sem]
   refine hK14 _ ?_
   refine oS fun K15 hK15 => ?_
   refine oC rfl ?_ ?_
   ·
    intro c1
    refine AWP_skip ?_
    simp only [go_sem]
    refine hK15 _ ?_
    refine oS fun K16 hK16 => ?_
    refine AWP_block ?_
    refine oS fun K17 hK17 => ?_
    refine oW T_shiftedNode_ok ?_
    simp only [go_sem]
    repeat (with_reducible refine oA ?_)
    refine hK17 _ ?_
    refine oR T_shiftedNode_ok
      [[], [0], [], [], [], [2, 3, 4], [2, 3, 4, 5], [0, 1, 2, 3, 4, 5, 6], [0, 1, 2, 3, 4, 5, 6, 7], [0, 1, 2, 3, 4, 5, 6, 7, 8]]
      [[692, 693, 694, 695, 696, 697, 698, 699, 700, 701, 702, 703, 704, 705, 706, 707, 708], [692, 693, 694, 695, 696, 697, 698, 699, 700, 701, 702, 703, 704, 705, 706, 707, 708], [], [], [], [], [], [], [], []]
      [[], [], [], [], [], [692, 693, 694, 695, 696, 697, 698, 699, 700, 701, 702, 703, 704, 705, 706, 707], [692, 693, 694, 695, 696, 697, 698, 699, 700, 701, 702, 703, 704, 705, 706, 707, 708], [], [], []] (by kernel_rfl) (by kernel_rfl) (adrawR_ok (acc := []) ?_)
    simp (maxSteps := 2000000) only [List.nodup_cons, List.nodup_nil, List.not_mem_nil, not_false_eq_true, go_sem]
    repeat (with_reducible refine oD ?_)
    refine hK16 _ ?_
    refine oW T_shiftedNode_ok ?_
    simp only [go_sem]
    refine hL13 ⟨m + 1, by omega⟩ _ (oK ?_) ?_
    ·
     simp (maxSteps := 2000000) only [go_sem]
     all_goals ((repeat' refine And.intro ?_ ?_) <;> first | rfl | exact wk (by omega) | exact map_next2 ((0, 0, 0, []) : NodeD) (by omega) | (congr 1; done) | (congr 1; exact map_next2 ((0, 0, 0, []) : NodeD) (by omega)) | fail)
    ·
     first | (simp only []; omega) | omega | (simp; omega)
   intro c1
   refine AWP_exit ?_
   simp only [go_sem]
   refine hK11 _ ?_
   refine oS fun K18 hK18 => ?_
   refine oR T_shiftedNode_ok
     [[], [0], [], [2], [2, 3], [0, 1, 2, 3, 4], [0, 1, 2, 3, 4, 5], [0, 1, 2, 3, 4, 5, 6]]
     [[836, 837, 838, 839, 840, 841, 842, 843, 844, 845, 846, 847, 848, 849, 850, 851], [836, 837, 838, 839, 840, 841, 842, 843, 844, 845, 846, 847, 848, 849, 850, 851], [], [], [], [], [], []]
     [[], [], [], [], [836, 837, 838, 839, 840, 841, 842, 843, 844, 845, 846, 847, 848, 849, 850, 851], [], [], []] (by kernel_rfl) (by kernel_rfl) (adrawR_ok (acc := []) ?_)
   simp (maxSteps := 2000000) only [List.nodup_cons, List.nodup_nil, List.not_mem_nil, not_false_eq_true, go_sem]
   repeat (with_reducible first | refine oD ?_ | refine And.intro (by first | exact smallP_fits hS) ?_)
   refine hK18 _ ?_
   refine oS fun K19 hK19 => ?_
   refine oW T_shiftedNode_ok ?_
   simp only [go_sem]
   repeat (with_reducible refine oA ?_)
   refine hK19 _ ?_
   refine AWP_block ?_
   refine AWP_loop_k (ι := { m : Nat // m ≤ (ps.getD k ((0, [], [], []) : PatchD)).2.2.2.length }) (fun k' => ⟨[zz, zz, .c (.po 132 0), .c (.po 148 0), zz, zz, .c (.sc (.int .i64 ((uniteL (ps.take k)).2.1.length))), zz, zz, zz, zz, zz, zz, .c (.rd [] 28 ((.prod (.int .i64) (.prod (.row 26 (.row 2 (.int .i64))) (.prod (.row 90 (.prod (.int .i64) (.prod (.int .i64) (.prod (.int .i64) (.row 2 (.int .i64)))))) (.row 2 (.int .i64)))))) (ps)), .c (.sc (.int .i64 (ps.length))), .c (.sc (.int .i64 (k))), zz, zz, zz, zz, zz, zz, zz, zz, zz, zz, zz, zz, zz, zz, zz, zz, zz, zz, zz, zz, zz, zz, zz, zz, zz, zz, zz, zz, zz, zz, zz, zz, zz, zz, .c (.rd [] 2 (.int .i64) ((ps.getD k ((0, [], [], []) : PatchD)).2.2.2)), .c (.sc (.int .i64 ((ps.getD k ((0, [], [], []) : PatchD)).2.2.2.length))), .c (.sc (.int .i64 (k'.1))), zz, zz, zz, zz, zz, zz, zz, zz, zz, zz, zz, zz, zz, zz], [(132, .box [.sc (.slice none 0 0), .sc (.slice none 0 0), .sc (.slice none 0 0)]), (148, .box [.ow 9001, .ow 9002, .ow 9003]), (9001, .tree 26 (.row 2 (.int .i64)) ((uniteL (ps.take k)).1 ++ (ps.getD k ((0, [], [], []) : PatchD)).2.1) none), (9002, .tree 90 (.prod (.int .i64) (.prod (.int .i64) (.prod (.int .i64) (.row 2 (.int .i64))))) ((uniteL (ps.take k)).2.1 ++ (ps.getD k ((0, [], [], []) : PatchD)).2.2.1.map (shiftN (uniteL (ps.take k)).2.1.length (uniteL (ps.take k)).1.length)) none), (9003, .row 2 (.int .i64) ((uniteL (ps.take k)).2.2 ++ ((ps.getD k ((0, [], [], []) : PatchD)).2.2.2.take k'.1).map (plus (uniteL (ps.take k)).2.1.length)) [])]⟩) (fun k' => (ps.getD k ((0, [], [], []) : PatchD)).2.2.2.length - k'.1) ⟨0, by simp⟩ ?_ ?_
   ·
    refine oK ?_
    simp (maxSteps := 2000000) only [go_sem]
    all_goals ((repeat' refine And.intro ?_ ?_) <;> first | rfl | exact map_all (by omega) | (congr 1; done) | (congr 1; exact map_all (by omega)) | fail)
   rintro ⟨m, hm⟩ K20 hL20
   have hml : (List.map (plus (uniteL (ps.take k)).2.1.length) ((ps.getD k ((0, [], [], []) : PatchD)).2.2.2.take m)).length ≤ 4 := by rw [List.length_map, List.length_take]; omega
   refine oS fun K21 hK21 => ?_
   refine oW T_shiftedNode_ok ?_
   simp only [go_sem]
   refine hK21 _ ?_
   refine oS fun K22 hK22 => ?_
   refine oC rfl ?_ ?_
   ·
    intro c2
    refine AWP_skip ?_
    simp only [go_sem]
    refine hK22 _ ?_
    refine oS fun K23 hK23 => ?_
    refine AWP_block ?_
    refine oS fun K24 hK24 => ?_
    refine oW T_shiftedNode_ok ?_
    simp only [go_sem]
    repeat (with_reducible refine oA ?_)
    refine hK24 _ ?_
    refine oW T_shiftedNode_ok ?_
    simp (maxSteps := 2000000) only [go_sem]
    repeat (with_reducible refine oA ?_)
    refine hK23 _ ?_
    refine oW T_shiftedNode_ok ?_
    simp only [go_sem]
    refine hL20 ⟨m + 1, by omega⟩ _ (oK ?_) ?_
    ·
     simp (maxSteps := 2000000) only [go_sem]
     all_goals ((repeat' refine And.intro ?_ ?_) <;> first | rfl | exact wk (by omega) | exact map_next2 (0 : Int) (by omega) | (congr 1; exact map_next2 (0 : Int) (by omega)) | fail)
    ·
     first | (simp only []; omega) | omega | (simp; omega)
   intro c2
   refine AWP_exit ?_
   simp only [go_sem]
   refine hK8 _ ?_
   refine oW T_shiftedNode_ok ?_
   simp only [go_sem]
   refine hL5 ⟨k + 1, by omega⟩ _ (oK ?_) ?_
   ·
    simp (maxSteps := 2000000) only [go_sem]
    have hq := hnx (by omega)
    all_goals ((repeat' refine And.intro ?_ ?_) <;> first | rfl | exact wk (by omega) | (congr 1; rw [hq]; rfl) | (rw [hq]; rfl) | (rw [hq, List.take_of_length_le (l := (ps.getD k ((0, [], [], []) : PatchD)).2.2.2) (i := m) (by omega)]; rfl) | (congr 1; done))
   ·
    first | (simp only []; omega) | omega | (simp; omega)
  intro c0
  refine AWP_exit ?_
  simp only [go_sem]
  refine hK3 _ ?_
  refine oS fun K25 hK25 => ?_
  refine oW T_shiftedNode_ok ?_
  simp only [go_sem]
  repeat (with_reducible refine oA ?_)
  refine hK25 _ ?_
  refine AWP_ret ?_
  simp only [hres, go_sem]
  first | exact oF | (refine ⟨?_, oF⟩; exact congrArg uniteL (List.take_of_length_le (by omega)))
def T_unite : Tab := fun f => if f = 48 then some (.p K_unite) else T_shiftedNode f
theorem T_unite_ok : TabOk Tryz.prog T_unite := tabP unite_ok (fnOk_of Tryz.func48 rfl (by decide)) T_shiftedNode_ok
attribute [go_sem] T_unite K_unite

end Go.Proofs.YtflaacndokbddaaGreat
