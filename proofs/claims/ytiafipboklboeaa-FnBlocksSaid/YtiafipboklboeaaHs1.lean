/-
  Contracts of functions: isState, ValidState, frameCode.
-/
import Derived.Test.YtiafipboklboeaaHr2
import Derived.Test.YtiafipboklboeaaGa6
namespace Go.Proofs.Ytiafipboklboeaa
open Go.RowKit
set_option linter.unusedSimpArgs false
set_option linter.unusedVariables false

set_option maxRecDepth 100000
set_option maxHeartbeats 4000000
def T_mHs10 : Tab := fun f => match T_start f with
 | some k => some k
 | none => T_isPatch f
theorem T_mHs10_ok : TabOk Try.prog T_mHs10 := tabM T_start_ok T_isPatch_ok
attribute [go_sem] T_mHs10 T0

def K_isState : Con := ⟨[.val ((.prod (.int .i64) (.prod (.row 26 (.row 2 (.int .i64))) (.prod (.row 83 (.prod (.int .i64) (.prod (.int .i64) (.prod (.int .i64) (.row 2 (.int .i64)))))) (.row 2 (.int .i64)))))), .one (.row 26 (.row 2 (.int .i64)))], [⟨.bool, true⟩], fun x => patchB x.1 = true, fun x => stateB x.1 x.2.1⟩
theorem isState_ok : PureT Try.prog 84 K_isState := by
  refine pure_of_body Try.func84 rfl ?_
  have hres : Try.f84.results.toList = [.tmp 4] := rfl
  rintro ⟨⟨(pi : Int), (ts : List (List Int)), (ns : List NodeD), (os : List Int)⟩, (cc : List (List Int)), _⟩ hc hL
  simp only [K_isState, go_sem] at hL
  obtain ⟨⟨lts, lns, los⟩, lcc, lcc2⟩ := hL
  simp only [K_isState, St.init, St.initG, Try.ntmps84, go_sem] 
  have hP : patchB (pi, ts, ns, os) = true := hc
  have hn24 : ns.length ≤ 24 := (formedB_parts (patchB_parts hP).1).1
  refine oS fun K1 hK1 => ?_
  refine oW T_mHs10_ok ?_
  simp only [go_sem]
  refine hK1 _ ?_
  refine oS fun K2 hK2 => ?_
  refine oS fun K3 hK3 => ?_
  refine oW T_mHs10_ok ?_
  simp (maxSteps := 2000000) only [go_sem]
  repeat (with_reducible refine oA ?_)
  refine hK3 _ ?_
  refine oC rfl ?_ ?_
  ·
   intro c0
   refine oS fun K4 hK4 => ?_
   refine oW T_mHs10_ok ?_
   simp only [go_sem]
   refine hK4 _ ?_
   refine AWP_ret ?_
   simp only [hres, go_sem]
   first | exact oF | (refine ⟨?_, oF⟩; exact (stateB_f1 (p := (pi, ts, ns, os)) (show ¬ cc.length = ns.length by omega)).symm)
  intro c0
  refine AWP_skip ?_
  simp only [go_sem]
  refine hK2 _ ?_
  refine oS fun K5 hK5 => ?_
  refine oS fun K6 hK6 => ?_
  refine oW T_mHs10_ok ?_
  simp only [go_sem]
  repeat (with_reducible refine oA ?_)
  refine hK6 _ ?_
  refine AWP_block ?_
  refine AWP_loop_k (ι := { k : Nat // k ≤ ns.length ∧ ∀ i, i < k → cellB (pi, ts, ns, os) cc i = true }) (fun k => ⟨[zz, zz, zz, .c (.po 148 0), zz, zz, zz, zz, zz, zz, zz, zz, zz, zz, zz, .c (.rd [] 83 ((.prod (.int .i64) (.prod (.int .i64) (.prod (.int .i64) (.row 2 (.int .i64)))))) (ns)), .c (.sc (.int .i64 (ns.length))), .c (.sc (.int .i64 (k.1))), zz, zz, zz, zz, zz, zz, zz, zz, zz, zz, zz, zz, zz, zz, zz, zz, zz, zz, zz, zz, zz, zz, zz, zz], [(148, .box [.rd [] 26 ((.row 2 (.int .i64))) (cc)])]⟩) (fun k => ns.length - k.1) ⟨0, by simp, fun i hi => by omega⟩ ?_ ?_
  ·
   refine oK ?_
   simp (maxSteps := 2000000) only [go_sem]
   all_goals (first | rfl | ((repeat' refine And.intro ?_ ?_) <;> first | rfl | simp))
  rintro ⟨k, hk, hp⟩ K7 hL7
  have hnc : k < ns.length → nodeC (ns.getD k (0, 0, 0, [])) := fun h => ⟨_, (nodeIn_parts (node_at (p := (pi, ts, ns, os)) (patchB_parts hP).1 h)).1⟩
  have hnc2 : k < ns.length → nodeC ((ns.getD k (0, 0, 0, [])).1, (ns.getD k (0, 0, 0, [])).2.1, (ns.getD k (0, 0, 0, [])).2.2.1, (ns.getD k (0, 0, 0, [])).2.2.2) := hnc
  refine oS fun K8 hK8 => ?_
  refine oW T_mHs10_ok ?_
  simp only [go_sem]
  refine hK8 _ ?_
  refine oS fun K9 hK9 => ?_
  refine oC rfl ?_ ?_
  ·
   intro c1
   refine AWP_skip ?_
   simp only [go_sem]
   refine hK9 _ ?_
   refine oS fun K10 hK10 => ?_
   refine AWP_block ?_
   refine oS fun K11 hK11 => ?_
   refine oW T_mHs10_ok ?_
   simp (maxSteps := 2000000) only [go_sem]
   repeat (with_reducible refine oA ?_)
   refine hK11 _ ?_
   refine oS fun K12 hK12 => ?_
   refine oR T_mHs10_ok
     [[], [0], [], [0, 1, 2], [0, 1, 2, 3], [0, 1, 2, 3, 4], [], [6], [6, 7], [0, 1, 2, 3, 4, 5, 6, 7, 8], [0, 1, 2, 3, 4, 5, 6, 7, 8, 9], [0, 1, 2, 3, 4, 5, 6, 7, 8, 9, 10], [0, 1, 2, 3, 4, 5, 6, 7, 8, 9, 10, 11], [0, 1, 2, 3, 4, 5, 6, 7, 8, 9, 10], [0, 1, 2, 3, 4, 5, 6, 7, 8, 9, 10, 11, 12, 13], [0, 1, 2, 3, 4, 5, 6, 7, 8, 9, 10, 11, 12, 13, 14], [0, 1, 2, 3, 4, 5, 6, 7, 8, 9, 10, 11, 12, 13, 14, 15], [0, 1, 2, 3, 4, 5, 6, 7, 8, 9, 10, 11, 12, 13, 14, 15, 16], [0, 1, 2, 3, 4, 5, 6, 7, 8, 9, 10, 11, 12, 13, 14, 15, 16, 17]]
     [[564, 565, 566, 567, 568, 569, 570, 571, 572, 573, 574, 575, 576, 577, 578, 579], [564, 565, 566, 567, 568, 569, 570, 571, 572, 573, 574, 575, 576, 577, 578, 579], [564, 565, 566, 567, 568, 569, 570, 571, 572, 573, 574, 575, 576, 577, 578, 579], [564, 565, 566, 567, 568, 569, 570, 571, 572, 573, 574, 575, 576, 577, 578, 579], [564, 565, 566, 567, 568, 569, 570, 571, 572, 573, 574, 575, 576, 577, 578, 579], [564, 565, 566, 567, 568, 569, 570, 571, 572, 573, 574, 575, 576, 577, 578, 579], [], [], [], [], [], [], [], [], [], [], [], [], []]
     [[], [], [], [], [], [], [], [564, 565, 566, 567, 568, 569, 570, 571, 572, 573, 574, 575, 576, 577, 578, 579], [], [], [], [], [], [], [], [], [], [], []] (by kernel_rfl) (by kernel_rfl) (adrawR_ok (acc := []) ?_)
   simp (maxSteps := 2000000) only [go_sem]
   repeat' (with_reducible first | refine oD ?_ | refine And.intro (by first | exact hnc2 (by omega)) ?_ | refine oT (fun g6 => ?_) (fun g6 => ?_) | refine oE (fun g6 => ?_) (fun g6 => ?_))
   all_goals
    refine hK12 _ ?_
    refine AWP_cond rfl ?_ ?_
    ·
     intro c2
     try simp only [decide_eq_true_eq, decide_eq_false_iff_not, Bool.not_eq_true', Bool.not_eq_false', ne_eq, Int.not_lt, Int.not_le, Bool.true_eq_false, Bool.false_eq_true] at c2
     all_goals
      have hsv : (startV ((ns.getD k (0, 0, 0, [])).1, (ns.getD k (0, 0, 0, [])).2.1, (ns.getD k (0, 0, 0, [])).2.2.1, (ns.getD k (0, 0, 0, [])).2.2.2)).length = (startV ((pi, ts, ns, os).2.2.1.getD k n0)).length := rfl
      have hcf : cellB (pi, ts, ns, os) cc k = false := by first | exact cellB_f1 (by omega) | exact cellB_f2 (by assumption)
      refine oS fun K13 hK13 => ?_
      refine oW T_mHs10_ok ?_
      simp only [go_sem]
      refine hK13 _ ?_
      refine AWP_ret ?_
      simp only [hres, go_sem]
      first | exact oF | (refine ⟨?_, oF⟩; exact (stateB_f2 (p := (pi, ts, ns, os)) (k := k) (by show k < ns.length; omega) hcf).symm)
    ·
     intro c2
     try simp only [decide_eq_true_eq, decide_eq_false_iff_not, Bool.not_eq_true', Bool.not_eq_false', ne_eq, Int.not_lt, Int.not_le, Bool.true_eq_false, Bool.false_eq_true] at c2
     all_goals
      have hsv : (startV ((ns.getD k (0, 0, 0, [])).1, (ns.getD k (0, 0, 0, [])).2.1, (ns.getD k (0, 0, 0, [])).2.2.1, (ns.getD k (0, 0, 0, [])).2.2.2)).length = (startV ((pi, ts, ns, os).2.2.1.getD k n0)).length := rfl
      have hce : cellB (pi, ts, ns, os) cc k = true := cellB_t (by omega) (by assumption)
      refine AWP_skip ?_
      simp only [go_sem]
      refine hK10 _ ?_
      refine oW T_mHs10_ok ?_
      simp only [go_sem]
      refine hL7 ⟨k + 1, by omega, cellB_next hp hce⟩ _ (oK ?_) ?_
      ·
       simp (maxSteps := 2000000) only [go_sem]
       all_goals (first | rfl | ((repeat' refine And.intro ?_ ?_) <;> first | rfl | exact wk (by omega) | simp))
      ·
       first | (simp only []; omega) | omega | (simp; omega)
  intro c1
  refine AWP_exit ?_
  simp only [go_sem]
  refine hK5 _ ?_
  refine oS fun K14 hK14 => ?_
  refine oW T_mHs10_ok ?_
  simp only [go_sem]
  refine hK14 _ ?_
  refine AWP_ret ?_
  simp only [hres, go_sem]
  first | exact oF | (refine ⟨?_, oF⟩; exact (stateB_t (p := (pi, ts, ns, os)) (k := k) (by show cc.length = ns.length; omega) (by show ¬ k < ns.length; omega) hp).symm)
def T_isState : Tab := fun f => if f = 84 then some (.p K_isState) else T_mHs10 f
theorem T_isState_ok : TabOk Try.prog T_isState := tabP isState_ok (fnOk_of Try.func84 rfl (by decide)) T_mHs10_ok
attribute [go_sem] T_isState K_isState

def K_implVState : Con := ⟨[.val ((.prod (.int .i64) (.prod (.row 26 (.row 2 (.int .i64))) (.prod (.row 83 (.prod (.int .i64) (.prod (.int .i64) (.prod (.int .i64) (.row 2 (.int .i64)))))) (.row 2 (.int .i64)))))), .one (.row 26 (.row 2 (.int .i64)))], [⟨.bool, true⟩], fun _ => True, fun x => patchB x.1 && stateB x.1 x.2.1⟩
theorem implVState_ok : PureT Try.prog 56 K_implVState := by
  refine pure_of_body Try.func56 rfl ?_
  have hres : Try.f56.results.toList = [.tmp 4] := rfl
  rintro ⟨⟨(pi : Int), (ts : List (List Int)), (ns : List NodeD), (os : List Int)⟩, (cc : List (List Int)), _⟩ hc hL
  simp only [K_implVState, go_sem] at hL
  simp only [K_implVState, St.init, St.initG, Try.ntmps56, go_sem] 
  refine oS fun K1 hK1 => ?_
  refine oW T_isState_ok ?_
  simp only [go_sem]
  repeat (with_reducible first | refine oA ?_ | refine And.intro (by first | assumption) ?_)
  refine hK1 _ ?_
  refine oS fun K2 hK2 => ?_
  refine oW T_isState_ok ?_
  simp (maxSteps := 2000000) only [go_sem]
  repeat' (with_reducible first | refine oA ?_ | refine And.intro (by first | assumption) ?_ | refine oT (fun g1 => ?_) (fun g1 => ?_) | refine oE (fun g1 => ?_) (fun g1 => ?_))
  all_goals
   refine hK2 _ ?_
   refine AWP_ret ?_
   simp only [hres, go_sem]
   first | exact oF | (refine ⟨?_, oF⟩; clear hK1 hK2; simp_all)
def T_implVState : Tab := fun f => if f = 56 then some (.p K_implVState) else T_isState f
theorem T_implVState_ok : TabOk Try.prog T_implVState := tabP implVState_ok (fnOk_of Try.func56 rfl (by decide)) T_isState_ok
attribute [go_sem] T_implVState K_implVState

def K_frameCode : Con := ⟨[.val ((.prod (.int .i64) (.prod (.row 26 (.row 2 (.int .i64))) (.prod (.row 83 (.prod (.int .i64) (.prod (.int .i64) (.prod (.int .i64) (.row 2 (.int .i64)))))) (.row 2 (.int .i64)))))), .one (.row 26 (.row 2 (.int .i64))), .val ((.row 2 (.int .i64)))], [⟨.int .i64, true⟩], fun _ => True, fun x => codeF x.1 x.2.1 x.2.2.1⟩
theorem frameCode_ok : PureT Try.prog 31 K_frameCode := by
  refine pure_of_body Try.func31 rfl ?_
  have hres : Try.f31.results.toList = [.tmp 6] := rfl
  rintro ⟨⟨(pi : Int), (ts : List (List Int)), (ns : List NodeD), (os : List Int)⟩, (cc : List (List Int)), (ff : List Int), _⟩ hc hL
  simp only [K_frameCode, go_sem] at hL
  simp only [K_frameCode, St.init, St.initG, Try.ntmps31, go_sem] 
  refine oS fun K1 hK1 => ?_
  refine oW T_implVState_ok ?_
  simp only [go_sem]
  refine hK1 _ ?_
  refine oS fun K2 hK2 => ?_
  refine oS fun K3 hK3 => ?_
  refine oW T_implVState_ok ?_
  simp only [go_sem]
  repeat (with_reducible refine oA ?_)
  refine hK3 _ ?_
  refine oC rfl ?_ ?_
  ·
   intro c0
   refine oS fun K4 hK4 => ?_
   refine oW T_implVState_ok ?_
   simp only [go_sem]
   refine hK4 _ ?_
   refine AWP_ret ?_
   simp only [hres, go_sem]
   first | exact oF | (refine ⟨?_, oF⟩; exact (codeF_1 c0).symm)
  intro c0
  refine AWP_skip ?_
  simp only [go_sem]
  refine hK2 _ ?_
  refine oS fun K5 hK5 => ?_
  refine oS fun K6 hK6 => ?_
  refine oR T_implVState_ok
    [[], [0], [], [2], [0, 1, 2, 3], [0, 1, 2, 3, 4], [0, 1, 2, 3, 4, 5], [0, 1, 2, 3, 4, 5, 6], [0, 1, 2, 3, 4, 5, 6, 7], [0, 1, 2, 3, 4, 5, 6, 7, 8]]
    [[], [], [], [], [], [], [], [], [], []]
    [[], [], [], [], [], [], [], [], [], []] (by kernel_rfl) (by kernel_rfl) (adrawR_ok (acc := []) ?_)
  simp (maxSteps := 2000000) only [go_sem]
  repeat' (with_reducible first | refine oD ?_ | refine oT (fun g3 => ?_) (fun g3 => ?_) | refine oE (fun g3 => ?_) (fun g3 => ?_))
  all_goals
   refine hK6 _ ?_
   refine AWP_cond rfl ?_ ?_
   ·
    intro c1
    try simp only [decide_eq_true_eq, decide_eq_false_iff_not, Bool.not_eq_true', Bool.not_eq_false', ne_eq, Int.not_lt, Int.not_le, Bool.true_eq_false, Bool.false_eq_true] at c1
    all_goals
     refine oS fun K7 hK7 => ?_
     refine oW T_implVState_ok ?_
     simp only [go_sem]
     refine hK7 _ ?_
     refine AWP_ret ?_
     simp only [hres, go_sem]
     first | exact oF | (refine ⟨?_, oF⟩; first | exact (codeF_2 c0 (by rw [decide_eq_false (by omega)]; rfl)).symm | exact (codeF_2 c0 (by rw [show smps ff = false by assumption, Bool.and_false])).symm)
   ·
    intro c1
    try simp only [decide_eq_true_eq, decide_eq_false_iff_not, Bool.not_eq_true', Bool.not_eq_false', ne_eq, Int.not_lt, Int.not_le, Bool.true_eq_false, Bool.false_eq_true] at c1
    all_goals
     refine AWP_skip ?_
     simp only [go_sem]
     refine hK5 _ ?_
     refine oS fun K8 hK8 => ?_
     refine oW T_implVState_ok ?_
     simp only [go_sem]
     refine hK8 _ ?_
     refine AWP_ret ?_
     simp only [hres, go_sem]
     first | exact oF | (refine ⟨?_, oF⟩; exact (codeF_0 c0 (by rw [decide_eq_true (by omega), show smps ff = true by assumption]; rfl)).symm)
def T_frameCode : Tab := fun f => if f = 31 then some (.p K_frameCode) else T_implVState f
theorem T_frameCode_ok : TabOk Try.prog T_frameCode := tabP frameCode_ok (fnOk_of Try.func31 rfl (by decide)) T_implVState_ok
attribute [go_sem] T_frameCode K_frameCode

end Go.Proofs.Ytiafipboklboeaa
