/-
  Contracts of functions: isState, ValidState, frameCode.
-/
import Derived.Test.YthglggjgjlmhlaaGreatHr2
import Derived.Test.YthglggjgjlmhlaaGreatGa6
namespace Go.Proofs.YthglggjgjlmhlaaGreat
open Go.RowKit
set_option linter.unusedSimpArgs false
set_option linter.unusedVariables false

def T_mHs10 : Tab := fun f => match T_start f with
  | some k => some k
  | none => T_isPatch f
theorem T_mHs10_ok : TabOk Tryz.prog T_mHs10 := fun f k h => by
  unfold T_mHs10 at h
  split at h
  · rename_i e; cases h; exact T_start_ok f _ e
  · exact T_isPatch_ok f k h
attribute [go_sem] T_mHs10 T0


def K_isState : Con := ⟨[.val ((.prod (.int .i64) (.prod (.row 24 (.row 2 (.int .i64))) (.prod (.row 75 (.prod (.int .i64) (.prod (.int .i64) (.prod (.int .i64) (.row 2 (.int .i64)))))) (.row 2 (.int .i64)))))), .one (.row 24 (.row 2 (.int .i64)))], [⟨.bool, true⟩], fun x => patchB x.1 = true, fun x => stateB x.1 x.2.1⟩
set_option maxRecDepth 100000 in
set_option maxHeartbeats 4000000 in
theorem isState_ok : PureT Tryz.prog 50 K_isState := by
  refine pure_of_body Tryz.func50 rfl ?_
  have hres : Tryz.f50.results.toList = [.tmp 4] := rfl
  rintro ⟨⟨(pi : Int), (ts : List (List Int)), (ns : List NodeD), (os : List Int)⟩, (cc : List (List Int)), _⟩ hc hL
  simp only [K_isState, lensOk, PK.lenOk, glensOk, GP.lenOk, flensOk, GO.lenOk, olensOk, Ty.lenOk, Ty.flat, Bool.and_true, Bool.true_and, Bool.and_false, Bool.false_and, true_and, and_true, implies_true, forall_const] at hL
  obtain ⟨⟨lts, lns, los⟩, lcc, lcc2⟩ := hL
  simp only [K_isState, St.init, St.initG, Tryz.ntmps50, go_sem] 
  have hP : patchB (pi, ts, ns, os) = true := hc
  have hn24 : ns.length ≤ 24 := (formedB_parts (patchB_parts hP).1).1
  refine AWP_seq_k fun K1 hK1 => ?_
  refine AWP_region (G := G) (T := T_mHs10) T_mHs10_ok ?_
  simp only [go_sem]
  refine hK1 _ ?_
  refine AWP_seq_k fun K2 hK2 => ?_
  refine AWP_seq_k fun K3 hK3 => ?_
  refine AWP_region (G := G) (T := T_mHs10) T_mHs10_ok ?_
  simp (maxSteps := 2000000) only [go_sem]
  repeat (with_reducible refine And.intro (by first | omega | exact ⟨rfl, by omega, by omega, by omega⟩) ?_)
  refine hK3 _ ?_
  refine AWP_cond rfl ?_ ?_
  ·
   intro c0
   try simp only [decide_eq_true_eq, decide_eq_false_iff_not, Bool.not_eq_true', Bool.not_eq_false', ne_eq, Int.not_lt, Int.not_le] at c0
   refine AWP_seq_k fun K4 hK4 => ?_
   refine AWP_region (G := G) (T := T_mHs10) T_mHs10_ok ?_
   simp only [go_sem]
   refine hK4 _ ?_
   refine AWP_ret ?_
   simp only [hres, go_sem]
   first
     | exact finOk_mk (by rfl) (by decide)
     | refine ⟨?_, finOk_mk (by rfl) (by decide)⟩
       exact (stateB_f1 (p := (pi, ts, ns, os)) (show ¬ cc.length = ns.length by omega)).symm
  ·
   intro c0
   try simp only [decide_eq_true_eq, decide_eq_false_iff_not, Bool.not_eq_true', Bool.not_eq_false', ne_eq, Int.not_lt, Int.not_le] at c0
   refine AWP_skip ?_
   simp only [go_sem]
   refine hK2 _ ?_
   refine AWP_seq_k fun K5 hK5 => ?_
   refine AWP_seq_k fun K6 hK6 => ?_
   refine AWP_region (G := G) (T := T_mHs10) T_mHs10_ok ?_
   simp only [go_sem]
   repeat (with_reducible refine And.intro (by first | omega | exact ⟨rfl, by omega, by omega, by omega⟩) ?_)
   refine hK6 _ ?_
   refine AWP_block ?_
   refine AWP_loop_k (ι := { k : Nat // k ≤ ns.length ∧ ∀ i, i < k → cellB (pi, ts, ns, os) cc i = true }) (fun k => ⟨[zz, zz, zz, .c (.po 148 0), zz, zz, zz, zz, zz, zz, zz, zz, zz, zz, zz, .c (.rd [] 75 ((.prod (.int .i64) (.prod (.int .i64) (.prod (.int .i64) (.row 2 (.int .i64)))))) (ns)), .c (.sc (.int .i64 (ns.length))), .c (.sc (.int .i64 (k.1))), zz, zz, zz, zz, zz, zz, zz, zz, zz, zz, zz, zz, zz, zz, zz, zz, zz, zz, zz, zz, zz, zz, zz, zz], [(148, .box [.rd [] 24 ((.row 2 (.int .i64))) (cc)])]⟩) (fun k => ns.length - k.1) ⟨0, by simp, fun i hi => by omega⟩ ?_ ?_
   ·
    refine Wk_to (by rfl) ?_
    simp (maxSteps := 2000000) only [go_sem]
    all_goals (first | rfl | ((repeat' refine And.intro ?_ ?_) <;> first | rfl | simp))
   rintro ⟨k, hk, hp⟩ K7 hL7
   have hnc : k < ns.length → nodeC (ns.getD k (0, 0, 0, [])) := fun h => ⟨_, (nodeIn_parts (node_at (p := (pi, ts, ns, os)) (patchB_parts hP).1 h)).1⟩
   have hnc2 : k < ns.length → nodeC ((ns.getD k (0, 0, 0, [])).1, (ns.getD k (0, 0, 0, [])).2.1, (ns.getD k (0, 0, 0, [])).2.2.1, (ns.getD k (0, 0, 0, [])).2.2.2) := hnc
   refine AWP_seq_k fun K8 hK8 => ?_
   refine AWP_region (G := G) (T := T_mHs10) T_mHs10_ok ?_
   simp only [go_sem]
   refine hK8 _ ?_
   refine AWP_seq_k fun K9 hK9 => ?_
   refine AWP_cond rfl ?_ ?_
   ·
    intro c1
    try simp only [decide_eq_true_eq, decide_eq_false_iff_not, Bool.not_eq_true', Bool.not_eq_false', ne_eq, Int.not_lt, Int.not_le] at c1
    refine AWP_skip ?_
    simp only [go_sem]
    refine hK9 _ ?_
    refine AWP_seq_k fun K10 hK10 => ?_
    refine AWP_block ?_
    refine AWP_seq_k fun K11 hK11 => ?_
    refine AWP_region (G := G) (T := T_mHs10) T_mHs10_ok ?_
    simp (maxSteps := 2000000) only [go_sem]
    repeat (with_reducible refine And.intro (by first | omega | exact ⟨rfl, by omega, by omega, by omega⟩) ?_)
    refine hK11 _ ?_
    refine AWP_seq_k fun K12 hK12 => ?_
    refine AWP_draw (G := G) (T := T_mHs10) T_mHs10_ok mixed
      [[], [0], [], [0, 1, 2], [0, 1, 2, 3], [0, 1, 2, 3, 4], [], [6], [6, 7], [0, 1, 2, 3, 4, 5, 6, 7, 8], [0, 1, 2, 3, 4, 5, 6, 7, 8, 9], [0, 1, 2, 3, 4, 5, 6, 7, 8, 9, 10], [0, 1, 2, 3, 4, 5, 6, 7, 8, 9, 10, 11], [0, 1, 2, 3, 4, 5, 6, 7, 8, 9, 10], [0, 1, 2, 3, 4, 5, 6, 7, 8, 9, 10, 11, 12, 13], [0, 1, 2, 3, 4, 5, 6, 7, 8, 9, 10, 11, 12, 13, 14], [0, 1, 2, 3, 4, 5, 6, 7, 8, 9, 10, 11, 12, 13, 14, 15], [0, 1, 2, 3, 4, 5, 6, 7, 8, 9, 10, 11, 12, 13, 14, 15, 16], [0, 1, 2, 3, 4, 5, 6, 7, 8, 9, 10, 11, 12, 13, 14, 15, 16, 17]]
      [[564, 565, 566, 567, 568, 569, 570, 571, 572, 573, 574, 575, 576, 577, 578, 579], [564, 565, 566, 567, 568, 569, 570, 571, 572, 573, 574, 575, 576, 577, 578, 579], [564, 565, 566, 567, 568, 569, 570, 571, 572, 573, 574, 575, 576, 577, 578, 579], [564, 565, 566, 567, 568, 569, 570, 571, 572, 573, 574, 575, 576, 577, 578, 579], [564, 565, 566, 567, 568, 569, 570, 571, 572, 573, 574, 575, 576, 577, 578, 579], [564, 565, 566, 567, 568, 569, 570, 571, 572, 573, 574, 575, 576, 577, 578, 579], [], [], [], [], [], [], [], [], [], [], [], [], []]
      [[], [], [], [], [], [], [], [564, 565, 566, 567, 568, 569, 570, 571, 572, 573, 574, 575, 576, 577, 578, 579], [], [], [], [], [], [], [], [], [], [], []] (by kernel_rfl) (by kernel_rfl) (adrawR_ok (acc := []) ?_)
    simp (maxSteps := 2000000) only [go_sem]
    repeat' (first | (with_reducible refine And.intro (by first | exact chk_leaf (by kernel_rfl) | omega | exact ⟨rfl, by omega, by omega, by omega⟩ | exact hnc2 (by omega)) ?_) | (with_reducible refine gcase_dt (fun g6 => ?_) (fun g6 => ?_)) | (with_reducible refine gcase_df (fun g6 => ?_) (fun g6 => ?_)) | (with_reducible refine gcase_ndt (fun g6 => ?_) (fun g6 => ?_)) | (with_reducible refine gcase_ndf (fun g6 => ?_) (fun g6 => ?_)) | (with_reducible refine gcase_nt (fun g6 => ?_) (fun g6 => ?_)) | (with_reducible refine gcase_nf (fun g6 => ?_) (fun g6 => ?_)) | (with_reducible refine gcase_mk (fun g6 => ?_) (fun g6 => ?_)))
    all_goals
     refine hK12 _ ?_
     refine AWP_cond rfl ?_ ?_
     ·
      intro c2
      try simp only [decide_eq_true_eq, decide_eq_false_iff_not, Bool.not_eq_true', Bool.not_eq_false', ne_eq, Int.not_lt, Int.not_le, Bool.true_eq_false, Bool.false_eq_true] at c2
      all_goals
       have hsv : (startV ((ns.getD k (0, 0, 0, [])).1, (ns.getD k (0, 0, 0, [])).2.1, (ns.getD k (0, 0, 0, [])).2.2.1, (ns.getD k (0, 0, 0, [])).2.2.2)).length = (startV ((pi, ts, ns, os).2.2.1.getD k n0)).length := rfl
       have hcf : cellB (pi, ts, ns, os) cc k = false := by first | exact cellB_f1 (by omega) | exact cellB_f2 (by assumption)
       refine AWP_seq_k fun K13 hK13 => ?_
       refine AWP_region (G := G) (T := T_mHs10) T_mHs10_ok ?_
       simp only [go_sem]
       refine hK13 _ ?_
       refine AWP_ret ?_
       simp only [hres, go_sem]
       first
         | exact finOk_mk (by rfl) (by decide)
         | refine ⟨?_, finOk_mk (by rfl) (by decide)⟩
           exact (stateB_f2 (p := (pi, ts, ns, os)) (k := k) (by show k < ns.length; omega) hcf).symm
     ·
      intro c2
      try simp only [decide_eq_true_eq, decide_eq_false_iff_not, Bool.not_eq_true', Bool.not_eq_false', ne_eq, Int.not_lt, Int.not_le, Bool.true_eq_false, Bool.false_eq_true] at c2
      all_goals
       have hsv : (startV ((ns.getD k (0, 0, 0, [])).1, (ns.getD k (0, 0, 0, [])).2.1, (ns.getD k (0, 0, 0, [])).2.2.1, (ns.getD k (0, 0, 0, [])).2.2.2)).length = (startV ((pi, ts, ns, os).2.2.1.getD k n0)).length := rfl
       have hce : cellB (pi, ts, ns, os) cc k = true := cellB_t (by omega) (by assumption)
       refine AWP_skip ?_
       simp only [go_sem]
       refine hK10 _ ?_
       refine AWP_region (G := G) (T := T_mHs10) T_mHs10_ok ?_
       simp only [go_sem]
       refine hL7 ⟨k + 1, by omega, cellB_next hp hce⟩ _ (Wk_to (by rfl) ?_) ?_
       ·
        simp (maxSteps := 2000000) only [go_sem]
        all_goals (first | rfl | ((repeat' refine And.intro ?_ ?_) <;> first | rfl | exact wk (by omega) | simp))
       ·
        first | (simp only []; omega) | omega | (simp; omega)
   ·
    intro c1
    try simp only [decide_eq_true_eq, decide_eq_false_iff_not, Bool.not_eq_true', Bool.not_eq_false', ne_eq, Int.not_lt, Int.not_le] at c1
    refine AWP_exit ?_
    simp only [go_sem]
    refine hK5 _ ?_
    refine AWP_seq_k fun K14 hK14 => ?_
    refine AWP_region (G := G) (T := T_mHs10) T_mHs10_ok ?_
    simp only [go_sem]
    refine hK14 _ ?_
    refine AWP_ret ?_
    simp only [hres, go_sem]
    first
      | exact finOk_mk (by rfl) (by decide)
      | refine ⟨?_, finOk_mk (by rfl) (by decide)⟩
        exact (stateB_t (p := (pi, ts, ns, os)) (k := k) (by show cc.length = ns.length; omega) (by show ¬ k < ns.length; omega) hp).symm

theorem isState_fn : FnOk Tryz.prog 50 := fnOk_of Tryz.func50 rfl (by decide)

def T_isState : Tab := fun f => if f = 50 then some (.p K_isState) else T_mHs10 f
theorem T_isState_ok : TabOk Tryz.prog T_isState := fun f k h => by
  unfold T_isState at h
  split at h
  · rename_i e; cases h; subst e; exact ⟨isState_ok, isState_fn⟩
  · exact T_mHs10_ok f k h
attribute [go_sem] T_isState K_isState


def K_implVState : Con := ⟨[.val ((.prod (.int .i64) (.prod (.row 24 (.row 2 (.int .i64))) (.prod (.row 75 (.prod (.int .i64) (.prod (.int .i64) (.prod (.int .i64) (.row 2 (.int .i64)))))) (.row 2 (.int .i64)))))), .one (.row 24 (.row 2 (.int .i64)))], [⟨.bool, true⟩], fun _ => True, fun x => patchB x.1 && stateB x.1 x.2.1⟩
set_option maxRecDepth 100000 in
set_option maxHeartbeats 1000000 in
theorem implVState_ok : PureT Tryz.prog 29 K_implVState := by
  refine pure_of_body Tryz.func29 rfl ?_
  have hres : Tryz.f29.results.toList = [.tmp 4] := rfl
  rintro ⟨⟨(pi : Int), (ts : List (List Int)), (ns : List NodeD), (os : List Int)⟩, (cc : List (List Int)), _⟩ hc hL
  simp only [K_implVState, lensOk, PK.lenOk, glensOk, GP.lenOk, flensOk, GO.lenOk, olensOk, Ty.lenOk, Ty.flat, Bool.and_true, Bool.true_and, Bool.and_false, Bool.false_and, true_and, and_true, implies_true, forall_const] at hL
  simp only [K_implVState, St.init, St.initG, Tryz.ntmps29, go_sem] 
  refine AWP_seq_k fun K1 hK1 => ?_
  refine AWP_region (G := G) (T := T_isState) T_isState_ok ?_
  simp only [go_sem]
  repeat (with_reducible refine And.intro (by first | omega | exact ⟨rfl, by omega, by omega, by omega⟩ | assumption) ?_)
  refine hK1 _ ?_
  refine AWP_seq_k fun K2 hK2 => ?_
  refine AWP_region (G := G) (T := T_isState) T_isState_ok ?_
  simp (maxSteps := 2000000) only [go_sem]
  repeat' (first | (with_reducible refine And.intro (by first | omega | exact ⟨rfl, by omega, by omega, by omega⟩ | assumption) ?_) | (with_reducible refine gcase_dt (fun g1 => ?_) (fun g1 => ?_)) | (with_reducible refine gcase_df (fun g1 => ?_) (fun g1 => ?_)) | (with_reducible refine gcase_ndt (fun g1 => ?_) (fun g1 => ?_)) | (with_reducible refine gcase_ndf (fun g1 => ?_) (fun g1 => ?_)) | (with_reducible refine gcase_nt (fun g1 => ?_) (fun g1 => ?_)) | (with_reducible refine gcase_nf (fun g1 => ?_) (fun g1 => ?_)) | (with_reducible refine gcase_mk (fun g1 => ?_) (fun g1 => ?_)))
  all_goals
   refine hK2 _ ?_
   refine AWP_ret ?_
   simp only [hres, go_sem]
   first
     | exact finOk_mk (by rfl) (by decide)
     | refine ⟨?_, finOk_mk (by rfl) (by decide)⟩
       clear hK1 hK2; simp_all

theorem implVState_fn : FnOk Tryz.prog 29 := fnOk_of Tryz.func29 rfl (by decide)

def T_implVState : Tab := fun f => if f = 29 then some (.p K_implVState) else T_isState f
theorem T_implVState_ok : TabOk Tryz.prog T_implVState := fun f k h => by
  unfold T_implVState at h
  split at h
  · rename_i e; cases h; subst e; exact ⟨implVState_ok, implVState_fn⟩
  · exact T_isState_ok f k h
attribute [go_sem] T_implVState K_implVState


def T_frameCode : Tab := T_implVState
theorem T_frameCode_ok : TabOk Tryz.prog T_frameCode := T_implVState_ok
attribute [go_sem] T_frameCode
end Go.Proofs.YthglggjgjlmhlaaGreat
