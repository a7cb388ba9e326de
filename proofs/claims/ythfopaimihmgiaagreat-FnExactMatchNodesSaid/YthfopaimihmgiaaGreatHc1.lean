/-
  Contracts of functions: same, l00Same, sameKind, l12Key, isNaN[int64], Less[int64], insertionSortOrdered[int64], pdqsortOrdered[int64], Len64, Len, Sort[[]int64,int64], inputsOf, alike, l12Alike.
-/
import Derived.Test.YthfopaimihmgiaaGreatHr1
import Derived.Test.YthfopaimihmgiaaGreatPq
namespace Go.Proofs.YthfopaimihmgiaaGreat
open Go.RowKit
set_option linter.unusedSimpArgs false
set_option linter.unusedVariables false

def K_same : Con := ⟨[.val ((.row 2 (.int .i64))), .val ((.row 2 (.int .i64)))], [⟨.bool, true⟩], fun _ => True, fun x => eqD (x.1 : List Int) (x.2.1 : List Int)⟩
set_option maxRecDepth 100000 in
set_option maxHeartbeats 1000000 in
theorem same_ok : PureT Tryz.prog 123 K_same := by
  refine pure_of_body Tryz.func123 rfl ?_
  have hres : Tryz.f123.results.toList = [.tmp 4] := rfl
  rintro ⟨(xs : List Int), (ys : List Int), _⟩ hc hL
  simp only [K_same, lensOk, PK.lenOk, glensOk, GP.lenOk, flensOk, GO.lenOk, olensOk, Ty.lenOk, Ty.flat, Bool.and_true, Bool.true_and, Bool.and_false, Bool.false_and, true_and, and_true, implies_true, forall_const] at hL
  obtain ⟨lxs, lys⟩ := hL
  simp only [K_same, St.init, St.initG, Tryz.ntmps123, go_sem] 
  refine AWP_seq_k fun K1 hK1 => ?_
  refine AWP_region (G := G) (T := T_l07Map) T_l07Map_ok ?_
  simp only [go_sem]
  refine hK1 _ ?_
  refine AWP_seq_k fun K2 hK2 => ?_
  refine AWP_seq_k fun K3 hK3 => ?_
  refine AWP_region (G := G) (T := T_l07Map) T_l07Map_ok ?_
  simp (maxSteps := 2000000) only [go_sem]
  refine hK3 _ ?_
  refine AWP_cond rfl ?_ ?_
  ·
   intro c0
   try simp only [decide_eq_true_eq, decide_eq_false_iff_not, Bool.not_eq_true', Bool.not_eq_false', ne_eq, Int.not_lt, Int.not_le] at c0
   refine AWP_seq_k fun K4 hK4 => ?_
   refine AWP_region (G := G) (T := T_l07Map) T_l07Map_ok ?_
   simp only [go_sem]
   refine hK4 _ ?_
   refine AWP_ret ?_
   simp only [hres, go_sem]
   first
     | exact finOk_mk (by rfl) (by decide)
     | refine ⟨?_, finOk_mk (by rfl) (by decide)⟩
       exact (eq_len (by omega)).symm
  ·
   intro c0
   try simp only [decide_eq_true_eq, decide_eq_false_iff_not, Bool.not_eq_true', Bool.not_eq_false', ne_eq, Int.not_lt, Int.not_le] at c0
   refine AWP_skip ?_
   simp only [go_sem]
   refine hK2 _ ?_
   refine AWP_seq_k fun K5 hK5 => ?_
   refine AWP_seq_k fun K6 hK6 => ?_
   refine AWP_region (G := G) (T := T_l07Map) T_l07Map_ok ?_
   simp only [go_sem]
   refine hK6 _ ?_
   refine AWP_block ?_
   refine AWP_loop_k (ι := { k : Nat // k ≤ xs.length ∧ xs.take k = ys.take k }) (fun k => ⟨[zz, .c (.rd [] 2 (.int .i64) (ys)), zz, zz, zz, zz, zz, zz, zz, zz, zz, zz, .c (.rd [] 2 (.int .i64) (xs)), .c (.sc (.int .i64 (xs.length))), .c (.sc (.int .i64 (k.1))), zz, zz, zz, zz, zz, zz, zz, zz, zz, zz, zz], []⟩) (fun k => xs.length - k.1) ⟨0, by simp, by simp⟩ ?_ ?_
   ·
    refine Wk_to (by rfl) ?_
    simp (maxSteps := 2000000) only [go_sem]
    all_goals (first | rfl | ((repeat' refine And.intro ?_ ?_) <;> first | rfl | simp))
   rintro ⟨k, hk, hp⟩ K7 hL7
   refine AWP_seq_k fun K8 hK8 => ?_
   refine AWP_region (G := G) (T := T_l07Map) T_l07Map_ok ?_
   simp only [go_sem]
   refine hK8 _ ?_
   refine AWP_seq_k fun K9 hK9 => ?_
   refine AWP_cond rfl ?_ ?_
   ·
    intro c1
    try simp only [decide_eq_true_eq, decide_eq_false_iff_not, Bool.not_eq_true', Bool.not_eq_false', ne_eq, Int.not_lt, Int.not_le] at c1
    refine AWP_skip ?_
    simp only [go_sem]
    refine hK9 _ ?_
    refine AWP_seq_k fun K10 hK10 => ?_
    refine AWP_block ?_
    refine AWP_seq_k fun K11 hK11 => ?_
    refine AWP_region (G := G) (T := T_l07Map) T_l07Map_ok ?_
    simp (maxSteps := 2000000) only [go_sem]
    repeat (with_reducible refine And.intro (by first | omega | exact ⟨rfl, by omega, by omega, by omega⟩) ?_)
    refine hK11 _ ?_
    refine AWP_seq_k fun K12 hK12 => ?_
    refine AWP_region (G := G) (T := T_l07Map) T_l07Map_ok ?_
    simp (maxSteps := 2000000) only [go_sem]
    repeat (with_reducible refine And.intro (by first | omega | exact ⟨rfl, by omega, by omega, by omega⟩) ?_)
    refine hK12 _ ?_
    refine AWP_cond rfl ?_ ?_
    ·
     intro c2
     try simp only [decide_eq_true_eq, decide_eq_false_iff_not, Bool.not_eq_true', Bool.not_eq_false', ne_eq, Int.not_lt, Int.not_le] at c2
     refine AWP_seq_k fun K13 hK13 => ?_
     refine AWP_region (G := G) (T := T_l07Map) T_l07Map_ok ?_
     simp only [go_sem]
     refine hK13 _ ?_
     refine AWP_ret ?_
     simp only [hres, go_sem]
     first
       | exact finOk_mk (by rfl) (by decide)
       | refine ⟨?_, finOk_mk (by rfl) (by decide)⟩
         exact (eq_stop (0 : Int) (m := k) (decide_eq_false (by assumption))).symm
    ·
     intro c2
     try simp only [decide_eq_true_eq, decide_eq_false_iff_not, Bool.not_eq_true', Bool.not_eq_false', ne_eq, Int.not_lt, Int.not_le] at c2
     refine AWP_skip ?_
     simp only [go_sem]
     refine hK10 _ ?_
     refine AWP_region (G := G) (T := T_l07Map) T_l07Map_ok ?_
     simp only [go_sem]
     refine hL7 ⟨k + 1, by omega, eq_next (d := (0 : Int)) (by omega) (by omega) hp (decide_eq_true (by assumption))⟩ _ (Wk_to (by rfl) ?_) ?_
     ·
      simp (maxSteps := 2000000) only [go_sem]
      all_goals (first | rfl | ((repeat' refine And.intro ?_ ?_) <;> first | rfl | exact wk (by omega) | simp))
     ·
      first | (simp only []; omega) | omega | (simp; omega)
   ·
    intro c1
    try simp only [decide_eq_true_eq, decide_eq_false_iff_not, Bool.not_eq_true', Bool.not_eq_false', ne_eq, Int.not_lt, Int.not_le] at c1
    refine AWP_exit ?_
    simp only [go_sem]
    refine hK5 _ ?_
    refine AWP_seq_k fun K14 hK14 => ?_
    refine AWP_region (G := G) (T := T_l07Map) T_l07Map_ok ?_
    simp only [go_sem]
    refine hK14 _ ?_
    refine AWP_ret ?_
    simp only [hres, go_sem]
    first
      | exact finOk_mk (by rfl) (by decide)
      | refine ⟨?_, finOk_mk (by rfl) (by decide)⟩
        exact (eq_done (m := k) (by omega) (by omega) hp).symm

theorem same_fn : FnOk Tryz.prog 123 := fnOk_of Tryz.func123 rfl (by decide)

def T_same : Tab := fun f => if f = 123 then some (.p K_same) else T_l07Map f
theorem T_same_ok : TabOk Tryz.prog T_same := fun f k h => by
  unfold T_same at h
  split at h
  · rename_i e; cases h; subst e; exact ⟨same_ok, same_fn⟩
  · exact T_l07Map_ok f k h
attribute [go_sem] T_same K_same


def K_l00Same : Con := ⟨[.val ((.row 2 (.int .i64))), .val ((.row 2 (.int .i64)))], [⟨.bool, true⟩], fun _ => True, fun x => eqD (x.1 : List Int) (x.2.1 : List Int)⟩
set_option maxRecDepth 100000 in
set_option maxHeartbeats 1000000 in
theorem l00Same_ok : PureT Tryz.prog 166 K_l00Same := by
  refine pure_of_body Tryz.func166 rfl ?_
  have hres : Tryz.f166.results.toList = [.tmp 4] := rfl
  rintro ⟨(xs : List Int), (ys : List Int), _⟩ hc hL
  simp only [K_l00Same, lensOk, PK.lenOk, glensOk, GP.lenOk, flensOk, GO.lenOk, olensOk, Ty.lenOk, Ty.flat, Bool.and_true, Bool.true_and, Bool.and_false, Bool.false_and, true_and, and_true, implies_true, forall_const] at hL
  obtain ⟨lxs, lys⟩ := hL
  simp only [K_l00Same, St.init, St.initG, Tryz.ntmps166, go_sem] 
  refine AWP_seq_k fun K1 hK1 => ?_
  refine AWP_region (G := G) (T := T_same) T_same_ok ?_
  simp only [go_sem]
  refine hK1 _ ?_
  refine AWP_seq_k fun K2 hK2 => ?_
  refine AWP_seq_k fun K3 hK3 => ?_
  refine AWP_region (G := G) (T := T_same) T_same_ok ?_
  simp (maxSteps := 2000000) only [go_sem]
  refine hK3 _ ?_
  refine AWP_cond rfl ?_ ?_
  ·
   intro c0
   try simp only [decide_eq_true_eq, decide_eq_false_iff_not, Bool.not_eq_true', Bool.not_eq_false', ne_eq, Int.not_lt, Int.not_le] at c0
   refine AWP_seq_k fun K4 hK4 => ?_
   refine AWP_region (G := G) (T := T_same) T_same_ok ?_
   simp only [go_sem]
   refine hK4 _ ?_
   refine AWP_ret ?_
   simp only [hres, go_sem]
   first
     | exact finOk_mk (by rfl) (by decide)
     | refine ⟨?_, finOk_mk (by rfl) (by decide)⟩
       exact (eq_len (by omega)).symm
  ·
   intro c0
   try simp only [decide_eq_true_eq, decide_eq_false_iff_not, Bool.not_eq_true', Bool.not_eq_false', ne_eq, Int.not_lt, Int.not_le] at c0
   refine AWP_skip ?_
   simp only [go_sem]
   refine hK2 _ ?_
   refine AWP_seq_k fun K5 hK5 => ?_
   refine AWP_seq_k fun K6 hK6 => ?_
   refine AWP_region (G := G) (T := T_same) T_same_ok ?_
   simp only [go_sem]
   refine hK6 _ ?_
   refine AWP_block ?_
   refine AWP_loop_k (ι := { k : Nat // k ≤ xs.length ∧ xs.take k = ys.take k }) (fun k => ⟨[.c (.rd [] 2 (.int .i64) (xs)), .c (.rd [] 2 (.int .i64) (ys)), zz, zz, zz, .c (.sc (.int .i64 (k.1))), zz, zz, zz, zz, zz, zz, zz, zz, zz, zz, zz, zz, zz, zz, zz, zz, zz, zz, zz, zz], []⟩) (fun k => xs.length - k.1) ⟨0, by simp, by simp⟩ ?_ ?_
   ·
    refine Wk_to (by rfl) ?_
    simp (maxSteps := 2000000) only [go_sem]
    all_goals (first | rfl | ((repeat' refine And.intro ?_ ?_) <;> first | rfl | simp))
   rintro ⟨k, hk, hp⟩ K7 hL7
   refine AWP_seq_k fun K8 hK8 => ?_
   refine AWP_seq_k fun K9 hK9 => ?_
   refine AWP_region (G := G) (T := T_same) T_same_ok ?_
   simp only [go_sem]
   refine hK9 _ ?_
   refine AWP_cond rfl ?_ ?_
   ·
    intro c1
    try simp only [decide_eq_true_eq, decide_eq_false_iff_not, Bool.not_eq_true', Bool.not_eq_false', ne_eq, Int.not_lt, Int.not_le] at c1
    refine AWP_skip ?_
    simp only [go_sem]
    refine hK8 _ ?_
    refine AWP_seq_k fun K10 hK10 => ?_
    refine AWP_block ?_
    refine AWP_seq_k fun K11 hK11 => ?_
    refine AWP_draw (G := G) (T := T_same) T_same_ok mixed
      [[], [], [0, 1], [0, 1, 2], [], [], [4, 5], [4, 5, 6], [0, 1, 2, 3, 4, 5, 6, 7]]
      [[], [], [], [], [], [], [], [], []]
      [[], [], [], [], [], [], [], [], []] (by kernel_rfl) (by kernel_rfl) (adrawR_ok (acc := []) ?_)
    simp (maxSteps := 2000000) only [go_sem]
    repeat (with_reducible refine And.intro (by first | exact chk_leaf (by kernel_rfl) | omega | exact ⟨rfl, by omega, by omega, by omega⟩) ?_)
    refine hK11 _ ?_
    refine AWP_cond rfl ?_ ?_
    ·
     intro c2
     try simp only [decide_eq_true_eq, decide_eq_false_iff_not, Bool.not_eq_true', Bool.not_eq_false', ne_eq, Int.not_lt, Int.not_le] at c2
     refine AWP_seq_k fun K12 hK12 => ?_
     refine AWP_region (G := G) (T := T_same) T_same_ok ?_
     simp only [go_sem]
     refine hK12 _ ?_
     refine AWP_ret ?_
     simp only [hres, go_sem]
     first
       | exact finOk_mk (by rfl) (by decide)
       | refine ⟨?_, finOk_mk (by rfl) (by decide)⟩
         exact (eq_stop (0 : Int) (m := k) (decide_eq_false (by assumption))).symm
    ·
     intro c2
     try simp only [decide_eq_true_eq, decide_eq_false_iff_not, Bool.not_eq_true', Bool.not_eq_false', ne_eq, Int.not_lt, Int.not_le] at c2
     refine AWP_skip ?_
     simp only [go_sem]
     refine hK10 _ ?_
     refine AWP_region (G := G) (T := T_same) T_same_ok ?_
     simp only [go_sem]
     refine hL7 ⟨k + 1, by omega, eq_next (d := (0 : Int)) (by omega) (by omega) hp (decide_eq_true (by assumption))⟩ _ (Wk_to (by rfl) ?_) ?_
     ·
      simp (maxSteps := 2000000) only [go_sem]
      all_goals (first | rfl | ((repeat' refine And.intro ?_ ?_) <;> first | rfl | exact wk (by omega) | simp))
     ·
      first | (simp only []; omega) | omega | (simp; omega)
   ·
    intro c1
    try simp only [decide_eq_true_eq, decide_eq_false_iff_not, Bool.not_eq_true', Bool.not_eq_false', ne_eq, Int.not_lt, Int.not_le] at c1
    refine AWP_exit ?_
    simp only [go_sem]
    refine hK5 _ ?_
    refine AWP_seq_k fun K13 hK13 => ?_
    refine AWP_region (G := G) (T := T_same) T_same_ok ?_
    simp only [go_sem]
    refine hK13 _ ?_
    refine AWP_ret ?_
    simp only [hres, go_sem]
    first
      | exact finOk_mk (by rfl) (by decide)
      | refine ⟨?_, finOk_mk (by rfl) (by decide)⟩
        exact (eq_done (m := k) (by omega) (by omega) hp).symm

theorem l00Same_fn : FnOk Tryz.prog 166 := fnOk_of Tryz.func166 rfl (by decide)

def T_l00Same : Tab := fun f => if f = 166 then some (.p K_l00Same) else T_same f
theorem T_l00Same_ok : TabOk Tryz.prog T_l00Same := fun f k h => by
  unfold T_l00Same at h
  split at h
  · rename_i e; cases h; subst e; exact ⟨l00Same_ok, l00Same_fn⟩
  · exact T_same_ok f k h
attribute [go_sem] T_l00Same K_l00Same


def K_sameKind : Con := ⟨[.val ((.prod (.row 24 (.row 2 (.int .i64))) (.prod (.row 102 (.prod (.int .i64) (.prod (.int .i64) (.prod (.int .i64) (.row 2 (.int .i64)))))) (.row 2 (.int .i64))))), .val ((.prod (.int .i64) (.prod (.int .i64) (.prod (.int .i64) (.row 2 (.int .i64)))))), .val ((.prod (.int .i64) (.prod (.int .i64) (.prod (.int .i64) (.row 2 (.int .i64))))))], [⟨.bool, true⟩], fun x => tabIx x.1.1 x.2.1 ∧ tabIx x.1.1 x.2.2.1, fun x => keyB x.1.1 x.2.1 x.2.2.1⟩
set_option maxRecDepth 100000 in
set_option maxHeartbeats 1000000 in
theorem sameKind_ok : PureT Tryz.prog 121 K_sameKind := by
  refine pure_of_body Tryz.func121 rfl ?_
  have hres : Tryz.f121.results.toList = [.tmp 6] := rfl
  rintro ⟨⟨(ts : List (List Int)), (ns : List NodeD), (os : List Int)⟩, ⟨(kd : Int), (a : Int), (bb : Int), (fr : List Int)⟩, ⟨(kd2 : Int), (a2 : Int), (bb2 : Int), (fr2 : List Int)⟩, _⟩ hc hL
  simp only [K_sameKind, lensOk, PK.lenOk, glensOk, GP.lenOk, flensOk, GO.lenOk, olensOk, Ty.lenOk, Ty.flat, Bool.and_true, Bool.true_and, Bool.and_false, Bool.false_and, true_and, and_true, implies_true, forall_const] at hL
  simp only [K_sameKind, St.init, St.initG, Tryz.ntmps121, go_sem] 
  obtain ⟨h1, h2⟩ := (show tabIx ts (kd, a, bb, fr) ∧ tabIx ts (kd2, a2, bb2, fr2) from hc)
  have h1 : kd = 13 → 0 ≤ a ∧ a < ts.length := h1
  have h2 : kd2 = 13 → 0 ≤ a2 ∧ a2 < ts.length := h2
  refine AWP_seq_k fun K1 hK1 => ?_
  refine AWP_region (G := G) (T := T_l00Same) T_l00Same_ok ?_
  simp only [go_sem]
  refine hK1 _ ?_
  refine AWP_seq_k fun K2 hK2 => ?_
  refine AWP_seq_k fun K3 hK3 => ?_
  refine AWP_region (G := G) (T := T_l00Same) T_l00Same_ok ?_
  simp (maxSteps := 2000000) only [go_sem]
  repeat' (first | (with_reducible refine And.intro (by first | omega | exact ⟨rfl, by omega, by omega, by omega⟩) ?_) | (with_reducible refine gcase_dt (fun g1 => ?_) (fun g1 => ?_)) | (with_reducible refine gcase_df (fun g1 => ?_) (fun g1 => ?_)) | (with_reducible refine gcase_ndt (fun g1 => ?_) (fun g1 => ?_)) | (with_reducible refine gcase_ndf (fun g1 => ?_) (fun g1 => ?_)) | (with_reducible refine gcase_nt (fun g1 => ?_) (fun g1 => ?_)) | (with_reducible refine gcase_nf (fun g1 => ?_) (fun g1 => ?_)) | (with_reducible refine gcase_mk (fun g1 => ?_) (fun g1 => ?_)))
  all_goals
   refine hK3 _ ?_
   refine AWP_cond rfl ?_ ?_
   ·
    intro c0
    try simp only [decide_eq_true_eq, decide_eq_false_iff_not, Bool.not_eq_true', Bool.not_eq_false', ne_eq, Int.not_lt, Int.not_le, Bool.true_eq_false, Bool.false_eq_true] at c0
    all_goals
     refine AWP_seq_k fun K4 hK4 => ?_
     refine AWP_region (G := G) (T := T_l00Same) T_l00Same_ok ?_
     simp only [go_sem]
     refine hK4 _ ?_
     refine AWP_ret ?_
     simp only [hres, go_sem]
     first
       | exact finOk_mk (by rfl) (by decide)
       | refine ⟨?_, finOk_mk (by rfl) (by decide)⟩
         first | exact (keyB_f1 (a := (kd, a, bb, fr)) (b := (kd2, a2, bb2, fr2)) (show ¬ kd = kd2 by assumption)).symm | exact (keyB_f2 (a := (kd, a, bb, fr)) (b := (kd2, a2, bb2, fr2)) (show ¬ bb = bb2 by assumption)).symm
   ·
    intro c0
    try simp only [decide_eq_true_eq, decide_eq_false_iff_not, Bool.not_eq_true', Bool.not_eq_false', ne_eq, Int.not_lt, Int.not_le, Bool.true_eq_false, Bool.false_eq_true] at c0
    all_goals
     refine AWP_skip ?_
     simp only [go_sem]
     refine hK2 _ ?_
     refine AWP_seq_k fun K5 hK5 => ?_
     refine AWP_seq_k fun K6 hK6 => ?_
     refine AWP_region (G := G) (T := T_l00Same) T_l00Same_ok ?_
     simp only [go_sem]
     repeat (with_reducible refine And.intro (by first | omega | exact ⟨rfl, by omega, by omega, by omega⟩) ?_)
     refine hK6 _ ?_
     refine AWP_cond rfl ?_ ?_
     ·
      intro c1
      try simp only [decide_eq_true_eq, decide_eq_false_iff_not, Bool.not_eq_true', Bool.not_eq_false', ne_eq, Int.not_lt, Int.not_le, Bool.true_eq_false, Bool.false_eq_true] at c1
      all_goals
       refine AWP_seq_k fun K7 hK7 => ?_
       have h3 := h1 (by assumption)
       have e1 : kd = kd2 := by assumption
       have h4 := h2 (by omega)
       refine AWP_draw (G := G) (T := T_l00Same) T_l00Same_ok mixed
         [[], [0], [], [2], [0, 1, 2, 3], [0, 1, 2, 3, 4], [], [6], [], [8], [6, 7, 8, 9], [6, 7, 8, 9, 10], [0, 1, 2, 3, 4, 5, 6, 7, 8, 9, 10, 11], [0, 1, 2, 3, 4, 5, 6, 7, 8, 9, 10, 11, 12]]
         [[], [], [], [], [], [], [], [], [], [], [], [], [], []]
         [[], [], [], [], [], [], [], [], [], [], [], [], [], []] (by kernel_rfl) (by kernel_rfl) (adrawR_ok (acc := []) ?_)
       simp (maxSteps := 2000000) only [go_sem]
       repeat (with_reducible refine And.intro (by first | exact chk_leaf (by kernel_rfl) | omega | exact ⟨rfl, by omega, by omega, by omega⟩ | exact ⟨by omega, by omega⟩) ?_)
       refine hK7 _ ?_
       refine AWP_ret ?_
       simp only [hres, go_sem]
       first
         | exact finOk_mk (by rfl) (by decide)
         | refine ⟨?_, finOk_mk (by rfl) (by decide)⟩
           exact (keyB_tab (a := (kd, a, bb, fr)) (b := (kd2, a2, bb2, fr2)) (show kd = kd2 by assumption) (show bb = bb2 by assumption) (show kd = 13 by assumption)).symm
     ·
      intro c1
      try simp only [decide_eq_true_eq, decide_eq_false_iff_not, Bool.not_eq_true', Bool.not_eq_false', ne_eq, Int.not_lt, Int.not_le, Bool.true_eq_false, Bool.false_eq_true] at c1
      all_goals
       refine AWP_skip ?_
       simp only [go_sem]
       refine hK5 _ ?_
       refine AWP_seq_k fun K8 hK8 => ?_
       refine AWP_region (G := G) (T := T_l00Same) T_l00Same_ok ?_
       simp (maxSteps := 2000000) only [go_sem]
       repeat (with_reducible refine And.intro (by first | omega | exact ⟨rfl, by omega, by omega, by omega⟩) ?_)
       refine hK8 _ ?_
       refine AWP_ret ?_
       simp only [hres, go_sem]
       first
         | exact finOk_mk (by rfl) (by decide)
         | refine ⟨?_, finOk_mk (by rfl) (by decide)⟩
           exact (keyB_A (a := (kd, a, bb, fr)) (b := (kd2, a2, bb2, fr2)) (show kd = kd2 by assumption) (show bb = bb2 by assumption) (show ¬ kd = 13 by assumption)).symm

theorem sameKind_fn : FnOk Tryz.prog 121 := fnOk_of Tryz.func121 rfl (by decide)

def T_sameKind : Tab := fun f => if f = 121 then some (.p K_sameKind) else T_l00Same f
theorem T_sameKind_ok : TabOk Tryz.prog T_sameKind := fun f k h => by
  unfold T_sameKind at h
  split at h
  · rename_i e; cases h; subst e; exact ⟨sameKind_ok, sameKind_fn⟩
  · exact T_l00Same_ok f k h
attribute [go_sem] T_sameKind K_sameKind


def K_l12Key : Con := ⟨[.ptr (.prod (.int .i64) (.prod (.row 24 (.row 2 (.int .i64))) (.prod (.row 102 (.prod (.int .i64) (.prod (.int .i64) (.prod (.int .i64) (.row 2 (.int .i64)))))) (.row 2 (.int .i64))))), .ptr (.prod (.int .i64) (.prod (.int .i64) (.prod (.int .i64) (.row 2 (.int .i64))))), .ptr (.prod (.int .i64) (.prod (.int .i64) (.prod (.int .i64) (.row 2 (.int .i64)))))], [⟨.bool, true⟩], fun x => tabIx x.1.2.1 x.2.1 ∧ tabIx x.1.2.1 x.2.2.1, fun x => keyB x.1.2.1 x.2.1 x.2.2.1⟩
set_option maxRecDepth 100000 in
set_option maxHeartbeats 1000000 in
theorem l12Key_ok : PureT Tryz.prog 180 K_l12Key := by
  refine pure_of_body Tryz.func180 rfl ?_
  have hres : Tryz.f180.results.toList = [.tmp 6] := rfl
  rintro ⟨⟨(pi : Int), (ts : List (List Int)), (ns : List NodeD), (os : List Int)⟩, ⟨(kd : Int), (a : Int), (bb : Int), (fr : List Int)⟩, ⟨(kd2 : Int), (a2 : Int), (bb2 : Int), (fr2 : List Int)⟩, _⟩ hc hL
  simp only [K_l12Key, lensOk, PK.lenOk, glensOk, GP.lenOk, flensOk, GO.lenOk, olensOk, Ty.lenOk, Ty.flat, Bool.and_true, Bool.true_and, Bool.and_false, Bool.false_and, true_and, and_true, implies_true, forall_const] at hL
  simp only [K_l12Key, St.init, St.initG, Tryz.ntmps180, go_sem] 
  obtain ⟨h1, h2⟩ := (show tabIx ts (kd, a, bb, fr) ∧ tabIx ts (kd2, a2, bb2, fr2) from hc)
  have h1 : kd = 13 → 0 ≤ a ∧ a < ts.length := h1
  have h2 : kd2 = 13 → 0 ≤ a2 ∧ a2 < ts.length := h2
  refine AWP_seq_k fun K1 hK1 => ?_
  refine AWP_region (G := G) (T := T_sameKind) T_sameKind_ok ?_
  simp only [go_sem]
  refine hK1 _ ?_
  refine AWP_seq_k fun K2 hK2 => ?_
  refine AWP_seq_k fun K3 hK3 => ?_
  refine AWP_draw (G := G) (T := T_sameKind) T_sameKind_ok mixed
    [[], [0], [0, 1], [0, 1, 2], [], [4], [4, 5], [4, 5, 6], [0, 1, 2, 3, 4, 5, 6, 7], [0, 1, 2, 3, 4, 5, 6, 7, 8], [0, 1, 2, 3, 4, 5, 6, 7, 8, 9], [0, 1, 2, 3, 4, 5, 6, 7, 8, 9, 10], [0, 1, 2, 3, 4, 5, 6, 7, 8, 9, 10, 11], [0, 1, 2, 3, 4, 5, 6, 7, 8, 9, 10, 11, 12], [0, 1, 2, 3, 4, 5, 6, 7, 8, 9], [0, 1, 2, 3, 4, 5, 6, 7, 8, 9, 14], [0, 1, 2, 3, 4, 5, 6, 7, 8, 9, 14, 15], [0, 1, 2, 3, 4, 5, 6, 7, 8, 9, 14, 15, 16], [0, 1, 2, 3, 4, 5, 6, 7, 8, 9, 10, 11, 12, 13, 14, 15, 16, 17], [0, 1, 2, 3, 4, 5, 6, 7, 8, 9, 10, 11, 12, 13, 14, 15, 16, 17, 18]]
    [[], [], [], [], [], [], [], [], [], [], [], [], [], [], [], [], [], [], [], []]
    [[], [], [], [], [], [], [], [], [], [], [], [], [], [], [], [], [], [], [], []] (by kernel_rfl) (by kernel_rfl) (adrawR_ok (acc := []) ?_)
  simp (maxSteps := 2000000) only [go_sem]
  repeat' (first | (with_reducible refine And.intro (by first | exact chk_leaf (by kernel_rfl) | omega | exact ⟨rfl, by omega, by omega, by omega⟩) ?_) | (with_reducible refine gcase_dt (fun g1 => ?_) (fun g1 => ?_)) | (with_reducible refine gcase_df (fun g1 => ?_) (fun g1 => ?_)) | (with_reducible refine gcase_ndt (fun g1 => ?_) (fun g1 => ?_)) | (with_reducible refine gcase_ndf (fun g1 => ?_) (fun g1 => ?_)) | (with_reducible refine gcase_nt (fun g1 => ?_) (fun g1 => ?_)) | (with_reducible refine gcase_nf (fun g1 => ?_) (fun g1 => ?_)) | (with_reducible refine gcase_mk (fun g1 => ?_) (fun g1 => ?_)))
  all_goals
   refine hK3 _ ?_
   refine AWP_cond rfl ?_ ?_
   ·
    intro c0
    try simp only [decide_eq_true_eq, decide_eq_false_iff_not, Bool.not_eq_true', Bool.not_eq_false', ne_eq, Int.not_lt, Int.not_le, Bool.true_eq_false, Bool.false_eq_true] at c0
    all_goals
     refine AWP_seq_k fun K4 hK4 => ?_
     refine AWP_region (G := G) (T := T_sameKind) T_sameKind_ok ?_
     simp only [go_sem]
     refine hK4 _ ?_
     refine AWP_ret ?_
     simp only [hres, go_sem]
     first
       | exact finOk_mk (by rfl) (by decide)
       | refine ⟨?_, finOk_mk (by rfl) (by decide)⟩
         first | exact (keyB_f1 (a := (kd, a, bb, fr)) (b := (kd2, a2, bb2, fr2)) (show ¬ kd = kd2 by assumption)).symm | exact (keyB_f2 (a := (kd, a, bb, fr)) (b := (kd2, a2, bb2, fr2)) (show ¬ bb = bb2 by assumption)).symm
   ·
    intro c0
    try simp only [decide_eq_true_eq, decide_eq_false_iff_not, Bool.not_eq_true', Bool.not_eq_false', ne_eq, Int.not_lt, Int.not_le, Bool.true_eq_false, Bool.false_eq_true] at c0
    all_goals
     refine AWP_skip ?_
     simp only [go_sem]
     refine hK2 _ ?_
     refine AWP_seq_k fun K5 hK5 => ?_
     refine AWP_seq_k fun K6 hK6 => ?_
     refine AWP_region (G := G) (T := T_sameKind) T_sameKind_ok ?_
     simp (maxSteps := 2000000) only [go_sem]
     repeat (with_reducible refine And.intro (by first | omega | exact ⟨rfl, by omega, by omega, by omega⟩) ?_)
     refine hK6 _ ?_
     refine AWP_cond rfl ?_ ?_
     ·
      intro c1
      try simp only [decide_eq_true_eq, decide_eq_false_iff_not, Bool.not_eq_true', Bool.not_eq_false', ne_eq, Int.not_lt, Int.not_le, Bool.true_eq_false, Bool.false_eq_true] at c1
      all_goals
       refine AWP_seq_k fun K7 hK7 => ?_
       have h3 := h1 (by assumption)
       have e1 : kd = kd2 := by assumption
       have h4 := h2 (by omega)
       refine AWP_draw (G := G) (T := T_sameKind) T_sameKind_ok mixed
         [[], [0], [0, 1], [0, 1, 2], [], [4], [4, 5], [4, 5, 6], [0, 1, 2, 3, 4, 5, 6, 7], [0, 1, 2, 3, 4, 5, 6, 7, 8], [], [10], [10, 11], [10, 11, 12], [], [14], [14, 15], [14, 15, 16], [10, 11, 12, 13, 14, 15, 16, 17], [10, 11, 12, 13, 14, 15, 16, 17, 18], [0, 1, 2, 3, 4, 5, 6, 7, 8, 9, 10, 11, 12, 13, 14, 15, 16, 17, 18, 19], [0, 1, 2, 3, 4, 5, 6, 7, 8, 9, 10, 11, 12, 13, 14, 15, 16, 17, 18, 19, 20]]
         [[], [], [], [], [], [], [], [], [], [], [], [], [], [], [], [], [], [], [], [], [], []]
         [[], [], [], [], [], [], [], [], [], [], [], [], [], [], [], [], [], [], [], [], [], []] (by kernel_rfl) (by kernel_rfl) (adrawR_ok (acc := []) ?_)
       simp (maxSteps := 2000000) only [go_sem]
       repeat (with_reducible refine And.intro (by first | exact chk_leaf (by kernel_rfl) | omega | exact ⟨rfl, by omega, by omega, by omega⟩ | exact ⟨by omega, by omega⟩) ?_)
       refine hK7 _ ?_
       refine AWP_ret ?_
       simp only [hres, go_sem]
       first
         | exact finOk_mk (by rfl) (by decide)
         | refine ⟨?_, finOk_mk (by rfl) (by decide)⟩
           exact (keyB_tab (a := (kd, a, bb, fr)) (b := (kd2, a2, bb2, fr2)) (show kd = kd2 by assumption) (show bb = bb2 by assumption) (show kd = 13 by assumption)).symm
     ·
      intro c1
      try simp only [decide_eq_true_eq, decide_eq_false_iff_not, Bool.not_eq_true', Bool.not_eq_false', ne_eq, Int.not_lt, Int.not_le, Bool.true_eq_false, Bool.false_eq_true] at c1
      all_goals
       refine AWP_skip ?_
       simp only [go_sem]
       refine hK5 _ ?_
       refine AWP_seq_k fun K8 hK8 => ?_
       refine AWP_draw (G := G) (T := T_sameKind) T_sameKind_ok mixed
         [[], [0], [0, 1], [0, 1, 2], [], [4], [4, 5], [4, 5, 6], [0, 1, 2, 3, 4, 5, 6, 7], [0, 1, 2, 3, 4, 5, 6, 7, 8]]
         [[], [], [], [], [], [], [], [], [], []]
         [[], [], [], [], [], [], [], [], [], []] (by kernel_rfl) (by kernel_rfl) (adrawR_ok (acc := []) ?_)
       simp (maxSteps := 2000000) only [go_sem]
       repeat (with_reducible refine And.intro (by first | exact chk_leaf (by kernel_rfl) | omega | exact ⟨rfl, by omega, by omega, by omega⟩) ?_)
       refine hK8 _ ?_
       refine AWP_ret ?_
       simp only [hres, go_sem]
       first
         | exact finOk_mk (by rfl) (by decide)
         | refine ⟨?_, finOk_mk (by rfl) (by decide)⟩
           exact (keyB_A (a := (kd, a, bb, fr)) (b := (kd2, a2, bb2, fr2)) (show kd = kd2 by assumption) (show bb = bb2 by assumption) (show ¬ kd = 13 by assumption)).symm

theorem l12Key_fn : FnOk Tryz.prog 180 := fnOk_of Tryz.func180 rfl (by decide)

def T_l12Key : Tab := fun f => if f = 180 then some (.p K_l12Key) else T_sameKind f
theorem T_l12Key_ok : TabOk Tryz.prog T_l12Key := fun f k h => by
  unfold T_l12Key at h
  split at h
  · rename_i e; cases h; subst e; exact ⟨l12Key_ok, l12Key_fn⟩
  · exact T_sameKind_ok f k h
attribute [go_sem] T_l12Key K_l12Key


def K_isNaN : Con := ⟨[.val (.int .i64)], [⟨.bool, true⟩], fun _ => True, fun _ => false⟩
set_option maxRecDepth 100000 in
set_option maxHeartbeats 1000000 in
theorem isNaN_ok : PureT Tryz.prog 259 K_isNaN := by
  refine pure_of_body Tryz.func259 rfl ?_
  have hres : Tryz.f259.results.toList = [.tmp 2] := rfl
  rintro ⟨(x : Int), _⟩ hc hL
  simp only [K_isNaN, lensOk, PK.lenOk, glensOk, GP.lenOk, flensOk, GO.lenOk, olensOk, Ty.lenOk, Ty.flat, Bool.and_true, Bool.true_and, Bool.and_false, Bool.false_and, true_and, and_true, implies_true, forall_const] at hL
  simp only [K_isNaN, St.init, St.initG, Tryz.ntmps259, go_sem] 
  refine AWP_seq_k fun K1 hK1 => ?_
  refine AWP_region (G := G) (T := T_l12Key) T_l12Key_ok ?_
  simp only [go_sem]
  refine hK1 _ ?_
  refine AWP_seq_k fun K2 hK2 => ?_
  refine AWP_region (G := G) (T := T_l12Key) T_l12Key_ok ?_
  simp only [go_sem]
  refine hK2 _ ?_
  refine AWP_ret ?_
  simp only [hres, go_sem]
  first
    | exact finOk_mk (by rfl) (by decide)
    | refine ⟨?_, finOk_mk (by rfl) (by decide)⟩
      first | rfl | simp

theorem isNaN_fn : FnOk Tryz.prog 259 := fnOk_of Tryz.func259 rfl (by decide)

def T_isNaN : Tab := fun f => if f = 259 then some (.p K_isNaN) else T_l12Key f
theorem T_isNaN_ok : TabOk Tryz.prog T_isNaN := fun f k h => by
  unfold T_isNaN at h
  split at h
  · rename_i e; cases h; subst e; exact ⟨isNaN_ok, isNaN_fn⟩
  · exact T_l12Key_ok f k h
attribute [go_sem] T_isNaN K_isNaN


def K_cmpLess : Con := ⟨[.val (.int .i64), .val (.int .i64)], [⟨.bool, true⟩], fun _ => True, fun x => decide (x.1 < x.2.1)⟩
set_option maxRecDepth 100000 in
set_option maxHeartbeats 1000000 in
theorem cmpLess_ok : PureT Tryz.prog 246 K_cmpLess := by
  refine pure_of_body Tryz.func246 rfl ?_
  have hres : Tryz.f246.results.toList = [.tmp 4] := rfl
  rintro ⟨(x : Int), (y : Int), _⟩ hc hL
  simp only [K_cmpLess, lensOk, PK.lenOk, glensOk, GP.lenOk, flensOk, GO.lenOk, olensOk, Ty.lenOk, Ty.flat, Bool.and_true, Bool.true_and, Bool.and_false, Bool.false_and, true_and, and_true, implies_true, forall_const] at hL
  simp only [K_cmpLess, St.init, St.initG, Tryz.ntmps246, go_sem] 
  refine AWP_seq_k fun K1 hK1 => ?_
  refine AWP_region (G := G) (T := T_isNaN) T_isNaN_ok ?_
  simp only [go_sem]
  refine hK1 _ ?_
  refine AWP_seq_k fun K2 hK2 => ?_
  refine AWP_region (G := G) (T := T_isNaN) T_isNaN_ok ?_
  simp (maxSteps := 2000000) only [go_sem]
  repeat' (first | (with_reducible refine And.intro (by first | omega | exact ⟨rfl, by omega, by omega, by omega⟩) ?_) | (with_reducible refine gcase_dt (fun g1 => ?_) (fun g1 => ?_)) | (with_reducible refine gcase_df (fun g1 => ?_) (fun g1 => ?_)) | (with_reducible refine gcase_ndt (fun g1 => ?_) (fun g1 => ?_)) | (with_reducible refine gcase_ndf (fun g1 => ?_) (fun g1 => ?_)) | (with_reducible refine gcase_nt (fun g1 => ?_) (fun g1 => ?_)) | (with_reducible refine gcase_nf (fun g1 => ?_) (fun g1 => ?_)) | (with_reducible refine gcase_mk (fun g1 => ?_) (fun g1 => ?_)))
  all_goals
   refine hK2 _ ?_
   refine AWP_ret ?_
   simp only [hres, go_sem]
   first
     | exact finOk_mk (by rfl) (by decide)
     | refine ⟨?_, finOk_mk (by rfl) (by decide)⟩
       first | rfl | simp

theorem cmpLess_fn : FnOk Tryz.prog 246 := fnOk_of Tryz.func246 rfl (by decide)

def T_cmpLess : Tab := fun f => if f = 246 then some (.p K_cmpLess) else T_isNaN f
theorem T_cmpLess_ok : TabOk Tryz.prog T_cmpLess := fun f k h => by
  unfold T_cmpLess at h
  split at h
  · rename_i e; cases h; subst e; exact ⟨cmpLess_ok, cmpLess_fn⟩
  · exact T_isNaN_ok f k h
attribute [go_sem] T_cmpLess K_cmpLess


def K_insSort : GCon where
  ps := [.ow 0, .val (.int .i64), .val (.int .i64)]
  os := [.row 2 (.int .i64)]
  c := fun x => x.1.2.1 = 0 ∧ x.1.2.2.1 = (x.2.1.length : Int) ∧ x.2.1.length ≤ 12
  r := fun _ => .tup []
  o := fun x => [(30, .row 2 (.int .i64) (insI x.2.1 (List.length x.2.1 - 1)) [])]
  ok := by
    rintro ⟨⟨_, (aa : Int), (be : Int), _⟩, ⟨(xs : List Int), _⟩⟩
    exact ⟨rfl, rfl, by decide⟩
set_option maxRecDepth 100000 in
set_option maxHeartbeats 4000000 in
theorem insSort_ok : GenT Tryz.prog 240 K_insSort := by
  refine gen_of_body Tryz.func240 rfl ?_
  have hres : Tryz.f240.results.toList = [] := rfl
  rintro ⟨⟨_, (aa : Int), (be : Int), _⟩, ⟨(xs : List Int), _⟩⟩ hc hL hO
  simp only [K_insSort, lensOk, PK.lenOk, glensOk, GP.lenOk, flensOk, GO.lenOk, olensOk, Ty.lenOk, Ty.flat, Bool.and_true, Bool.true_and, Bool.and_false, Bool.false_and, true_and, and_true, implies_true, forall_const] at hL
  simp only [K_insSort, lensOk, PK.lenOk, glensOk, GP.lenOk, flensOk, GO.lenOk, olensOk, Ty.lenOk, Ty.flat, Bool.and_true, Bool.true_and, Bool.and_false, Bool.false_and, true_and, and_true, implies_true, forall_const] at hO
  simp only [K_insSort, St.init, St.initG, Tryz.ntmps240, go_sem] 
  obtain ⟨h1, h2, h3⟩ := (show aa = 0 ∧ be = (xs.length : Int) ∧ xs.length ≤ 12 from hc)
  subst h1 h2
  refine AWP_seq_k fun K1 hK1 => ?_
  refine AWP_region (G := G) (T := T_cmpLess) T_cmpLess_ok ?_
  simp only [go_sem]
  refine hK1 _ ?_
  refine AWP_block ?_
  refine AWP_loop_k (ι := { k : Nat // k ≤ xs.length - 1 }) (fun k => ⟨[.c (.ow 30), .c (.sc (.int .i64 (0))), .c (.sc (.int .i64 (xs.length))), zz, zz, zz, .c (.sc (.int .i64 (((k.1 + 1 : Nat) : Int)))), zz, zz, zz, zz, zz, zz, zz, zz, zz, zz, zz, zz, zz, zz, zz, zz, zz, zz, zz, zz, zz, zz, zz, zz, zz, zz, zz, zz, zz, zz, zz, zz, zz, zz, zz, zz, zz, zz, zz, zz, zz, zz], [(30, .row 2 (.int .i64) (insI xs k.1) [])]⟩) (fun k => xs.length - k.1) ⟨0, by simp⟩ ?_ ?_
  ·
   refine Wk_to (by rfl) ?_
   simp (maxSteps := 2000000) only [go_sem]
   all_goals ((repeat' refine And.intro ?_ ?_) <;> first | rfl | decide | simp)
  rintro ⟨k, hk⟩ K2 hL2
  have hil := insI_len xs k
  refine AWP_seq_k fun K3 hK3 => ?_
  refine AWP_seq_k fun K4 hK4 => ?_
  refine AWP_region (G := G) (T := T_cmpLess) T_cmpLess_ok ?_
  simp only [go_sem]
  refine hK4 _ ?_
  refine AWP_cond rfl ?_ ?_
  ·
   intro c0
   try simp only [decide_eq_true_eq, decide_eq_false_iff_not, Bool.not_eq_true', Bool.not_eq_false', ne_eq, Int.not_lt, Int.not_le] at c0
   refine AWP_skip ?_
   simp only [go_sem]
   refine hK3 _ ?_
   refine AWP_seq_k fun K5 hK5 => ?_
   refine AWP_block ?_
   refine AWP_seq_k fun K6 hK6 => ?_
   refine AWP_region (G := G) (T := T_cmpLess) T_cmpLess_ok ?_
   simp only [go_sem]
   refine hK6 _ ?_
   refine AWP_block ?_
   refine AWP_loop_k (ι := { s : Nat × List Int // s.1 ≤ k + 1 ∧ s.2.length = xs.length ∧ bub s.2 s.1 = bub (insI xs k) (k + 1) }) (fun k' => ⟨[.c (.ow 30), .c (.sc (.int .i64 (0))), .c (.sc (.int .i64 (xs.length))), zz, zz, zz, .c (.sc (.int .i64 (((k + 1 : Nat) : Int)))), .c (.sc (.int .i64 ((k'.1.1 : Int)))), zz, zz, zz, zz, zz, zz, zz, zz, zz, zz, zz, zz, zz, zz, zz, zz, zz, zz, zz, zz, zz, zz, zz, zz, zz, zz, zz, zz, zz, zz, zz, zz, zz, zz, zz, zz, zz, zz, zz, zz, zz], [(30, .row 2 (.int .i64) (k'.1.2) [])]⟩) (fun k' => k'.1.1) ⟨(k + 1, insI xs k), by simp, insI_len xs k, rfl⟩ ?_ ?_
   ·
    refine Wk_to (by rfl) ?_
    simp (maxSteps := 2000000) only [go_sem]
    all_goals ((repeat' refine And.intro ?_ ?_) <;> first | rfl | simp)
   rintro ⟨⟨j, l⟩, hj, hl, hb⟩ K7 hL7
   have hj : j ≤ k + 1 := hj
   have hl : l.length = xs.length := hl
   have hb : bub l j = bub (insI xs k) (k + 1) := hb
   have hw1 : 0 < j → IntKind.i64.wrap ((j : Int) - 1) = ((j - 1 : Nat) : Int) := fun h => by rw [wrapI (by omega)]; omega
   obtain ⟨j1, hj1⟩ : ∃ j1 : Nat, j1 = j - 1 := ⟨_, rfl⟩
   refine AWP_seq_k fun K8 hK8 => ?_
   refine AWP_seq_k fun K9 hK9 => ?_
   refine AWP_draw (G := G) (T := T_cmpLess) T_cmpLess_ok mixed
     [[], [], [0, 1], [0, 1, 2], [0, 1, 2, 3], [0, 1, 2, 3], [0, 1, 2, 3, 4, 5], [0, 1, 2, 3, 4, 5, 6], [0, 1, 2, 3], [0, 1, 2, 3], [0, 1, 2, 3, 9], [0, 1, 2, 3, 8, 9, 10], [0, 1, 2, 3, 8, 9, 10, 11], [0, 1, 2, 3, 4, 5, 6, 7, 8, 9, 10, 11, 12], [0, 1, 2, 3, 4, 5, 6, 7, 8, 9, 10, 11, 12, 13]]
     [[], [], [], [], [], [], [], [], [], [], [], [], [], [], []]
     [[], [], [], [], [], [], [], [], [], [], [], [], [], [], []] (by kernel_rfl) (by kernel_rfl) (adrawR_ok (acc := []) ?_)
   simp (maxSteps := 2000000) only [go_sem]
   repeat' (first | (with_reducible refine And.intro (by first | exact chk_leaf (by kernel_rfl) | omega | exact ⟨rfl, by omega, by omega, by omega⟩ | exact ⟨by omega, by omega⟩ | (rw [wrapI (by omega)]; exact ⟨by omega, by omega⟩) | (rw [wrapI (by omega)]; omega)) ?_) | (with_reducible refine gcase_dt (fun g4 => ?_) (fun g4 => ?_)) | (with_reducible refine gcase_df (fun g4 => ?_) (fun g4 => ?_)) | (with_reducible refine gcase_ndt (fun g4 => ?_) (fun g4 => ?_)) | (with_reducible refine gcase_ndf (fun g4 => ?_) (fun g4 => ?_)) | (with_reducible refine gcase_nt (fun g4 => ?_) (fun g4 => ?_)) | (with_reducible refine gcase_nf (fun g4 => ?_) (fun g4 => ?_)) | (with_reducible refine gcase_mk (fun g4 => ?_) (fun g4 => ?_)))
   all_goals
    refine hK9 _ ?_
    refine AWP_cond rfl ?_ ?_
    ·
     intro c1
     try simp only [decide_eq_true_eq, decide_eq_false_iff_not, Bool.not_eq_true', Bool.not_eq_false', ne_eq, Int.not_lt, Int.not_le, Bool.true_eq_false, Bool.false_eq_true] at c1
     all_goals
      have hjp : 0 < j := by omega
      have hwj0 := hw1 hjp
      have hwj : IntKind.i64.wrap ((j : Int) - 1) = (j1 : Int) := by rw [hwj0, hj1]
      have hjj : j = j1 + 1 := by omega
      have hlt : l.getD (j1 + 1) 0 < l.getD j1 0 := by
        have hc9 := c1
        rw [hwj] at hc9
        simp only [Int.toNat_natCast] at hc9
        rw [← hjj]; exact hc9
      have hnb : bub ((l.set j (l.getD j1 0)).set j1 (l.getD j 0)) j1 = bub (insI xs k) (k + 1) := by rw [← hb, hjj, bub_t hlt]
      refine AWP_skip ?_
      simp only [go_sem]
      refine hK8 _ ?_
      refine AWP_seq_k fun K10 hK10 => ?_
      refine AWP_block ?_
      refine AWP_draw (G := G) (T := T_cmpLess) T_cmpLess_ok mixed
        [[], [], [], [], [3], [], [], [6], [5, 6, 7], [5, 6, 7, 8], [], [], [10, 11], [10, 11, 12], [0, 1, 5, 6, 7, 8, 9, 10, 11, 12, 13], [0, 1, 5, 6, 7, 8, 9, 10, 11, 12, 13, 14], [0, 1, 2, 3, 4, 5, 6, 7, 8, 9, 10, 11, 12, 13, 14, 15], [0, 1, 2, 3, 4, 5, 6, 7, 8, 9, 10, 11, 12, 13, 14, 15, 16]]
        [[], [], [1000030], [1000030], [1000030], [], [], [], [], [], [], [], [], [], [], [], [], []]
        [[], [], [], [], [], [], [], [], [], [], [], [], [], [], [], [1000030], [], []] (by kernel_rfl) (by kernel_rfl) (adrawR_ok (acc := []) ?_)
      simp (maxSteps := 2000000) only [List.nodup_nil, hwj, List.length_set, go_sem]
      repeat (with_reducible refine And.intro (by first | exact chk_leaf (by kernel_rfl) | omega | exact ⟨rfl, by omega, by omega, by omega⟩ | exact ⟨by omega, by omega⟩ | omega) ?_)
      refine hK10 _ ?_
      refine AWP_region (G := G) (T := T_cmpLess) T_cmpLess_ok ?_
      simp only [go_sem]
      refine hL7 ⟨(j1, (l.set j (l.getD j1 0)).set j1 (l.getD j 0)), by show j1 ≤ _; omega, by simp [hl], hnb⟩ _ (Wk_to (by rfl) ?_) ?_
      ·
       simp (maxSteps := 2000000) only [go_sem]
       all_goals ((repeat' refine And.intro ?_ ?_) <;> first | rfl | (rw [hwj]; simp) | (rw [hwj]) | exact hwj | (simp; done))
      ·
       first | (simp only []; omega) | omega | (simp; omega)
    ·
     intro c1
     try simp only [decide_eq_true_eq, decide_eq_false_iff_not, Bool.not_eq_true', Bool.not_eq_false', ne_eq, Int.not_lt, Int.not_le, Bool.true_eq_false, Bool.false_eq_true] at c1
     all_goals
      have hfin : l = insI xs (k + 1) := by
        show l = bub (insI xs k) (k + 1)
        rw [← hb]
        cases j with
        | zero => rfl
        | succ q =>
          have hwj := hw1 (by omega)
          rw [bub_f]
          intro hlt
          have hwj : IntKind.i64.wrap (((q + 1 : Nat) : Int) - 1) = (q : Int) := hwj
          first | (exfalso; omega) | (have hc9 := c1; rw [hwj] at hc9; simp only [Int.toNat_natCast] at hc9; exact absurd hlt (by omega))
      refine AWP_exit ?_
      simp only [go_sem]
      refine hK5 _ ?_
      refine AWP_region (G := G) (T := T_cmpLess) T_cmpLess_ok ?_
      simp only [go_sem]
      refine hL2 ⟨k + 1, by omega⟩ _ (Wk_to (by rfl) ?_) ?_
      ·
       simp (maxSteps := 2000000) only [go_sem]
       all_goals ((repeat' refine And.intro ?_ ?_) <;> first | rfl | exact wk (by omega) | exact hfin)
      ·
       first | (simp only []; omega) | omega | (simp; omega)
  ·
   intro c0
   try simp only [decide_eq_true_eq, decide_eq_false_iff_not, Bool.not_eq_true', Bool.not_eq_false', ne_eq, Int.not_lt, Int.not_le] at c0
   have hkl : k = xs.length - 1 := by omega
   refine AWP_exit ?_
   simp only [go_sem]
   simp (maxSteps := 2000000) only [hres, go_sem]
   first
     | exact finOkG_mk (by rfl)
     | refine ⟨finOkG_mk (by rfl), ?_⟩
       have hk3 : k = xs.length - 1 := by omega
       (repeat' refine And.intro ?_ ?_) <;> first | rfl | (rw [hk3]; done) | (rw [hk3]; rfl)

theorem insSort_fn : FnOk Tryz.prog 240 := fnOk_of Tryz.func240 rfl (by decide)

def T_insSort : Tab := fun f => if f = 240 then some (.g K_insSort) else T_cmpLess f
theorem T_insSort_ok : TabOk Tryz.prog T_insSort := fun f k h => by
  unfold T_insSort at h
  split at h
  · rename_i e; cases h; subst e; exact ⟨insSort_ok, insSort_fn⟩
  · exact T_cmpLess_ok f k h
attribute [go_sem] T_insSort K_insSort


def K_pdq : GCon where
  ps := [.ow 0, .val (.int .i64), .val (.int .i64), .val (.int .i64)]
  os := [.row 2 (.int .i64)]
  c := fun x => x.1.2.1 = 0 ∧ x.1.2.2.1 = (x.2.1.length : Int) ∧ x.2.1.length ≤ 12
  r := fun _ => .tup []
  o := fun x => [(30, .row 2 (.int .i64) (insI x.2.1 (List.length x.2.1 - 1)) [])]
  ok := by
    rintro ⟨⟨_, (aa : Int), (be : Int), (lm : Int), _⟩, ⟨(xs : List Int), _⟩⟩
    exact ⟨rfl, rfl, by decide⟩
set_option maxRecDepth 100000 in
set_option maxHeartbeats 1000000 in
theorem pdq_ok : GenT Tryz.prog 229 K_pdq := by
  refine gen_of_body Tryz.func229 rfl ?_
  have hres : Tryz.f229.results.toList = [] := rfl
  rintro ⟨⟨_, (aa : Int), (be : Int), (lm : Int), _⟩, ⟨(xs : List Int), _⟩⟩ hc hL hO
  simp only [K_pdq, lensOk, PK.lenOk, glensOk, GP.lenOk, flensOk, GO.lenOk, olensOk, Ty.lenOk, Ty.flat, Bool.and_true, Bool.true_and, Bool.and_false, Bool.false_and, true_and, and_true, implies_true, forall_const] at hL
  simp only [K_pdq, lensOk, PK.lenOk, glensOk, GP.lenOk, flensOk, GO.lenOk, olensOk, Ty.lenOk, Ty.flat, Bool.and_true, Bool.true_and, Bool.and_false, Bool.false_and, true_and, and_true, implies_true, forall_const] at hO
  simp only [K_pdq, St.init, St.initG, Tryz.ntmps229, go_sem] 
  obtain ⟨h1, h2, h3⟩ := (show aa = 0 ∧ be = (xs.length : Int) ∧ xs.length ≤ 12 from hc)
  subst h1 h2
  have hw : IntKind.i64.wrap ((xs.length : Int) - 0) = xs.length := wrapI (by omega)
  refine AWP_seq_k fun K1 hK1 => ?_
  refine AWP_region (G := G) (T := T_insSort) T_insSort_ok ?_
  simp only [go_sem]
  refine hK1 _ ?_
  refine AWP_seq_k fun K2 hK2 => ?_
  refine AWP_region (G := G) (T := T_insSort) T_insSort_ok ?_
  simp only [go_sem]
  refine hK2 _ ?_
  refine AWP_block ?_
  refine AWP_loop_k (ι := { k : Nat // k = 0 }) (fun k => ⟨[.c (.ow 30), .c (.sc (.int .i64 (0))), .c (.sc (.int .i64 (xs.length))), .c (.sc (.int .i64 (lm))), zz, zz, zz, zz, .c (.sc (.bool (true))), .c (.sc (.bool (true))), zz, zz, zz, zz, zz, zz, zz, zz, zz, zz, zz, zz, zz, zz, zz, zz, zz, zz, zz, zz, zz, zz, zz, zz, zz, zz, zz, zz, zz, zz, zz, zz, zz, zz, zz, zz, zz, zz, zz, zz, zz, zz, zz, zz, zz, zz, zz, zz, zz, zz, zz, zz, zz, zz, zz, zz, zz, zz, zz, zz, zz, zz, zz, zz, zz, zz, zz, zz, zz, zz, zz, zz, zz, zz, zz, zz, zz, zz, zz, zz, zz, zz, zz, zz, zz, zz, zz, zz, zz, zz, zz, zz, zz, zz, zz, zz, zz, zz, zz, zz, zz, zz, zz, zz, zz, zz, zz, zz, zz, zz, zz, zz, zz, zz, zz, zz, zz, zz, zz, zz, zz, zz, zz, zz], [(30, .row 2 (.int .i64) (xs) [])]⟩) (fun k => k.1) ⟨0, rfl⟩ ?_ ?_
  ·
   refine Wk_to (by rfl) ?_
   simp (maxSteps := 2000000) only [go_sem]
   all_goals ((repeat' refine And.intro ?_ ?_) <;> first | rfl | simp)
  rintro ⟨k, hk⟩ K3 hL3
  refine AWP_block ?_
  refine AWP_seq_k fun K4 hK4 => ?_
  refine AWP_region (G := G) (T := T_insSort) T_insSort_ok ?_
  simp only [hw, go_sem]
  refine hK4 _ ?_
  refine AWP_seq_k fun K5 hK5 => ?_
  refine AWP_seq_k fun K6 hK6 => ?_
  refine AWP_region (G := G) (T := T_insSort) T_insSort_ok ?_
  simp only [go_sem]
  refine hK6 _ ?_
  refine AWP_cond rfl ?_ ?_
  ·
   intro c0
   try simp only [decide_eq_true_eq, decide_eq_false_iff_not, Bool.not_eq_true', Bool.not_eq_false', ne_eq, Int.not_lt, Int.not_le] at c0
   refine AWP_seq_k fun K7 hK7 => ?_
   refine AWP_region (G := G) (T := T_insSort) T_insSort_ok ?_
   simp only [go_sem]
   repeat (with_reducible refine And.intro (by first | omega | exact ⟨rfl, by omega, by omega, by omega⟩ | exact ⟨rfl, rfl, h3⟩) ?_)
   refine hK7 _ ?_
   refine AWP_ret ?_
   simp only [hres, go_sem]
   first
     | exact finOkG_mk (by rfl)
     | refine ⟨finOkG_mk (by rfl), ?_⟩
       (repeat' refine And.intro ?_ ?_) <;> first | rfl
  ·
   intro c0
   try simp only [decide_eq_true_eq, decide_eq_false_iff_not, Bool.not_eq_true', Bool.not_eq_false', ne_eq, Int.not_lt, Int.not_le] at c0
   exfalso
   omega

theorem pdq_fn : FnOk Tryz.prog 229 := fnOk_of Tryz.func229 rfl (by decide)

def T_pdq : Tab := fun f => if f = 229 then some (.g K_pdq) else T_insSort f
theorem T_pdq_ok : TabOk Tryz.prog T_pdq := fun f k h => by
  unfold T_pdq at h
  split at h
  · rename_i e; cases h; subst e; exact ⟨pdq_ok, pdq_fn⟩
  · exact T_insSort_ok f k h
attribute [go_sem] T_pdq K_pdq


def K_len64 : Con := ⟨[.val (.int .u64)], [⟨.int .i64, true⟩], fun x => inR x.1 0 2 = true, fun x => x.1⟩
set_option maxRecDepth 100000 in
set_option maxHeartbeats 1000000 in
theorem len64_ok : PureT Tryz.prog 250 K_len64 := by
  refine pure_of_body Tryz.func250 rfl ?_
  have hres : Tryz.f250.results.toList = [.tmp 2] := rfl
  rintro ⟨(x : Int), _⟩ hc hL
  simp only [K_len64, lensOk, PK.lenOk, glensOk, GP.lenOk, flensOk, GO.lenOk, olensOk, Ty.lenOk, Ty.flat, Bool.and_true, Bool.true_and, Bool.and_false, Bool.false_and, true_and, and_true, implies_true, forall_const] at hL
  simp only [K_len64, St.init, St.initG, Tryz.ntmps250, go_sem] 
  obtain ⟨h1, h2⟩ := inR_iff.1 (show inR x 0 2 = true from hc)
  have hw8 : IntKind.u8.wrap x = x := by rcases (by omega : x = 0 ∨ x = 1 ∨ x = 2) with rfl | rfl | rfl <;> rfl
  refine AWP_seq_k fun K1 hK1 => ?_
  refine AWP_region (G := G) (T := T_pdq) T_pdq_ok ?_
  simp only [go_sem]
  refine hK1 _ ?_
  refine AWP_seq_k fun K2 hK2 => ?_
  refine AWP_seq_k fun K3 hK3 => ?_
  refine AWP_region (G := G) (T := T_pdq) T_pdq_ok ?_
  simp only [go_sem]
  refine hK3 _ ?_
  refine AWP_cond rfl ?_ ?_
  ·
   intro c0
   try simp only [decide_eq_true_eq, decide_eq_false_iff_not, Bool.not_eq_true', Bool.not_eq_false', ne_eq, Int.not_lt, Int.not_le] at c0
   exfalso
   omega
  ·
   intro c0
   try simp only [decide_eq_true_eq, decide_eq_false_iff_not, Bool.not_eq_true', Bool.not_eq_false', ne_eq, Int.not_lt, Int.not_le] at c0
   refine AWP_skip ?_
   simp only [go_sem]
   refine hK2 _ ?_
   refine AWP_seq_k fun K4 hK4 => ?_
   refine AWP_seq_k fun K5 hK5 => ?_
   refine AWP_region (G := G) (T := T_pdq) T_pdq_ok ?_
   simp only [go_sem]
   refine hK5 _ ?_
   refine AWP_cond rfl ?_ ?_
   ·
    intro c1
    try simp only [decide_eq_true_eq, decide_eq_false_iff_not, Bool.not_eq_true', Bool.not_eq_false', ne_eq, Int.not_lt, Int.not_le] at c1
    exfalso
    omega
   ·
    intro c1
    try simp only [decide_eq_true_eq, decide_eq_false_iff_not, Bool.not_eq_true', Bool.not_eq_false', ne_eq, Int.not_lt, Int.not_le] at c1
    refine AWP_skip ?_
    simp only [go_sem]
    refine hK4 _ ?_
    refine AWP_seq_k fun K6 hK6 => ?_
    refine AWP_seq_k fun K7 hK7 => ?_
    refine AWP_region (G := G) (T := T_pdq) T_pdq_ok ?_
    simp only [go_sem]
    refine hK7 _ ?_
    refine AWP_cond rfl ?_ ?_
    ·
     intro c2
     try simp only [decide_eq_true_eq, decide_eq_false_iff_not, Bool.not_eq_true', Bool.not_eq_false', ne_eq, Int.not_lt, Int.not_le] at c2
     exfalso
     omega
    ·
     intro c2
     try simp only [decide_eq_true_eq, decide_eq_false_iff_not, Bool.not_eq_true', Bool.not_eq_false', ne_eq, Int.not_lt, Int.not_le] at c2
     refine AWP_skip ?_
     simp only [go_sem]
     refine hK6 _ ?_
     refine AWP_seq_k fun K8 hK8 => ?_
     refine AWP_region (G := G) (T := T_pdq) T_pdq_ok ?_
     simp (maxSteps := 2000000) only [hw8, go_sem]
     repeat (with_reducible refine And.intro (by first | omega | exact ⟨rfl, by omega, by omega, by omega⟩ | exact ⟨h1, Int.lt_of_le_of_lt h2 (by decide)⟩) ?_)
     refine hK8 _ ?_
     refine AWP_ret ?_
     simp only [hres, go_sem]
     first
       | exact finOk_mk (by rfl) (by decide)
       | refine ⟨?_, finOk_mk (by rfl) (by decide)⟩
         clear hw8
         rcases (by omega : x = 0 ∨ x = 1 ∨ x = 2) with rfl | rfl | rfl <;> rfl

theorem len64_fn : FnOk Tryz.prog 250 := fnOk_of Tryz.func250 rfl (by decide)

def T_len64 : Tab := fun f => if f = 250 then some (.p K_len64) else T_pdq f
theorem T_len64_ok : TabOk Tryz.prog T_len64 := fun f k h => by
  unfold T_len64 at h
  split at h
  · rename_i e; cases h; subst e; exact ⟨len64_ok, len64_fn⟩
  · exact T_pdq_ok f k h
attribute [go_sem] T_len64 K_len64


def K_bitsLen : Con := ⟨[.val (.int .u64)], [⟨.int .i64, true⟩], fun x => inR x.1 0 2 = true, fun x => x.1⟩
set_option maxRecDepth 100000 in
set_option maxHeartbeats 1000000 in
theorem bitsLen_ok : PureT Tryz.prog 230 K_bitsLen := by
  refine pure_of_body Tryz.func230 rfl ?_
  have hres : Tryz.f230.results.toList = [.tmp 2] := rfl
  rintro ⟨(x : Int), _⟩ hc hL
  simp only [K_bitsLen, lensOk, PK.lenOk, glensOk, GP.lenOk, flensOk, GO.lenOk, olensOk, Ty.lenOk, Ty.flat, Bool.and_true, Bool.true_and, Bool.and_false, Bool.false_and, true_and, and_true, implies_true, forall_const] at hL
  simp only [K_bitsLen, St.init, St.initG, Tryz.ntmps230, go_sem] 
  have hx2 : inR x 0 2 = true := hc
  refine AWP_seq_k fun K1 hK1 => ?_
  refine AWP_region (G := G) (T := T_len64) T_len64_ok ?_
  simp only [go_sem]
  repeat (with_reducible refine And.intro (by first | omega | exact ⟨rfl, by omega, by omega, by omega⟩ | exact hx2) ?_)
  refine hK1 _ ?_
  refine AWP_seq_k fun K2 hK2 => ?_
  refine AWP_cond rfl ?_ ?_
  ·
   intro c0
   try simp only [decide_eq_true_eq, decide_eq_false_iff_not, Bool.not_eq_true', Bool.not_eq_false', ne_eq, Int.not_lt, Int.not_le] at c0
   exact absurd c0 (by simp)
  ·
   intro c0
   try simp only [decide_eq_true_eq, decide_eq_false_iff_not, Bool.not_eq_true', Bool.not_eq_false', ne_eq, Int.not_lt, Int.not_le] at c0
   refine AWP_skip ?_
   simp only [go_sem]
   refine hK2 _ ?_
   refine AWP_seq_k fun K3 hK3 => ?_
   refine AWP_region (G := G) (T := T_len64) T_len64_ok ?_
   simp only [go_sem]
   repeat (with_reducible refine And.intro (by first | omega | exact ⟨rfl, by omega, by omega, by omega⟩ | exact hx2) ?_)
   refine hK3 _ ?_
   refine AWP_ret ?_
   simp only [hres, go_sem]
   first
     | exact finOk_mk (by rfl) (by decide)
     | refine ⟨?_, finOk_mk (by rfl) (by decide)⟩
       rfl

theorem bitsLen_fn : FnOk Tryz.prog 230 := fnOk_of Tryz.func230 rfl (by decide)

def T_bitsLen : Tab := fun f => if f = 230 then some (.p K_bitsLen) else T_len64 f
theorem T_bitsLen_ok : TabOk Tryz.prog T_bitsLen := fun f k h => by
  unfold T_bitsLen at h
  split at h
  · rename_i e; cases h; subst e; exact ⟨bitsLen_ok, bitsLen_fn⟩
  · exact T_len64_ok f k h
attribute [go_sem] T_bitsLen K_bitsLen


def K_sortS : GCon where
  ps := [.ow 0]
  os := [.row 2 (.int .i64)]
  c := fun x => List.length x.2.1 = 2
  r := fun _ => .tup []
  o := fun x => [(30, .row 2 (.int .i64) (srt x.2.1) [])]
  ok := by
    rintro ⟨_, ⟨(xs : List Int), _⟩⟩
    exact ⟨rfl, rfl, by decide⟩
set_option maxRecDepth 100000 in
set_option maxHeartbeats 1000000 in
theorem sortS_ok : GenT Tryz.prog 191 K_sortS := by
  refine gen_of_body Tryz.func191 rfl ?_
  have hres : Tryz.f191.results.toList = [] := rfl
  rintro ⟨_, ⟨(xs : List Int), _⟩⟩ hc hL hO
  simp only [K_sortS, lensOk, PK.lenOk, glensOk, GP.lenOk, flensOk, GO.lenOk, olensOk, Ty.lenOk, Ty.flat, Bool.and_true, Bool.true_and, Bool.and_false, Bool.false_and, true_and, and_true, implies_true, forall_const] at hL
  simp only [K_sortS, lensOk, PK.lenOk, glensOk, GP.lenOk, flensOk, GO.lenOk, olensOk, Ty.lenOk, Ty.flat, Bool.and_true, Bool.true_and, Bool.and_false, Bool.false_and, true_and, and_true, implies_true, forall_const] at hO
  simp only [K_sortS, St.init, St.initG, Tryz.ntmps191, go_sem] 
  have h2 : xs.length = 2 := hc
  have hu : IntKind.u64.wrap (xs.length : Int) = xs.length := by rw [h2]; rfl
  have hr2 : inR (xs.length : Int) 0 2 = true := inR_t (by omega) (by omega)
  refine AWP_seq_k fun K1 hK1 => ?_
  refine AWP_region (G := G) (T := T_bitsLen) T_bitsLen_ok ?_
  simp only [go_sem]
  refine hK1 _ ?_
  refine AWP_region (G := G) (T := T_bitsLen) T_bitsLen_ok ?_
  simp (maxSteps := 2000000) only [hu, go_sem]
  repeat (with_reducible refine And.intro (by first | omega | exact ⟨rfl, by omega, by omega, by omega⟩ | exact hr2 | exact ⟨rfl, rfl, by omega⟩ | exact (by omega : xs.length ≤ 12)) ?_)
  simp (maxSteps := 2000000) only [hres, go_sem]
  first
    | exact finOkG_mk (by rfl)
    | refine ⟨finOkG_mk (by rfl), ?_⟩
      (repeat' refine And.intro ?_ ?_) <;> first | rfl | exact insI_two h2

theorem sortS_fn : FnOk Tryz.prog 191 := fnOk_of Tryz.func191 rfl (by decide)

def T_sortS : Tab := fun f => if f = 191 then some (.g K_sortS) else T_bitsLen f
theorem T_sortS_ok : TabOk Tryz.prog T_sortS := fun f k h => by
  unfold T_sortS at h
  split at h
  · rename_i e; cases h; subst e; exact ⟨sortS_ok, sortS_fn⟩
  · exact T_bitsLen_ok f k h
attribute [go_sem] T_sortS K_sortS


def K_inputsOf : Con := ⟨[.val ((.prod (.int .i64) (.prod (.int .i64) (.prod (.int .i64) (.row 2 (.int .i64)))))), .val ((.row 2 (.int .i64)))], [⟨(.row 2 (.int .i64)), true⟩], fun x => insIx x.2.1.length x.1, fun x => insOf x.1 x.2.1⟩
set_option maxRecDepth 100000 in
set_option maxHeartbeats 1000000 in
theorem inputsOf_ok : PureT Tryz.prog 133 K_inputsOf := by
  refine pure_of_body Tryz.func133 rfl ?_
  have hres : Tryz.f133.results.toList = [.tmp 4] := rfl
  rintro ⟨⟨(kd : Int), (a : Int), (bb : Int), (fr : List Int)⟩, (cl : List Int), _⟩ hc hL
  simp only [K_inputsOf, lensOk, PK.lenOk, glensOk, GP.lenOk, flensOk, GO.lenOk, olensOk, Ty.lenOk, Ty.flat, Bool.and_true, Bool.true_and, Bool.and_false, Bool.false_and, true_and, and_true, implies_true, forall_const] at hL
  simp only [K_inputsOf, St.init, St.initG, Tryz.ntmps133, go_sem] 
  obtain ⟨h1, h2, h3⟩ := (show insIx cl.length (kd, a, bb, fr) from hc)
  have h1 : fr.length ≤ 3 := h1
  have h2 : idxs cl.length fr = true := h2
  have hsw1 : kd = 3 → fr.length = 2 := fun e => h3 (by unfold swapB; rw [decide_eq_true (show kd = 3 from e)]; rfl)
  have hsw2 : kd = 9 → fr.length = 2 := fun e => h3 (by unfold swapB; rw [decide_eq_true (show kd = 9 from e), Bool.or_true])
  have hml : (List.map (fun q => cl.getD (Int.toNat q) 0) fr).length = fr.length := List.length_map _
  refine AWP_seq_k fun K1 hK1 => ?_
  refine AWP_region (G := G) (T := T_sortS) T_sortS_ok ?_
  simp only [go_sem]
  refine hK1 _ ?_
  refine AWP_seq_k fun K2 hK2 => ?_
  refine AWP_region (G := G) (T := T_sortS) T_sortS_ok ?_
  simp (maxSteps := 2000000) only [go_sem]
  repeat (with_reducible refine And.intro (by first | omega | exact ⟨rfl, by omega, by omega, by omega⟩ | exact ⟨by omega, h2⟩) ?_)
  refine hK2 _ ?_
  refine AWP_seq_k fun K3 hK3 => ?_
  refine AWP_seq_k fun K4 hK4 => ?_
  refine AWP_region (G := G) (T := T_sortS) T_sortS_ok ?_
  simp (maxSteps := 2000000) only [go_sem]
  repeat' (first | (with_reducible refine And.intro (by first | omega | exact ⟨rfl, by omega, by omega, by omega⟩) ?_) | (with_reducible refine gcase_dt (fun g2 => ?_) (fun g2 => ?_)) | (with_reducible refine gcase_df (fun g2 => ?_) (fun g2 => ?_)) | (with_reducible refine gcase_ndt (fun g2 => ?_) (fun g2 => ?_)) | (with_reducible refine gcase_ndf (fun g2 => ?_) (fun g2 => ?_)) | (with_reducible refine gcase_nt (fun g2 => ?_) (fun g2 => ?_)) | (with_reducible refine gcase_nf (fun g2 => ?_) (fun g2 => ?_)) | (with_reducible refine gcase_mk (fun g2 => ?_) (fun g2 => ?_)))
  all_goals
   refine hK4 _ ?_
   refine AWP_cond rfl ?_ ?_
   ·
    intro c0
    try simp only [decide_eq_true_eq, decide_eq_false_iff_not, Bool.not_eq_true', Bool.not_eq_false', ne_eq, Int.not_lt, Int.not_le, Bool.true_eq_false, Bool.false_eq_true] at c0
    all_goals
     refine AWP_region (G := G) (T := T_sortS) T_sortS_ok ?_
     simp only [go_sem]
     repeat (with_reducible refine And.intro (by first | omega | exact ⟨rfl, by omega, by omega, by omega⟩ | (rw [hml]; exact hsw1 (by assumption)) | (rw [hml]; exact hsw2 (by assumption)) | (rw [hml]; omega)) ?_)
     refine hK3 _ ?_
     refine AWP_seq_k fun K5 hK5 => ?_
     refine AWP_region (G := G) (T := T_sortS) T_sortS_ok ?_
     simp only [go_sem]
     refine hK5 _ ?_
     refine AWP_ret ?_
     simp only [hres, go_sem]
     first
       | exact finOk_mk (by rfl) (by decide)
       | refine ⟨?_, finOk_mk (by rfl) (by decide)⟩
         first | (rw [insOf_t (n := (kd, a, bb, fr)) (by unfold swapB; rw [decide_eq_true (show kd = 3 by assumption)]; rfl)]; rfl) | (rw [insOf_t (n := (kd, a, bb, fr)) (by unfold swapB; rw [decide_eq_true (show kd = 9 by assumption), Bool.or_true])]; rfl) | (rw [insOf_f (n := (kd, a, bb, fr)) (by unfold swapB; rw [decide_eq_false (show ¬ kd = 3 by assumption), decide_eq_false (show ¬ kd = 9 by assumption)]; rfl)]; rfl)
   ·
    intro c0
    try simp only [decide_eq_true_eq, decide_eq_false_iff_not, Bool.not_eq_true', Bool.not_eq_false', ne_eq, Int.not_lt, Int.not_le, Bool.true_eq_false, Bool.false_eq_true] at c0
    all_goals
     refine AWP_skip ?_
     simp only [go_sem]
     refine hK3 _ ?_
     refine AWP_seq_k fun K6 hK6 => ?_
     refine AWP_region (G := G) (T := T_sortS) T_sortS_ok ?_
     simp only [go_sem]
     refine hK6 _ ?_
     refine AWP_ret ?_
     simp only [hres, go_sem]
     first
       | exact finOk_mk (by rfl) (by decide)
       | refine ⟨?_, finOk_mk (by rfl) (by decide)⟩
         first | (rw [insOf_t (n := (kd, a, bb, fr)) (by unfold swapB; rw [decide_eq_true (show kd = 3 by assumption)]; rfl)]; rfl) | (rw [insOf_t (n := (kd, a, bb, fr)) (by unfold swapB; rw [decide_eq_true (show kd = 9 by assumption), Bool.or_true])]; rfl) | (rw [insOf_f (n := (kd, a, bb, fr)) (by unfold swapB; rw [decide_eq_false (show ¬ kd = 3 by assumption), decide_eq_false (show ¬ kd = 9 by assumption)]; rfl)]; rfl)

theorem inputsOf_fn : FnOk Tryz.prog 133 := fnOk_of Tryz.func133 rfl (by decide)

def T_inputsOf : Tab := fun f => if f = 133 then some (.p K_inputsOf) else T_sortS f
theorem T_inputsOf_ok : TabOk Tryz.prog T_inputsOf := fun f k h => by
  unfold T_inputsOf at h
  split at h
  · rename_i e; cases h; subst e; exact ⟨inputsOf_ok, inputsOf_fn⟩
  · exact T_sortS_ok f k h
attribute [go_sem] T_inputsOf K_inputsOf


def K_alike : Con := ⟨[.val ((.prod (.row 24 (.row 2 (.int .i64))) (.prod (.row 102 (.prod (.int .i64) (.prod (.int .i64) (.prod (.int .i64) (.row 2 (.int .i64)))))) (.row 2 (.int .i64))))), .val ((.prod (.int .i64) (.prod (.int .i64) (.prod (.int .i64) (.row 2 (.int .i64)))))), .val ((.prod (.int .i64) (.prod (.int .i64) (.prod (.int .i64) (.row 2 (.int .i64)))))), .val ((.row 2 (.int .i64)))], [⟨.bool, true⟩], fun x => tabIx x.1.1 x.2.1 ∧ tabIx x.1.1 x.2.2.1 ∧ insIx x.2.2.2.1.length x.2.1 ∧ insIx x.2.2.2.1.length x.2.2.1, fun x => alikeB x.1.1 x.2.2.2.1 x.2.1 x.2.2.1⟩
set_option maxRecDepth 100000 in
set_option maxHeartbeats 4000000 in
theorem alike_ok : PureT Tryz.prog 85 K_alike := by
  refine pure_of_body Tryz.func85 rfl ?_
  have hres : Tryz.f85.results.toList = [.tmp 8] := rfl
  rintro ⟨⟨(ts : List (List Int)), (ns : List NodeD), (os : List Int)⟩, ⟨(kd : Int), (a : Int), (bb : Int), (fr : List Int)⟩, ⟨(kd2 : Int), (a2 : Int), (bb2 : Int), (fr2 : List Int)⟩, (cl : List Int), _⟩ hc hL
  simp only [K_alike, lensOk, PK.lenOk, glensOk, GP.lenOk, flensOk, GO.lenOk, olensOk, Ty.lenOk, Ty.flat, Bool.and_true, Bool.true_and, Bool.and_false, Bool.false_and, true_and, and_true, implies_true, forall_const] at hL
  simp only [K_alike, St.init, St.initG, Tryz.ntmps85, go_sem] 
  obtain ⟨h1, h2, h3, h4⟩ := (show tabIx ts (kd, a, bb, fr) ∧ tabIx ts (kd2, a2, bb2, fr2) ∧ insIx cl.length (kd, a, bb, fr) ∧ insIx cl.length (kd2, a2, bb2, fr2) from hc)
  refine AWP_seq_k fun K1 hK1 => ?_
  refine AWP_region (G := G) (T := T_inputsOf) T_inputsOf_ok ?_
  simp only [go_sem]
  repeat (with_reducible refine And.intro (by first | omega | exact ⟨rfl, by omega, by omega, by omega⟩ | exact ⟨h1, h2⟩ | exact h3 | exact h4) ?_)
  refine hK1 _ ?_
  refine AWP_seq_k fun K2 hK2 => ?_
  refine AWP_draw (G := G) (T := T_inputsOf) T_inputsOf_ok mixed
    [[], [], [], [0, 1, 2], [0, 1, 2, 3], [0, 1, 2, 3, 4], [0, 1, 2, 3, 4], [0, 1, 2, 3, 4, 5, 6], [0, 1, 2, 3, 4], [0, 1, 2, 3, 4], [0, 1, 2, 3, 4, 5, 6, 7, 8, 9], [0, 1, 2, 3, 4, 5, 6, 7, 8, 9, 10], [0, 1, 2, 3, 4, 5, 6, 7, 8, 9, 10, 11], [0, 1, 2, 3, 4, 5, 6, 7, 8, 9, 10, 11, 12]]
    [[], [], [], [], [], [], [], [], [356, 357, 358, 359, 360, 361, 362, 363, 364, 365, 366, 367, 368, 369, 370, 371], [356, 357, 358, 359, 360, 361, 362, 363, 364, 365, 366, 367, 368, 369, 370, 371], [], [], [], []]
    [[], [], [], [], [], [], [], [356, 357, 358, 359, 360, 361, 362, 363, 364, 365, 366, 367, 368, 369, 370, 371], [], [], [], [], [], []] (by kernel_rfl) (by kernel_rfl) (adrawR_ok (acc := []) ?_)
  simp (maxSteps := 2000000) only [go_sem]
  repeat' (first | (with_reducible refine And.intro (by first | exact chk_leaf (by kernel_rfl) | omega | exact ⟨rfl, by omega, by omega, by omega⟩ | exact ⟨h1, h2⟩ | exact h3 | exact h4) ?_) | (with_reducible refine gcase_dt (fun g1 => ?_) (fun g1 => ?_)) | (with_reducible refine gcase_df (fun g1 => ?_) (fun g1 => ?_)) | (with_reducible refine gcase_ndt (fun g1 => ?_) (fun g1 => ?_)) | (with_reducible refine gcase_ndf (fun g1 => ?_) (fun g1 => ?_)) | (with_reducible refine gcase_nt (fun g1 => ?_) (fun g1 => ?_)) | (with_reducible refine gcase_nf (fun g1 => ?_) (fun g1 => ?_)) | (with_reducible refine gcase_mk (fun g1 => ?_) (fun g1 => ?_)))
  all_goals
   refine hK2 _ ?_
   refine AWP_ret ?_
   simp only [hres, go_sem]
   first
     | exact finOk_mk (by rfl) (by decide)
     | refine ⟨?_, finOk_mk (by rfl) (by decide)⟩
       first | (unfold alikeB; rw [show keyB ts (kd, a, bb, fr) (kd2, a2, bb2, fr2) = true by assumption, Bool.true_and]) | (unfold alikeB; rw [show keyB ts (kd, a, bb, fr) (kd2, a2, bb2, fr2) = false by assumption, Bool.false_and])

theorem alike_fn : FnOk Tryz.prog 85 := fnOk_of Tryz.func85 rfl (by decide)

def T_alike : Tab := fun f => if f = 85 then some (.p K_alike) else T_inputsOf f
theorem T_alike_ok : TabOk Tryz.prog T_alike := fun f k h => by
  unfold T_alike at h
  split at h
  · rename_i e; cases h; subst e; exact ⟨alike_ok, alike_fn⟩
  · exact T_inputsOf_ok f k h
attribute [go_sem] T_alike K_alike


def K_l12Alike : Con := ⟨[.ptr (.prod (.int .i64) (.prod (.row 24 (.row 2 (.int .i64))) (.prod (.row 102 (.prod (.int .i64) (.prod (.int .i64) (.prod (.int .i64) (.row 2 (.int .i64)))))) (.row 2 (.int .i64))))), .val ((.row 2 (.int .i64))), .ptr (.prod (.int .i64) (.prod (.int .i64) (.prod (.int .i64) (.row 2 (.int .i64))))), .ptr (.prod (.int .i64) (.prod (.int .i64) (.prod (.int .i64) (.row 2 (.int .i64)))))], [⟨.bool, true⟩], fun x => tabIx x.1.2.1 x.2.2.1 ∧ tabIx x.1.2.1 x.2.2.2.1 ∧ insIx x.2.1.length x.2.2.1 ∧ insIx x.2.1.length x.2.2.2.1, fun x => alikeB x.1.2.1 x.2.1 x.2.2.1 x.2.2.2.1⟩
set_option maxRecDepth 100000 in
set_option maxHeartbeats 4000000 in
theorem l12Alike_ok : PureT Tryz.prog 181 K_l12Alike := by
  refine pure_of_body Tryz.func181 rfl ?_
  have hres : Tryz.f181.results.toList = [.tmp 8] := rfl
  rintro ⟨⟨(pi : Int), (ts : List (List Int)), (ns : List NodeD), (os : List Int)⟩, (cl : List Int), ⟨(kd : Int), (a : Int), (bb : Int), (fr : List Int)⟩, ⟨(kd2 : Int), (a2 : Int), (bb2 : Int), (fr2 : List Int)⟩, _⟩ hc hL
  simp only [K_l12Alike, lensOk, PK.lenOk, glensOk, GP.lenOk, flensOk, GO.lenOk, olensOk, Ty.lenOk, Ty.flat, Bool.and_true, Bool.true_and, Bool.and_false, Bool.false_and, true_and, and_true, implies_true, forall_const] at hL
  simp only [K_l12Alike, St.init, St.initG, Tryz.ntmps181, go_sem] 
  obtain ⟨h1, h2, h3, h4⟩ := (show tabIx ts (kd, a, bb, fr) ∧ tabIx ts (kd2, a2, bb2, fr2) ∧ insIx cl.length (kd, a, bb, fr) ∧ insIx cl.length (kd2, a2, bb2, fr2) from hc)
  obtain ⟨h5, h6, h7⟩ := h3
  obtain ⟨h8, h9, h10⟩ := h4
  have h5 : fr.length ≤ 3 := h5
  have h6 : idxs cl.length fr = true := h6
  have h8 : fr2.length ≤ 3 := h8
  have h9 : idxs cl.length fr2 = true := h9
  have hm1 : (List.map (fun q => cl.getD (Int.toNat q) 0) fr).length = fr.length := List.length_map _
  have hm2 : (List.map (fun q => cl.getD (Int.toNat q) 0) fr2).length = fr2.length := List.length_map _
  have hs1 : kd = 3 ∨ kd = 9 → fr.length = 2 := fun e => h7 (by unfold swapB; rcases e with e | e; rw [decide_eq_true (show kd = 3 from e)]; rfl; rw [decide_eq_true (show kd = 9 from e), Bool.or_true])
  have hs2 : kd2 = 3 ∨ kd2 = 9 → fr2.length = 2 := fun e => h10 (by unfold swapB; rcases e with e | e; rw [decide_eq_true (show kd2 = 3 from e)]; rfl; rw [decide_eq_true (show kd2 = 9 from e), Bool.or_true])
  refine AWP_seq_k fun K1 hK1 => ?_
  refine AWP_region (G := G) (T := T_alike) T_alike_ok ?_
  simp only [go_sem]
  refine hK1 _ ?_
  refine AWP_seq_k fun K2 hK2 => ?_
  refine AWP_seq_k fun K3 hK3 => ?_
  refine AWP_region (G := G) (T := T_alike) T_alike_ok ?_
  simp (maxSteps := 2000000) only [go_sem]
  repeat (with_reducible refine And.intro (by first | omega | exact ⟨rfl, by omega, by omega, by omega⟩ | exact ⟨h1, h2⟩) ?_)
  refine hK3 _ ?_
  refine AWP_cond rfl ?_ ?_
  ·
   intro c0
   try simp only [decide_eq_true_eq, decide_eq_false_iff_not, Bool.not_eq_true', Bool.not_eq_false', ne_eq, Int.not_lt, Int.not_le] at c0
   have hal : alikeB ts cl (kd, a, bb, fr) (kd2, a2, bb2, fr2) = false := by unfold alikeB; rw [show keyB ts (kd, a, bb, fr) (kd2, a2, bb2, fr2) = false by assumption, Bool.false_and]
   refine AWP_seq_k fun K4 hK4 => ?_
   refine AWP_region (G := G) (T := T_alike) T_alike_ok ?_
   simp only [go_sem]
   refine hK4 _ ?_
   refine AWP_ret ?_
   simp only [hres, go_sem]
   first
     | exact finOk_mk (by rfl) (by decide)
     | refine ⟨?_, finOk_mk (by rfl) (by decide)⟩
       exact hal.symm
  ·
   intro c0
   try simp only [decide_eq_true_eq, decide_eq_false_iff_not, Bool.not_eq_true', Bool.not_eq_false', ne_eq, Int.not_lt, Int.not_le] at c0
   have hky : keyB ts (kd, a, bb, fr) (kd2, a2, bb2, fr2) = true := by assumption
   have hkk : kd = kd2 := keyB_kind hky
   have hal := alike_spec (cl := cl) hky h7 h10
   have hswE : swapB (kd, a, bb, fr) = (decide (kd = 3) || decide (kd = 9)) := rfl
   refine AWP_skip ?_
   simp only [go_sem]
   refine hK2 _ ?_
   refine AWP_seq_k fun K5 hK5 => ?_
   refine AWP_region (G := G) (T := T_alike) T_alike_ok ?_
   simp (maxSteps := 2000000) only [go_sem]
   repeat (with_reducible refine And.intro (by first | omega | exact ⟨rfl, by omega, by omega, by omega⟩ | exact ⟨by omega, h6⟩) ?_)
   refine hK5 _ ?_
   refine AWP_seq_k fun K6 hK6 => ?_
   refine AWP_region (G := G) (T := T_alike) T_alike_ok ?_
   simp (maxSteps := 2000000) only [go_sem]
   repeat (with_reducible refine And.intro (by first | omega | exact ⟨rfl, by omega, by omega, by omega⟩ | exact ⟨by omega, h9⟩) ?_)
   refine hK6 _ ?_
   refine AWP_seq_k fun K7 hK7 => ?_
   refine AWP_seq_k fun K8 hK8 => ?_
   refine AWP_region (G := G) (T := T_alike) T_alike_ok ?_
   simp only [go_sem]
   repeat (with_reducible refine And.intro (by first | omega | exact ⟨rfl, by omega, by omega, by omega⟩) ?_)
   refine hK8 _ ?_
   refine AWP_cond rfl ?_ ?_
   ·
    intro c1
    try simp only [decide_eq_true_eq, decide_eq_false_iff_not, Bool.not_eq_true', Bool.not_eq_false', ne_eq, Int.not_lt, Int.not_le] at c1
    refine AWP_seq_k fun K9 hK9 => ?_
    refine AWP_region (G := G) (T := T_alike) T_alike_ok ?_
    simp only [go_sem]
    refine hK9 _ ?_
    refine AWP_ret ?_
    simp only [hres, go_sem]
    first
      | exact finOk_mk (by rfl) (by decide)
      | refine ⟨?_, finOk_mk (by rfl) (by decide)⟩
        rw [hal, show eqD (clsM cl fr) (clsM cl fr2) = true by assumption]; rfl
   ·
    intro c1
    try simp only [decide_eq_true_eq, decide_eq_false_iff_not, Bool.not_eq_true', Bool.not_eq_false', ne_eq, Int.not_lt, Int.not_le] at c1
    refine AWP_skip ?_
    simp only [go_sem]
    refine hK7 _ ?_
    refine AWP_seq_k fun K10 hK10 => ?_
    refine AWP_region (G := G) (T := T_alike) T_alike_ok ?_
    simp (maxSteps := 2000000) only [go_sem]
    repeat' (first | (with_reducible refine And.intro (by first | omega | exact ⟨rfl, by omega, by omega, by omega⟩) ?_) | (with_reducible refine gcase_dt (fun g7 => ?_) (fun g7 => ?_)) | (with_reducible refine gcase_df (fun g7 => ?_) (fun g7 => ?_)) | (with_reducible refine gcase_ndt (fun g7 => ?_) (fun g7 => ?_)) | (with_reducible refine gcase_ndf (fun g7 => ?_) (fun g7 => ?_)) | (with_reducible refine gcase_nt (fun g7 => ?_) (fun g7 => ?_)) | (with_reducible refine gcase_nf (fun g7 => ?_) (fun g7 => ?_)) | (with_reducible refine gcase_mk (fun g7 => ?_) (fun g7 => ?_)))
    all_goals
     refine hK10 _ ?_
     refine AWP_seq_k fun K11 hK11 => ?_
     refine AWP_draw (G := G) (T := T_alike) T_alike_ok mixed
       [[], [0], [0, 1], [0, 1, 2], [0, 1, 2, 3], [0, 1], [0, 1, 5], [0, 1, 5, 6], [0, 1, 2, 3, 4, 5, 6, 7], [0, 1, 2, 3, 4, 5, 6, 7, 8], [0, 1, 2, 3, 4, 5, 6, 7, 8, 9], [0, 1, 2, 3, 4, 5, 6, 7, 8, 9, 10], [0, 1, 2, 3, 4, 5, 6, 7, 8, 9, 10, 11], [0, 1, 2, 3, 4, 5, 6, 7, 8, 9, 10, 11, 12], [0, 1, 2, 3, 4, 5, 6, 7, 8, 9, 10], [0, 1, 2, 3, 4, 5, 6, 7, 8, 9, 10, 14], [0, 1, 2, 3, 4, 5, 6, 7, 8, 9, 10, 14, 15], [0, 1, 2, 3, 4, 5, 6, 7, 8, 9, 10, 11, 12, 13, 14, 15, 16], [0, 1, 2, 3, 4, 5, 6, 7, 8, 9, 10, 11, 12, 13, 14, 15, 16, 17], [0, 1, 2, 3, 4, 5, 6, 7, 8, 9, 10, 11, 12, 13, 14, 15, 16, 17, 18]]
       [[], [], [], [], [], [], [], [], [], [], [], [], [], [], [], [], [], [], [], []]
       [[], [], [], [], [], [], [], [], [], [], [], [], [], [], [], [], [], [], [], []] (by kernel_rfl) (by kernel_rfl) (adrawR_ok (acc := []) ?_)
     simp (maxSteps := 2000000) only [go_sem]
     repeat' (first | (with_reducible refine And.intro (by first | exact chk_leaf (by kernel_rfl) | omega | exact ⟨rfl, by omega, by omega, by omega⟩ | exact ⟨by omega, by omega⟩) ?_) | (with_reducible refine gcase_dt (fun g8 => ?_) (fun g8 => ?_)) | (with_reducible refine gcase_df (fun g8 => ?_) (fun g8 => ?_)) | (with_reducible refine gcase_ndt (fun g8 => ?_) (fun g8 => ?_)) | (with_reducible refine gcase_ndf (fun g8 => ?_) (fun g8 => ?_)) | (with_reducible refine gcase_nt (fun g8 => ?_) (fun g8 => ?_)) | (with_reducible refine gcase_nf (fun g8 => ?_) (fun g8 => ?_)) | (with_reducible refine gcase_mk (fun g8 => ?_) (fun g8 => ?_)))
     all_goals
      refine hK11 _ ?_
      refine AWP_ret ?_
      simp only [hres, go_sem]
      first
        | exact finOk_mk (by rfl) (by decide)
        | refine ⟨?_, finOk_mk (by rfl) (by decide)⟩
          rw [hal, show eqD (clsM cl fr) (clsM cl fr2) = false by assumption, Bool.false_or]
          clear hK1 hK2 hK3 hK5 hK6 hK7 hK8 hK10 hK11
          unfold clsM at *
          simp_all

theorem l12Alike_fn : FnOk Tryz.prog 181 := fnOk_of Tryz.func181 rfl (by decide)

def T_l12Alike : Tab := fun f => if f = 181 then some (.p K_l12Alike) else T_alike f
theorem T_l12Alike_ok : TabOk Tryz.prog T_l12Alike := fun f k h => by
  unfold T_l12Alike at h
  split at h
  · rename_i e; cases h; subst e; exact ⟨l12Alike_ok, l12Alike_fn⟩
  · exact T_alike_ok f k h
attribute [go_sem] T_l12Alike K_l12Alike

end Go.Proofs.YthfopaimihmgiaaGreat
