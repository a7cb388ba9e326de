/-
  Contracts of functions: eqInt64S, eqInt64SS, eqNode, eqNodeS, eqPatch.
-/
import Derived.Test.YthglggjgjlmhlaaPe
namespace Go.Proofs.Ythglggjgjlmhlaa
open Go.RowKit
set_option linter.unusedSimpArgs false
set_option linter.unusedVariables false

def K_eqI : Con := ⟨[.val ((.row 2 (.int .i64))), .val ((.row 2 (.int .i64)))], [⟨.bool, true⟩], fun _ => True, fun x => eqD (x.1 : List Int) (x.2.1 : List Int)⟩
set_option maxRecDepth 100000 in
set_option maxHeartbeats 1000000 in
theorem eqI_ok : PureT Try.prog 18 K_eqI := by
  refine pure_of_body Try.func18 rfl ?_
  have hres : Try.f18.results.toList = [.tmp 4] := rfl
  rintro ⟨(xs : List Int), (ys : List Int), _⟩ hc hL
  simp only [K_eqI, lensOk, PK.lenOk, glensOk, GP.lenOk, flensOk, GO.lenOk, olensOk, Ty.lenOk, Ty.flat, Bool.and_true, Bool.true_and, Bool.and_false, Bool.false_and, true_and, and_true, implies_true, forall_const] at hL
  obtain ⟨lxs, lys⟩ := hL
  simp only [K_eqI, St.init, St.initG, Try.ntmps18, go_sem] 
  refine AWP_seq_k fun K1 hK1 => ?_
  refine AWP_region (G := G) (T := T0) T0_ok ?_
  simp only [go_sem]
  refine hK1 _ ?_
  refine AWP_seq_k fun K2 hK2 => ?_
  refine AWP_seq_k fun K3 hK3 => ?_
  refine AWP_region (G := G) (T := T0) T0_ok ?_
  simp (maxSteps := 2000000) only [go_sem]
  refine hK3 _ ?_
  refine AWP_cond rfl ?_ ?_
  ·
   intro c0
   try simp only [decide_eq_true_eq, decide_eq_false_iff_not, Bool.not_eq_true', Bool.not_eq_false', ne_eq, Int.not_lt, Int.not_le] at c0
   refine AWP_seq_k fun K4 hK4 => ?_
   refine AWP_region (G := G) (T := T0) T0_ok ?_
   simp only [go_sem]
   refine hK4 _ ?_
   refine AWP_ret ?_
   simp only [hres, go_sem]
   first
     | exact finOk_mk (by rfl) (by decide)
     | refine ⟨?_, finOk_mk (by rfl) (by decide)⟩
       exact (eq_len (by omega)).symm
  ·
   intro c0
   try simp only [decide_eq_true_eq, decide_eq_false_iff_not, Bool.not_eq_true', Bool.not_eq_false', ne_eq, Int.not_lt, Int.not_le] at c0
   refine AWP_skip ?_
   simp only [go_sem]
   refine hK2 _ ?_
   refine AWP_seq_k fun K5 hK5 => ?_
   refine AWP_seq_k fun K6 hK6 => ?_
   refine AWP_region (G := G) (T := T0) T0_ok ?_
   simp only [go_sem]
   refine hK6 _ ?_
   refine AWP_block ?_
   refine AWP_loop_k (ι := { k : Nat // k ≤ xs.length ∧ xs.take k = ys.take k }) (fun k => ⟨[.c (.rd [] 2 (.int .i64) (xs)), .c (.rd [] 2 (.int .i64) (ys)), zz, zz, zz, .c (.sc (.int .i64 (k.1))), zz, zz, zz, zz, zz, zz, zz, zz, zz, zz, zz, zz, zz, zz, zz, zz, zz, zz, zz, zz], []⟩) (fun k => xs.length - k.1) ⟨0, by simp, by simp⟩ ?_ ?_
   ·
    refine Wk_to (by rfl) ?_
    simp (maxSteps := 2000000) only [go_sem]
    all_goals (first | rfl | ((repeat' refine And.intro ?_ ?_) <;> first | rfl | simp))
   rintro ⟨k, hk, hp⟩ K7 hL7
   refine AWP_seq_k fun K8 hK8 => ?_
   refine AWP_seq_k fun K9 hK9 => ?_
   refine AWP_region (G := G) (T := T0) T0_ok ?_
   simp only [go_sem]
   refine hK9 _ ?_
   refine AWP_cond rfl ?_ ?_
   ·
    intro c1
    try simp only [decide_eq_true_eq, decide_eq_false_iff_not, Bool.not_eq_true', Bool.not_eq_false', ne_eq, Int.not_lt, Int.not_le] at c1
    refine AWP_skip ?_
    simp only [go_sem]
    refine hK8 _ ?_
    refine AWP_seq_k fun K10 hK10 => ?_
    refine AWP_block ?_
    refine AWP_seq_k fun K11 hK11 => ?_
    refine AWP_draw (G := G) (T := T0) T0_ok mixed
      [[], [], [0, 1], [0, 1, 2], [], [], [4, 5], [4, 5, 6], [0, 1, 2, 3, 4, 5, 6, 7]]
      [[], [], [], [], [], [], [], [], []]
      [[], [], [], [], [], [], [], [], []] (by kernel_rfl) (by kernel_rfl) (adrawR_ok (acc := []) ?_)
    simp (maxSteps := 2000000) only [go_sem]
    repeat (with_reducible refine And.intro (by first | exact chk_leaf (by kernel_rfl) | omega | exact ⟨rfl, by omega, by omega, by omega⟩) ?_)
    refine hK11 _ ?_
    refine AWP_cond rfl ?_ ?_
    ·
     intro c2
     try simp only [decide_eq_true_eq, decide_eq_false_iff_not, Bool.not_eq_true', Bool.not_eq_false', ne_eq, Int.not_lt, Int.not_le] at c2
     refine AWP_seq_k fun K12 hK12 => ?_
     refine AWP_region (G := G) (T := T0) T0_ok ?_
     simp only [go_sem]
     refine hK12 _ ?_
     refine AWP_ret ?_
     simp only [hres, go_sem]
     first
       | exact finOk_mk (by rfl) (by decide)
       | refine ⟨?_, finOk_mk (by rfl) (by decide)⟩
         exact (eq_stop (0 : Int) (m := k) (by first | assumption | exact decide_eq_false (by assumption))).symm
    ·
     intro c2
     try simp only [decide_eq_true_eq, decide_eq_false_iff_not, Bool.not_eq_true', Bool.not_eq_false', ne_eq, Int.not_lt, Int.not_le] at c2
     refine AWP_skip ?_
     simp only [go_sem]
     refine hK10 _ ?_
     refine AWP_region (G := G) (T := T0) T0_ok ?_
     simp only [go_sem]
     refine hL7 ⟨k + 1, by omega, eq_next (d := (0 : Int)) (by omega) (by omega) hp (by first | assumption | exact decide_eq_true (by assumption))⟩ _ (Wk_to (by rfl) ?_) ?_
     ·
      simp (maxSteps := 2000000) only [go_sem]
      all_goals (first | rfl | ((repeat' refine And.intro ?_ ?_) <;> first | rfl | exact wk (by omega) | simp))
     ·
      first | (simp only []; omega) | omega | (simp; omega)
   ·
    intro c1
    try simp only [decide_eq_true_eq, decide_eq_false_iff_not, Bool.not_eq_true', Bool.not_eq_false', ne_eq, Int.not_lt, Int.not_le] at c1
    refine AWP_exit ?_
    simp only [go_sem]
    refine hK5 _ ?_
    refine AWP_seq_k fun K13 hK13 => ?_
    refine AWP_region (G := G) (T := T0) T0_ok ?_
    simp only [go_sem]
    refine hK13 _ ?_
    refine AWP_ret ?_
    simp only [hres, go_sem]
    first
      | exact finOk_mk (by rfl) (by decide)
      | refine ⟨?_, finOk_mk (by rfl) (by decide)⟩
        exact (eq_done (m := k) (by omega) (by omega) hp).symm

theorem eqI_fn : FnOk Try.prog 18 := fnOk_of Try.func18 rfl (by decide)

def T_eqI : Tab := fun f => if f = 18 then some (.p K_eqI) else T0 f
theorem T_eqI_ok : TabOk Try.prog T_eqI := fun f k h => by
  unfold T_eqI at h
  split at h
  · rename_i e; cases h; subst e; exact ⟨eqI_ok, eqI_fn⟩
  · exact T0_ok f k h
attribute [go_sem] T_eqI K_eqI


def K_eqL : Con := ⟨[.val ((.row 24 (.row 2 (.int .i64)))), .val ((.row 24 (.row 2 (.int .i64))))], [⟨.bool, true⟩], fun _ => True, fun x => eqD (x.1 : List (List Int)) (x.2.1 : List (List Int))⟩
set_option maxRecDepth 100000 in
set_option maxHeartbeats 1000000 in
theorem eqL_ok : PureT Try.prog 30 K_eqL := by
  refine pure_of_body Try.func30 rfl ?_
  have hres : Try.f30.results.toList = [.tmp 4] := rfl
  rintro ⟨(xs : List (List Int)), (ys : List (List Int)), _⟩ hc hL
  simp only [K_eqL, lensOk, PK.lenOk, glensOk, GP.lenOk, flensOk, GO.lenOk, olensOk, Ty.lenOk, Ty.flat, Bool.and_true, Bool.true_and, Bool.and_false, Bool.false_and, true_and, and_true, implies_true, forall_const] at hL
  obtain ⟨lxs, lys⟩ := hL
  simp only [K_eqL, St.init, St.initG, Try.ntmps30, go_sem] 
  refine AWP_seq_k fun K1 hK1 => ?_
  refine AWP_region (G := G) (T := T_eqI) T_eqI_ok ?_
  simp only [go_sem]
  refine hK1 _ ?_
  refine AWP_seq_k fun K2 hK2 => ?_
  refine AWP_seq_k fun K3 hK3 => ?_
  refine AWP_region (G := G) (T := T_eqI) T_eqI_ok ?_
  simp (maxSteps := 2000000) only [go_sem]
  refine hK3 _ ?_
  refine AWP_cond rfl ?_ ?_
  ·
   intro c0
   try simp only [decide_eq_true_eq, decide_eq_false_iff_not, Bool.not_eq_true', Bool.not_eq_false', ne_eq, Int.not_lt, Int.not_le] at c0
   refine AWP_seq_k fun K4 hK4 => ?_
   refine AWP_region (G := G) (T := T_eqI) T_eqI_ok ?_
   simp only [go_sem]
   refine hK4 _ ?_
   refine AWP_ret ?_
   simp only [hres, go_sem]
   first
     | exact finOk_mk (by rfl) (by decide)
     | refine ⟨?_, finOk_mk (by rfl) (by decide)⟩
       exact (eq_len (by omega)).symm
  ·
   intro c0
   try simp only [decide_eq_true_eq, decide_eq_false_iff_not, Bool.not_eq_true', Bool.not_eq_false', ne_eq, Int.not_lt, Int.not_le] at c0
   refine AWP_skip ?_
   simp only [go_sem]
   refine hK2 _ ?_
   refine AWP_seq_k fun K5 hK5 => ?_
   refine AWP_seq_k fun K6 hK6 => ?_
   refine AWP_region (G := G) (T := T_eqI) T_eqI_ok ?_
   simp only [go_sem]
   refine hK6 _ ?_
   refine AWP_block ?_
   refine AWP_loop_k (ι := { k : Nat // k ≤ xs.length ∧ xs.take k = ys.take k }) (fun k => ⟨[.c (.rd [] 24 (.row 2 (.int .i64)) (xs)), .c (.rd [] 24 (.row 2 (.int .i64)) (ys)), zz, zz, zz, .c (.sc (.int .i64 (k.1))), zz, zz, zz, zz, zz, zz, zz, zz, zz, zz, zz, zz, zz, zz, zz, zz, zz, zz, zz, zz, zz], []⟩) (fun k => xs.length - k.1) ⟨0, by simp, by simp⟩ ?_ ?_
   ·
    refine Wk_to (by rfl) ?_
    simp (maxSteps := 2000000) only [go_sem]
    all_goals (first | rfl | ((repeat' refine And.intro ?_ ?_) <;> first | rfl | simp))
   rintro ⟨k, hk, hp⟩ K7 hL7
   refine AWP_seq_k fun K8 hK8 => ?_
   refine AWP_seq_k fun K9 hK9 => ?_
   refine AWP_region (G := G) (T := T_eqI) T_eqI_ok ?_
   simp only [go_sem]
   refine hK9 _ ?_
   refine AWP_cond rfl ?_ ?_
   ·
    intro c1
    try simp only [decide_eq_true_eq, decide_eq_false_iff_not, Bool.not_eq_true', Bool.not_eq_false', ne_eq, Int.not_lt, Int.not_le] at c1
    refine AWP_skip ?_
    simp only [go_sem]
    refine hK8 _ ?_
    refine AWP_seq_k fun K10 hK10 => ?_
    refine AWP_block ?_
    refine AWP_seq_k fun K11 hK11 => ?_
    refine AWP_draw (G := G) (T := T_eqI) T_eqI_ok mixed
      [[], [], [0, 1], [0, 1, 2], [], [], [4, 5], [4, 5, 6], [0, 1, 2, 3, 4, 5, 6, 7], [0, 1, 2, 3, 4, 5, 6, 7, 8]]
      [[], [], [], [], [], [], [], [], [], []]
      [[], [], [], [], [], [], [], [], [], []] (by kernel_rfl) (by kernel_rfl) (adrawR_ok (acc := []) ?_)
    simp (maxSteps := 2000000) only [go_sem]
    repeat (with_reducible refine And.intro (by first | exact chk_leaf (by kernel_rfl) | omega | exact ⟨rfl, by omega, by omega, by omega⟩) ?_)
    refine hK11 _ ?_
    refine AWP_cond rfl ?_ ?_
    ·
     intro c2
     try simp only [decide_eq_true_eq, decide_eq_false_iff_not, Bool.not_eq_true', Bool.not_eq_false', ne_eq, Int.not_lt, Int.not_le] at c2
     refine AWP_seq_k fun K12 hK12 => ?_
     refine AWP_region (G := G) (T := T_eqI) T_eqI_ok ?_
     simp only [go_sem]
     refine hK12 _ ?_
     refine AWP_ret ?_
     simp only [hres, go_sem]
     first
       | exact finOk_mk (by rfl) (by decide)
       | refine ⟨?_, finOk_mk (by rfl) (by decide)⟩
         exact (eq_stop ([] : List Int) (m := k) (by first | assumption | exact decide_eq_false (by assumption))).symm
    ·
     intro c2
     try simp only [decide_eq_true_eq, decide_eq_false_iff_not, Bool.not_eq_true', Bool.not_eq_false', ne_eq, Int.not_lt, Int.not_le] at c2
     refine AWP_skip ?_
     simp only [go_sem]
     refine hK10 _ ?_
     refine AWP_region (G := G) (T := T_eqI) T_eqI_ok ?_
     simp only [go_sem]
     refine hL7 ⟨k + 1, by omega, eq_next (d := ([] : List Int)) (by omega) (by omega) hp (by first | assumption | exact decide_eq_true (by assumption))⟩ _ (Wk_to (by rfl) ?_) ?_
     ·
      simp (maxSteps := 2000000) only [go_sem]
      all_goals (first | rfl | ((repeat' refine And.intro ?_ ?_) <;> first | rfl | exact wk (by omega) | simp))
     ·
      first | (simp only []; omega) | omega | (simp; omega)
   ·
    intro c1
    try simp only [decide_eq_true_eq, decide_eq_false_iff_not, Bool.not_eq_true', Bool.not_eq_false', ne_eq, Int.not_lt, Int.not_le] at c1
    refine AWP_exit ?_
    simp only [go_sem]
    refine hK5 _ ?_
    refine AWP_seq_k fun K13 hK13 => ?_
    refine AWP_region (G := G) (T := T_eqI) T_eqI_ok ?_
    simp only [go_sem]
    refine hK13 _ ?_
    refine AWP_ret ?_
    simp only [hres, go_sem]
    first
      | exact finOk_mk (by rfl) (by decide)
      | refine ⟨?_, finOk_mk (by rfl) (by decide)⟩
        exact (eq_done (m := k) (by omega) (by omega) hp).symm

theorem eqL_fn : FnOk Try.prog 30 := fnOk_of Try.func30 rfl (by decide)

def T_eqL : Tab := fun f => if f = 30 then some (.p K_eqL) else T_eqI f
theorem T_eqL_ok : TabOk Try.prog T_eqL := fun f k h => by
  unfold T_eqL at h
  split at h
  · rename_i e; cases h; subst e; exact ⟨eqL_ok, eqL_fn⟩
  · exact T_eqI_ok f k h
attribute [go_sem] T_eqL K_eqL


def K_eqN : Con := ⟨[.val ((.prod (.int .i64) (.prod (.int .i64) (.prod (.int .i64) (.row 2 (.int .i64)))))), .val ((.prod (.int .i64) (.prod (.int .i64) (.prod (.int .i64) (.row 2 (.int .i64))))))], [⟨.bool, true⟩], fun _ => True, fun x => eqD (x.1 : NodeD) (x.2.1 : NodeD)⟩
set_option maxRecDepth 100000 in
set_option maxHeartbeats 1000000 in
theorem eqN_ok : PureT Try.prog 122 K_eqN := by
  refine pure_of_body Try.func122 rfl ?_
  have hres : Try.f122.results.toList = [.tmp 4] := rfl
  rintro ⟨⟨(kd : Int), (a : Int), (bb : Int), (fr : List Int)⟩, ⟨(kd2 : Int), (a2 : Int), (bb2 : Int), (fr2 : List Int)⟩, _⟩ hc hL
  simp only [K_eqN, lensOk, PK.lenOk, glensOk, GP.lenOk, flensOk, GO.lenOk, olensOk, Ty.lenOk, Ty.flat, Bool.and_true, Bool.true_and, Bool.and_false, Bool.false_and, true_and, and_true, implies_true, forall_const] at hL
  simp only [K_eqN, St.init, St.initG, Try.ntmps122, go_sem] 
  refine AWP_seq_k fun K1 hK1 => ?_
  refine AWP_region (G := G) (T := T_eqL) T_eqL_ok ?_
  simp only [go_sem]
  refine hK1 _ ?_
  refine AWP_seq_k fun K2 hK2 => ?_
  refine AWP_seq_k fun K3 hK3 => ?_
  refine AWP_region (G := G) (T := T_eqL) T_eqL_ok ?_
  simp (maxSteps := 2000000) only [go_sem]
  repeat (with_reducible refine And.intro (by first | omega | exact ⟨rfl, by omega, by omega, by omega⟩) ?_)
  refine hK3 _ ?_
  refine AWP_cond rfl ?_ ?_
  ·
   intro c0
   try simp only [decide_eq_true_eq, decide_eq_false_iff_not, Bool.not_eq_true', Bool.not_eq_false', ne_eq, Int.not_lt, Int.not_le] at c0
   refine AWP_seq_k fun K4 hK4 => ?_
   refine AWP_region (G := G) (T := T_eqL) T_eqL_ok ?_
   simp only [go_sem]
   refine hK4 _ ?_
   refine AWP_ret ?_
   simp only [hres, go_sem]
   first
     | exact finOk_mk (by rfl) (by decide)
     | refine ⟨?_, finOk_mk (by rfl) (by decide)⟩
       clear hK1 hK2 hK3 hK4; simp_all [eqD]
  ·
   intro c0
   try simp only [decide_eq_true_eq, decide_eq_false_iff_not, Bool.not_eq_true', Bool.not_eq_false', ne_eq, Int.not_lt, Int.not_le] at c0
   refine AWP_skip ?_
   simp only [go_sem]
   refine hK2 _ ?_
   refine AWP_seq_k fun K5 hK5 => ?_
   refine AWP_seq_k fun K6 hK6 => ?_
   refine AWP_region (G := G) (T := T_eqL) T_eqL_ok ?_
   simp (maxSteps := 2000000) only [go_sem]
   repeat (with_reducible refine And.intro (by first | omega | exact ⟨rfl, by omega, by omega, by omega⟩) ?_)
   refine hK6 _ ?_
   refine AWP_cond rfl ?_ ?_
   ·
    intro c1
    try simp only [decide_eq_true_eq, decide_eq_false_iff_not, Bool.not_eq_true', Bool.not_eq_false', ne_eq, Int.not_lt, Int.not_le] at c1
    refine AWP_seq_k fun K7 hK7 => ?_
    refine AWP_region (G := G) (T := T_eqL) T_eqL_ok ?_
    simp only [go_sem]
    refine hK7 _ ?_
    refine AWP_ret ?_
    simp only [hres, go_sem]
    first
      | exact finOk_mk (by rfl) (by decide)
      | refine ⟨?_, finOk_mk (by rfl) (by decide)⟩
        clear hK1 hK2 hK3 hK5 hK6 hK7; simp_all [eqD]
   ·
    intro c1
    try simp only [decide_eq_true_eq, decide_eq_false_iff_not, Bool.not_eq_true', Bool.not_eq_false', ne_eq, Int.not_lt, Int.not_le] at c1
    refine AWP_skip ?_
    simp only [go_sem]
    refine hK5 _ ?_
    refine AWP_seq_k fun K8 hK8 => ?_
    refine AWP_seq_k fun K9 hK9 => ?_
    refine AWP_region (G := G) (T := T_eqL) T_eqL_ok ?_
    simp (maxSteps := 2000000) only [go_sem]
    repeat (with_reducible refine And.intro (by first | omega | exact ⟨rfl, by omega, by omega, by omega⟩) ?_)
    refine hK9 _ ?_
    refine AWP_cond rfl ?_ ?_
    ·
     intro c2
     try simp only [decide_eq_true_eq, decide_eq_false_iff_not, Bool.not_eq_true', Bool.not_eq_false', ne_eq, Int.not_lt, Int.not_le] at c2
     refine AWP_seq_k fun K10 hK10 => ?_
     refine AWP_region (G := G) (T := T_eqL) T_eqL_ok ?_
     simp only [go_sem]
     refine hK10 _ ?_
     refine AWP_ret ?_
     simp only [hres, go_sem]
     first
       | exact finOk_mk (by rfl) (by decide)
       | refine ⟨?_, finOk_mk (by rfl) (by decide)⟩
         clear hK1 hK2 hK3 hK5 hK6 hK8 hK9 hK10; simp_all [eqD]
    ·
     intro c2
     try simp only [decide_eq_true_eq, decide_eq_false_iff_not, Bool.not_eq_true', Bool.not_eq_false', ne_eq, Int.not_lt, Int.not_le] at c2
     refine AWP_skip ?_
     simp only [go_sem]
     refine hK8 _ ?_
     refine AWP_seq_k fun K11 hK11 => ?_
     refine AWP_seq_k fun K12 hK12 => ?_
     refine AWP_region (G := G) (T := T_eqL) T_eqL_ok ?_
     simp (maxSteps := 2000000) only [go_sem]
     repeat (with_reducible refine And.intro (by first | omega | exact ⟨rfl, by omega, by omega, by omega⟩) ?_)
     refine hK12 _ ?_
     refine AWP_cond rfl ?_ ?_
     ·
      intro c3
      try simp only [decide_eq_true_eq, decide_eq_false_iff_not, Bool.not_eq_true', Bool.not_eq_false', ne_eq, Int.not_lt, Int.not_le] at c3
      refine AWP_seq_k fun K13 hK13 => ?_
      refine AWP_region (G := G) (T := T_eqL) T_eqL_ok ?_
      simp only [go_sem]
      refine hK13 _ ?_
      refine AWP_ret ?_
      simp only [hres, go_sem]
      first
        | exact finOk_mk (by rfl) (by decide)
        | refine ⟨?_, finOk_mk (by rfl) (by decide)⟩
          clear hK1 hK2 hK3 hK5 hK6 hK8 hK9 hK11 hK12 hK13; simp_all [eqD]
     ·
      intro c3
      try simp only [decide_eq_true_eq, decide_eq_false_iff_not, Bool.not_eq_true', Bool.not_eq_false', ne_eq, Int.not_lt, Int.not_le] at c3
      refine AWP_skip ?_
      simp only [go_sem]
      refine hK11 _ ?_
      refine AWP_seq_k fun K14 hK14 => ?_
      refine AWP_region (G := G) (T := T_eqL) T_eqL_ok ?_
      simp only [go_sem]
      refine hK14 _ ?_
      refine AWP_ret ?_
      simp only [hres, go_sem]
      first
        | exact finOk_mk (by rfl) (by decide)
        | refine ⟨?_, finOk_mk (by rfl) (by decide)⟩
          clear hK1 hK2 hK3 hK5 hK6 hK8 hK9 hK11 hK12 hK14; simp_all [eqD]

theorem eqN_fn : FnOk Try.prog 122 := fnOk_of Try.func122 rfl (by decide)

def T_eqN : Tab := fun f => if f = 122 then some (.p K_eqN) else T_eqL f
theorem T_eqN_ok : TabOk Try.prog T_eqN := fun f k h => by
  unfold T_eqN at h
  split at h
  · rename_i e; cases h; subst e; exact ⟨eqN_ok, eqN_fn⟩
  · exact T_eqL_ok f k h
attribute [go_sem] T_eqN K_eqN


def K_eqNs : Con := ⟨[.val ((.row 140 (.prod (.int .i64) (.prod (.int .i64) (.prod (.int .i64) (.row 2 (.int .i64))))))), .val ((.row 140 (.prod (.int .i64) (.prod (.int .i64) (.prod (.int .i64) (.row 2 (.int .i64)))))))], [⟨.bool, true⟩], fun _ => True, fun x => eqD (x.1 : List NodeD) (x.2.1 : List NodeD)⟩
set_option maxRecDepth 100000 in
set_option maxHeartbeats 1000000 in
theorem eqNs_ok : PureT Try.prog 68 K_eqNs := by
  refine pure_of_body Try.func68 rfl ?_
  have hres : Try.f68.results.toList = [.tmp 4] := rfl
  rintro ⟨(xs : List NodeD), (ys : List NodeD), _⟩ hc hL
  simp only [K_eqNs, lensOk, PK.lenOk, glensOk, GP.lenOk, flensOk, GO.lenOk, olensOk, Ty.lenOk, Ty.flat, Bool.and_true, Bool.true_and, Bool.and_false, Bool.false_and, true_and, and_true, implies_true, forall_const] at hL
  obtain ⟨lxs, lys⟩ := hL
  simp only [K_eqNs, St.init, St.initG, Try.ntmps68, go_sem] 
  refine AWP_seq_k fun K1 hK1 => ?_
  refine AWP_region (G := G) (T := T_eqN) T_eqN_ok ?_
  simp only [go_sem]
  refine hK1 _ ?_
  refine AWP_seq_k fun K2 hK2 => ?_
  refine AWP_seq_k fun K3 hK3 => ?_
  refine AWP_region (G := G) (T := T_eqN) T_eqN_ok ?_
  simp (maxSteps := 2000000) only [go_sem]
  refine hK3 _ ?_
  refine AWP_cond rfl ?_ ?_
  ·
   intro c0
   try simp only [decide_eq_true_eq, decide_eq_false_iff_not, Bool.not_eq_true', Bool.not_eq_false', ne_eq, Int.not_lt, Int.not_le] at c0
   refine AWP_seq_k fun K4 hK4 => ?_
   refine AWP_region (G := G) (T := T_eqN) T_eqN_ok ?_
   simp only [go_sem]
   refine hK4 _ ?_
   refine AWP_ret ?_
   simp only [hres, go_sem]
   first
     | exact finOk_mk (by rfl) (by decide)
     | refine ⟨?_, finOk_mk (by rfl) (by decide)⟩
       exact (eq_len (by omega)).symm
  ·
   intro c0
   try simp only [decide_eq_true_eq, decide_eq_false_iff_not, Bool.not_eq_true', Bool.not_eq_false', ne_eq, Int.not_lt, Int.not_le] at c0
   refine AWP_skip ?_
   simp only [go_sem]
   refine hK2 _ ?_
   refine AWP_seq_k fun K5 hK5 => ?_
   refine AWP_seq_k fun K6 hK6 => ?_
   refine AWP_region (G := G) (T := T_eqN) T_eqN_ok ?_
   simp only [go_sem]
   refine hK6 _ ?_
   refine AWP_block ?_
   refine AWP_loop_k (ι := { k : Nat // k ≤ xs.length ∧ xs.take k = ys.take k }) (fun k => ⟨[.c (.rd [] 140 ((.prod (.int .i64) (.prod (.int .i64) (.prod (.int .i64) (.row 2 (.int .i64)))))) (xs)), .c (.rd [] 140 ((.prod (.int .i64) (.prod (.int .i64) (.prod (.int .i64) (.row 2 (.int .i64)))))) (ys)), zz, zz, zz, .c (.sc (.int .i64 (k.1))), zz, zz, zz, zz, zz, zz, zz, zz, zz, zz, zz, zz, zz, zz, zz, zz, zz, zz, zz, zz, zz], []⟩) (fun k => xs.length - k.1) ⟨0, by simp, by simp⟩ ?_ ?_
   ·
    refine Wk_to (by rfl) ?_
    simp (maxSteps := 2000000) only [go_sem]
    all_goals (first | rfl | ((repeat' refine And.intro ?_ ?_) <;> first | rfl | simp))
   rintro ⟨k, hk, hp⟩ K7 hL7
   refine AWP_seq_k fun K8 hK8 => ?_
   refine AWP_seq_k fun K9 hK9 => ?_
   refine AWP_region (G := G) (T := T_eqN) T_eqN_ok ?_
   simp only [go_sem]
   refine hK9 _ ?_
   refine AWP_cond rfl ?_ ?_
   ·
    intro c1
    try simp only [decide_eq_true_eq, decide_eq_false_iff_not, Bool.not_eq_true', Bool.not_eq_false', ne_eq, Int.not_lt, Int.not_le] at c1
    refine AWP_skip ?_
    simp only [go_sem]
    refine hK8 _ ?_
    refine AWP_seq_k fun K10 hK10 => ?_
    refine AWP_block ?_
    refine AWP_seq_k fun K11 hK11 => ?_
    refine AWP_draw (G := G) (T := T_eqN) T_eqN_ok mixed
      [[], [], [0, 1], [0, 1, 2], [], [], [4, 5], [4, 5, 6], [0, 1, 2, 3, 4, 5, 6, 7], [0, 1, 2, 3, 4, 5, 6, 7, 8]]
      [[], [], [], [], [], [], [], [], [], []]
      [[], [], [], [], [], [], [], [], [], []] (by kernel_rfl) (by kernel_rfl) (adrawR_ok (acc := []) ?_)
    simp (maxSteps := 2000000) only [go_sem]
    repeat (with_reducible refine And.intro (by first | exact chk_leaf (by kernel_rfl) | omega | exact ⟨rfl, by omega, by omega, by omega⟩) ?_)
    refine hK11 _ ?_
    refine AWP_cond rfl ?_ ?_
    ·
     intro c2
     try simp only [decide_eq_true_eq, decide_eq_false_iff_not, Bool.not_eq_true', Bool.not_eq_false', ne_eq, Int.not_lt, Int.not_le] at c2
     refine AWP_seq_k fun K12 hK12 => ?_
     refine AWP_region (G := G) (T := T_eqN) T_eqN_ok ?_
     simp only [go_sem]
     refine hK12 _ ?_
     refine AWP_ret ?_
     simp only [hres, go_sem]
     first
       | exact finOk_mk (by rfl) (by decide)
       | refine ⟨?_, finOk_mk (by rfl) (by decide)⟩
         exact (eq_stop ((0, 0, 0, []) : NodeD) (m := k) (by first | assumption | exact decide_eq_false (by assumption))).symm
    ·
     intro c2
     try simp only [decide_eq_true_eq, decide_eq_false_iff_not, Bool.not_eq_true', Bool.not_eq_false', ne_eq, Int.not_lt, Int.not_le] at c2
     refine AWP_skip ?_
     simp only [go_sem]
     refine hK10 _ ?_
     refine AWP_region (G := G) (T := T_eqN) T_eqN_ok ?_
     simp only [go_sem]
     refine hL7 ⟨k + 1, by omega, eq_next (d := ((0, 0, 0, []) : NodeD)) (by omega) (by omega) hp (by first | assumption | exact decide_eq_true (by assumption))⟩ _ (Wk_to (by rfl) ?_) ?_
     ·
      simp (maxSteps := 2000000) only [go_sem]
      all_goals (first | rfl | ((repeat' refine And.intro ?_ ?_) <;> first | rfl | exact wk (by omega) | simp))
     ·
      first | (simp only []; omega) | omega | (simp; omega)
   ·
    intro c1
    try simp only [decide_eq_true_eq, decide_eq_false_iff_not, Bool.not_eq_true', Bool.not_eq_false', ne_eq, Int.not_lt, Int.not_le] at c1
    refine AWP_exit ?_
    simp only [go_sem]
    refine hK5 _ ?_
    refine AWP_seq_k fun K13 hK13 => ?_
    refine AWP_region (G := G) (T := T_eqN) T_eqN_ok ?_
    simp only [go_sem]
    refine hK13 _ ?_
    refine AWP_ret ?_
    simp only [hres, go_sem]
    first
      | exact finOk_mk (by rfl) (by decide)
      | refine ⟨?_, finOk_mk (by rfl) (by decide)⟩
        exact (eq_done (m := k) (by omega) (by omega) hp).symm

theorem eqNs_fn : FnOk Try.prog 68 := fnOk_of Try.func68 rfl (by decide)

def T_eqNs : Tab := fun f => if f = 68 then some (.p K_eqNs) else T_eqN f
theorem T_eqNs_ok : TabOk Try.prog T_eqNs := fun f k h => by
  unfold T_eqNs at h
  split at h
  · rename_i e; cases h; subst e; exact ⟨eqNs_ok, eqNs_fn⟩
  · exact T_eqN_ok f k h
attribute [go_sem] T_eqNs K_eqNs


def K_eqP : Con := ⟨[.val ((.prod (.int .i64) (.prod (.row 24 (.row 2 (.int .i64))) (.prod (.row 140 (.prod (.int .i64) (.prod (.int .i64) (.prod (.int .i64) (.row 2 (.int .i64)))))) (.row 2 (.int .i64)))))), .val ((.prod (.int .i64) (.prod (.row 24 (.row 2 (.int .i64))) (.prod (.row 140 (.prod (.int .i64) (.prod (.int .i64) (.prod (.int .i64) (.row 2 (.int .i64)))))) (.row 2 (.int .i64))))))], [⟨.bool, true⟩], fun _ => True, fun x => eqD (x.1 : PatchD) (x.2.1 : PatchD)⟩
set_option maxRecDepth 100000 in
set_option maxHeartbeats 1000000 in
theorem eqP_ok : PureT Try.prog 20 K_eqP := by
  refine pure_of_body Try.func20 rfl ?_
  have hres : Try.f20.results.toList = [.tmp 4] := rfl
  rintro ⟨⟨(pi : Int), (ts : List (List Int)), (ns : List NodeD), (os : List Int)⟩, ⟨(pi2 : Int), (ts2 : List (List Int)), (ns2 : List NodeD), (os2 : List Int)⟩, _⟩ hc hL
  simp only [K_eqP, lensOk, PK.lenOk, glensOk, GP.lenOk, flensOk, GO.lenOk, olensOk, Ty.lenOk, Ty.flat, Bool.and_true, Bool.true_and, Bool.and_false, Bool.false_and, true_and, and_true, implies_true, forall_const] at hL
  simp only [K_eqP, St.init, St.initG, Try.ntmps20, go_sem] 
  refine AWP_seq_k fun K1 hK1 => ?_
  refine AWP_region (G := G) (T := T_eqNs) T_eqNs_ok ?_
  simp only [go_sem]
  refine hK1 _ ?_
  refine AWP_seq_k fun K2 hK2 => ?_
  refine AWP_seq_k fun K3 hK3 => ?_
  refine AWP_region (G := G) (T := T_eqNs) T_eqNs_ok ?_
  simp (maxSteps := 2000000) only [go_sem]
  repeat (with_reducible refine And.intro (by first | omega | exact ⟨rfl, by omega, by omega, by omega⟩) ?_)
  refine hK3 _ ?_
  refine AWP_cond rfl ?_ ?_
  ·
   intro c0
   try simp only [decide_eq_true_eq, decide_eq_false_iff_not, Bool.not_eq_true', Bool.not_eq_false', ne_eq, Int.not_lt, Int.not_le] at c0
   refine AWP_seq_k fun K4 hK4 => ?_
   refine AWP_region (G := G) (T := T_eqNs) T_eqNs_ok ?_
   simp only [go_sem]
   refine hK4 _ ?_
   refine AWP_ret ?_
   simp only [hres, go_sem]
   first
     | exact finOk_mk (by rfl) (by decide)
     | refine ⟨?_, finOk_mk (by rfl) (by decide)⟩
       clear hK1 hK2 hK3 hK4; simp_all [eqD]
  ·
   intro c0
   try simp only [decide_eq_true_eq, decide_eq_false_iff_not, Bool.not_eq_true', Bool.not_eq_false', ne_eq, Int.not_lt, Int.not_le] at c0
   refine AWP_skip ?_
   simp only [go_sem]
   refine hK2 _ ?_
   refine AWP_seq_k fun K5 hK5 => ?_
   refine AWP_seq_k fun K6 hK6 => ?_
   refine AWP_region (G := G) (T := T_eqNs) T_eqNs_ok ?_
   simp (maxSteps := 2000000) only [go_sem]
   repeat (with_reducible refine And.intro (by first | omega | exact ⟨rfl, by omega, by omega, by omega⟩) ?_)
   refine hK6 _ ?_
   refine AWP_cond rfl ?_ ?_
   ·
    intro c1
    try simp only [decide_eq_true_eq, decide_eq_false_iff_not, Bool.not_eq_true', Bool.not_eq_false', ne_eq, Int.not_lt, Int.not_le] at c1
    refine AWP_seq_k fun K7 hK7 => ?_
    refine AWP_region (G := G) (T := T_eqNs) T_eqNs_ok ?_
    simp only [go_sem]
    refine hK7 _ ?_
    refine AWP_ret ?_
    simp only [hres, go_sem]
    first
      | exact finOk_mk (by rfl) (by decide)
      | refine ⟨?_, finOk_mk (by rfl) (by decide)⟩
        clear hK1 hK2 hK3 hK5 hK6 hK7; simp_all [eqD]
   ·
    intro c1
    try simp only [decide_eq_true_eq, decide_eq_false_iff_not, Bool.not_eq_true', Bool.not_eq_false', ne_eq, Int.not_lt, Int.not_le] at c1
    refine AWP_skip ?_
    simp only [go_sem]
    refine hK5 _ ?_
    refine AWP_seq_k fun K8 hK8 => ?_
    refine AWP_seq_k fun K9 hK9 => ?_
    refine AWP_region (G := G) (T := T_eqNs) T_eqNs_ok ?_
    simp (maxSteps := 2000000) only [go_sem]
    repeat (with_reducible refine And.intro (by first | omega | exact ⟨rfl, by omega, by omega, by omega⟩) ?_)
    refine hK9 _ ?_
    refine AWP_cond rfl ?_ ?_
    ·
     intro c2
     try simp only [decide_eq_true_eq, decide_eq_false_iff_not, Bool.not_eq_true', Bool.not_eq_false', ne_eq, Int.not_lt, Int.not_le] at c2
     refine AWP_seq_k fun K10 hK10 => ?_
     refine AWP_region (G := G) (T := T_eqNs) T_eqNs_ok ?_
     simp only [go_sem]
     refine hK10 _ ?_
     refine AWP_ret ?_
     simp only [hres, go_sem]
     first
       | exact finOk_mk (by rfl) (by decide)
       | refine ⟨?_, finOk_mk (by rfl) (by decide)⟩
         clear hK1 hK2 hK3 hK5 hK6 hK8 hK9 hK10; simp_all [eqD]
    ·
     intro c2
     try simp only [decide_eq_true_eq, decide_eq_false_iff_not, Bool.not_eq_true', Bool.not_eq_false', ne_eq, Int.not_lt, Int.not_le] at c2
     refine AWP_skip ?_
     simp only [go_sem]
     refine hK8 _ ?_
     refine AWP_seq_k fun K11 hK11 => ?_
     refine AWP_seq_k fun K12 hK12 => ?_
     refine AWP_region (G := G) (T := T_eqNs) T_eqNs_ok ?_
     simp (maxSteps := 2000000) only [go_sem]
     repeat (with_reducible refine And.intro (by first | omega | exact ⟨rfl, by omega, by omega, by omega⟩) ?_)
     refine hK12 _ ?_
     refine AWP_cond rfl ?_ ?_
     ·
      intro c3
      try simp only [decide_eq_true_eq, decide_eq_false_iff_not, Bool.not_eq_true', Bool.not_eq_false', ne_eq, Int.not_lt, Int.not_le] at c3
      refine AWP_seq_k fun K13 hK13 => ?_
      refine AWP_region (G := G) (T := T_eqNs) T_eqNs_ok ?_
      simp only [go_sem]
      refine hK13 _ ?_
      refine AWP_ret ?_
      simp only [hres, go_sem]
      first
        | exact finOk_mk (by rfl) (by decide)
        | refine ⟨?_, finOk_mk (by rfl) (by decide)⟩
          clear hK1 hK2 hK3 hK5 hK6 hK8 hK9 hK11 hK12 hK13; simp_all [eqD]
     ·
      intro c3
      try simp only [decide_eq_true_eq, decide_eq_false_iff_not, Bool.not_eq_true', Bool.not_eq_false', ne_eq, Int.not_lt, Int.not_le] at c3
      refine AWP_skip ?_
      simp only [go_sem]
      refine hK11 _ ?_
      refine AWP_seq_k fun K14 hK14 => ?_
      refine AWP_region (G := G) (T := T_eqNs) T_eqNs_ok ?_
      simp only [go_sem]
      refine hK14 _ ?_
      refine AWP_ret ?_
      simp only [hres, go_sem]
      first
        | exact finOk_mk (by rfl) (by decide)
        | refine ⟨?_, finOk_mk (by rfl) (by decide)⟩
          clear hK1 hK2 hK3 hK5 hK6 hK8 hK9 hK11 hK12 hK14; simp_all [eqD]

theorem eqP_fn : FnOk Try.prog 20 := fnOk_of Try.func20 rfl (by decide)

def T_eqP : Tab := fun f => if f = 20 then some (.p K_eqP) else T_eqNs f
theorem T_eqP_ok : TabOk Try.prog T_eqP := fun f k h => by
  unfold T_eqP at h
  split at h
  · rename_i e; cases h; subst e; exact ⟨eqP_ok, eqP_fn⟩
  · exact T_eqNs_ok f k h
attribute [go_sem] T_eqP K_eqP

end Go.Proofs.Ythglggjgjlmhlaa
