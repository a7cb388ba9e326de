/-
  Contracts of functions: step.
-/
import Derived.Test.YthglggjgjlmhlaaGreatHr4
import Derived.Test.YthglggjgjlmhlaaGreatHa1
import Derived.Test.YthglggjgjlmhlaaGreatPe
namespace Go.Proofs.YthglggjgjlmhlaaGreat
open Go.RowKit
set_option linter.unusedSimpArgs false
set_option linter.unusedVariables false

def T_mHr50 : Tab := fun f => match T_output f with
  | some k => some k
  | none => T_clones f
theorem T_mHr50_ok : TabOk Tryz.prog T_mHr50 := fun f k h => by
  unfold T_mHr50 at h
  split at h
  · rename_i e; cases h; exact T_output_ok f _ e
  · exact T_clones_ok f k h
attribute [go_sem] T_mHr50 T0


def K_step : Con := ⟨[.val ((.prod (.int .i64) (.prod (.int .i64) (.prod (.int .i64) (.row 2 (.int .i64)))))), .val ((.row 24 (.row 2 (.int .i64)))), .val ((.row 2 (.int .i64))), .val ((.row 2 (.int .i64)))], [⟨.int .i64, true⟩, ⟨(.row 2 (.int .i64)), true⟩], fun x => stepC x.1 x.2.1 x.2.2.1 x.2.2.2.1, fun x => (outV x.1.1 x.1.2.1 x.2.1 x.2.2.1 x.2.2.2.1, nextV x.1.1 x.2.2.1 x.2.2.2.1 (outV x.1.1 x.1.2.1 x.2.1 x.2.2.1 x.2.2.2.1))⟩
set_option maxRecDepth 100000 in
set_option maxHeartbeats 8000000 in
theorem step_ok : PureT Tryz.prog 78 K_step := by
  refine pure_of_body Tryz.func78 rfl ?_
  have hres : Tryz.f78.results.toList = [.tmp 8, .tmp 9] := rfl
  rintro ⟨⟨(kd : Int), (a : Int), (bb : Int), (fr : List Int)⟩, (tb : List (List Int)), (ii : List Int), (ss : List Int), _⟩ hc hL
  simp only [K_step, lensOk, PK.lenOk, glensOk, GP.lenOk, flensOk, GO.lenOk, olensOk, Ty.lenOk, Ty.flat, Bool.and_true, Bool.true_and, Bool.and_false, Bool.false_and, true_and, and_true, implies_true, forall_const] at hL
  simp only [K_step, St.init, St.initG, Tryz.ntmps78, go_sem] 
  have hS : stepC (kd, a, bb, fr) tb ii ss := hc
  obtain ⟨h1, h2, h3, h4, h5, h6, h7, h8, h9, h10, h11, h12, h13⟩ := stepC_parts hS
  have hi0 := stepC_smp hS 0
  have hi1 := stepC_smp hS 1
  refine AWP_seq_k fun K1 hK1 => ?_
  refine AWP_region (G := G) (T := T_mHr50) T_mHr50_ok ?_
  simp only [go_sem]
  refine hK1 _ ?_
  refine AWP_seq_k fun K2 hK2 => ?_
  refine AWP_seq_k fun K3 hK3 => ?_
  refine AWP_region (G := G) (T := T_mHr50) T_mHr50_ok ?_
  simp only [go_sem]
  repeat (with_reducible refine And.intro (by first | omega | exact ⟨rfl, by omega, by omega, by omega⟩) ?_)
  refine hK3 _ ?_
  refine AWP_block ?_
  refine AWP_seq_k fun K4 hK4 => ?_
  refine AWP_region (G := G) (T := T_mHr50) T_mHr50_ok ?_
  simp only [go_sem]
  refine hK4 _ ?_
  refine AWP_cond rfl ?_ ?_
  ·
   intro c0
   try simp only [decide_eq_true_eq, decide_eq_false_iff_not, Bool.not_eq_true', Bool.not_eq_false', ne_eq, Int.not_lt, Int.not_le] at c0
   refine AWP_seq_k fun K5 hK5 => ?_
   refine AWP_draw (G := G) (T := T_mHr50) T_mHr50_ok mixed
     [[], [0], [0, 1], [], [3], [3, 4], [], [6], [6, 7], [6, 7, 8], [3, 4, 5, 6, 7, 8, 9], [0, 1, 2, 3, 4, 5, 6, 7, 8, 9, 10], [0, 1, 2, 3, 4, 5, 6, 7, 8, 9, 10, 11]]
     [[452, 453, 454, 455, 456, 457, 458, 459, 460, 461, 462, 463, 464, 465, 466, 467, 516, 532], [452, 453, 454, 455, 456, 457, 458, 459, 460, 461, 462, 463, 464, 465, 466, 467, 516, 532], [452, 453, 454, 455, 456, 457, 458, 459, 460, 461, 462, 463, 464, 465, 466, 467, 516, 532], [516], [516], [516], [452, 453, 454, 455, 456, 457, 458, 459, 460, 461, 462, 463, 464, 465, 466, 467], [452, 453, 454, 455, 456, 457, 458, 459, 460, 461, 462, 463, 464, 465, 466, 467], [452, 453, 454, 455, 456, 457, 458, 459, 460, 461, 462, 463, 464, 465, 466, 467], [452, 453, 454, 455, 456, 457, 458, 459, 460, 461, 462, 463, 464, 465, 466, 467], [], [], []]
     [[], [], [], [], [], [452, 453, 454, 455, 456, 457, 458, 459, 460, 461, 462, 463, 464, 465, 466, 467], [], [], [], [516], [452, 453, 454, 455, 456, 457, 458, 459, 460, 461, 462, 463, 464, 465, 466, 467, 516, 532], [], []] (by kernel_rfl) (by kernel_rfl) (adrawR_ok (acc := []) ?_)
   simp (maxSteps := 2000000) only [List.nodup_nil, List.take_length, List.length_drop, go_sem]
   repeat (with_reducible refine And.intro (by first | exact chk_leaf (by kernel_rfl) | omega | exact ⟨rfl, by omega, by omega, by omega⟩) ?_)
   refine hK5 _ ?_
   refine AWP_ret ?_
   simp only [hres, go_sem]
   first
     | exact finOk_mk (by rfl) (by decide)
     | refine ⟨?_, finOk_mk (by rfl) (by decide)⟩
       first | (have e : kd = 6 := (by assumption); subst e; exact ⟨rfl, rfl⟩) | (have e : kd = 16 := (by assumption); subst e; first | (rw [outV_16t (by assumption)]; exact ⟨rfl, rfl⟩) | (rw [outV_16f (by omega)]; exact ⟨rfl, rfl⟩)) | (exfalso; omega) | exact ⟨outV_nos (by omega), (nextV_none (by omega) (by omega) (by omega) (by omega) (by omega) (by omega) (by omega)).symm⟩
  ·
   intro c0
   try simp only [decide_eq_true_eq, decide_eq_false_iff_not, Bool.not_eq_true', Bool.not_eq_false', ne_eq, Int.not_lt, Int.not_le] at c0
   refine AWP_seq_k fun K6 hK6 => ?_
   refine AWP_region (G := G) (T := T_mHr50) T_mHr50_ok ?_
   simp only [go_sem]
   refine hK6 _ ?_
   refine AWP_cond rfl ?_ ?_
   ·
    intro c1
    try simp only [decide_eq_true_eq, decide_eq_false_iff_not, Bool.not_eq_true', Bool.not_eq_false', ne_eq, Int.not_lt, Int.not_le] at c1
    refine AWP_seq_k fun K7 hK7 => ?_
    refine AWP_draw (G := G) (T := T_mHr50) T_mHr50_ok mixed
      [[], [0], [0, 1], [], [3], [3, 4], [0, 1, 2, 3, 4, 5], [0, 1, 2, 3, 4, 5, 6], [0, 1, 2, 3, 4, 5, 6, 7]]
      [[], [], [], [], [], [], [], [], []]
      [[], [], [], [], [], [], [], [], []] (by kernel_rfl) (by kernel_rfl) (adrawR_ok (acc := []) ?_)
    simp (maxSteps := 2000000) only [List.nodup_nil, w32_add3, w32_wrap, List.take_length, List.length_drop, go_sem]
    repeat (with_reducible refine And.intro (by first | exact chk_leaf (by kernel_rfl) | omega | exact ⟨rfl, by omega, by omega, by omega⟩) ?_)
    refine hK7 _ ?_
    refine AWP_seq_k fun K8 hK8 => ?_
    refine AWP_region (G := G) (T := T_mHr50) T_mHr50_ok ?_
    simp (maxSteps := 2000000) only [List.nodup_nil, w32_add3, w32_wrap, List.take_length, List.length_drop, go_sem]
    repeat (with_reducible refine And.intro (by first | omega | exact ⟨rfl, by omega, by omega, by omega⟩) ?_)
    refine hK8 _ ?_
    refine AWP_ret ?_
    simp only [hres, go_sem]
    first
      | exact finOk_mk (by rfl) (by decide)
      | refine ⟨?_, finOk_mk (by rfl) (by decide)⟩
        first | (have e : kd = 7 := (by assumption); subst e; exact ⟨rfl, rfl⟩) | (have e : kd = 16 := (by assumption); subst e; first | (rw [outV_16t (by assumption)]; exact ⟨rfl, rfl⟩) | (rw [outV_16f (by omega)]; exact ⟨rfl, rfl⟩)) | (exfalso; omega) | exact ⟨outV_nos (by omega), (nextV_none (by omega) (by omega) (by omega) (by omega) (by omega) (by omega) (by omega)).symm⟩
   ·
    intro c1
    try simp only [decide_eq_true_eq, decide_eq_false_iff_not, Bool.not_eq_true', Bool.not_eq_false', ne_eq, Int.not_lt, Int.not_le] at c1
    refine AWP_seq_k fun K9 hK9 => ?_
    refine AWP_region (G := G) (T := T_mHr50) T_mHr50_ok ?_
    simp only [go_sem]
    refine hK9 _ ?_
    refine AWP_cond rfl ?_ ?_
    ·
     intro c2
     try simp only [decide_eq_true_eq, decide_eq_false_iff_not, Bool.not_eq_true', Bool.not_eq_false', ne_eq, Int.not_lt, Int.not_le] at c2
     refine AWP_seq_k fun K10 hK10 => ?_
     refine AWP_draw (G := G) (T := T_mHr50) T_mHr50_ok mixed
       [[], [0], [0, 1], [], [3], [3, 4], [0, 1, 2, 3, 4, 5], [0, 1, 2, 3, 4, 5, 6], [], [8], [8, 9], [8, 9, 10], [0, 1, 2, 3, 4, 5, 6, 7], [0, 1, 2, 3, 4, 5, 6, 7, 8, 9, 10, 11, 12]]
       [[964], [964], [964], [964], [964], [964], [964], [964], [], [], [], [], [964], []]
       [[], [], [], [], [], [], [], [], [], [], [], [964], [], []] (by kernel_rfl) (by kernel_rfl) (adrawR_ok (acc := []) ?_)
     simp (maxSteps := 2000000) only [List.nodup_nil, w32_add3, w32_wrap, List.take_length, List.length_drop, go_sem]
     repeat (with_reducible refine And.intro (by first | exact chk_leaf (by kernel_rfl) | omega | exact ⟨rfl, by omega, by omega, by omega⟩) ?_)
     refine hK10 _ ?_
     refine AWP_ret ?_
     simp only [hres, go_sem]
     first
       | exact finOk_mk (by rfl) (by decide)
       | refine ⟨?_, finOk_mk (by rfl) (by decide)⟩
         first | (have e : kd = 8 := (by assumption); subst e; exact ⟨rfl, rfl⟩) | (have e : kd = 16 := (by assumption); subst e; first | (rw [outV_16t (by assumption)]; exact ⟨rfl, rfl⟩) | (rw [outV_16f (by omega)]; exact ⟨rfl, rfl⟩)) | (exfalso; omega) | exact ⟨outV_nos (by omega), (nextV_none (by omega) (by omega) (by omega) (by omega) (by omega) (by omega) (by omega)).symm⟩
    ·
     intro c2
     try simp only [decide_eq_true_eq, decide_eq_false_iff_not, Bool.not_eq_true', Bool.not_eq_false', ne_eq, Int.not_lt, Int.not_le] at c2
     refine AWP_seq_k fun K11 hK11 => ?_
     refine AWP_region (G := G) (T := T_mHr50) T_mHr50_ok ?_
     simp only [go_sem]
     refine hK11 _ ?_
     refine AWP_cond rfl ?_ ?_
     ·
      intro c3
      try simp only [decide_eq_true_eq, decide_eq_false_iff_not, Bool.not_eq_true', Bool.not_eq_false', ne_eq, Int.not_lt, Int.not_le] at c3
      refine AWP_seq_k fun K12 hK12 => ?_
      refine AWP_draw (G := G) (T := T_mHr50) T_mHr50_ok mixed
        [[], [0], [0, 1], [], [3], [3, 4], [], [6], [6, 7], [3, 4, 5, 6, 7, 8], [3, 4, 5, 6, 7, 8, 9], [3, 4, 5, 6, 7, 8, 9, 10], [0, 1, 2, 3, 4, 5, 6, 7, 8, 9, 10], [0, 1, 2, 3, 4, 5, 6, 7, 8, 9, 10, 11, 12]]
        [[1188], [1188], [1188], [], [], [], [], [], [], [], [], [], [1188], []]
        [[], [], [], [], [], [], [], [], [], [], [], [1188], [], []] (by kernel_rfl) (by kernel_rfl) (adrawR_ok (acc := []) ?_)
      simp (maxSteps := 2000000) only [List.nodup_nil, w32_add3, w32_wrap, List.take_length, List.length_drop, go_sem]
      repeat (with_reducible refine And.intro (by first | exact chk_leaf (by kernel_rfl) | omega | exact ⟨rfl, by omega, by omega, by omega⟩) ?_)
      refine hK12 _ ?_
      refine AWP_ret ?_
      simp only [hres, go_sem]
      first
        | exact finOk_mk (by rfl) (by decide)
        | refine ⟨?_, finOk_mk (by rfl) (by decide)⟩
          first | (have e : kd = 12 := (by assumption); subst e; exact ⟨rfl, rfl⟩) | (have e : kd = 16 := (by assumption); subst e; first | (rw [outV_16t (by assumption)]; exact ⟨rfl, rfl⟩) | (rw [outV_16f (by omega)]; exact ⟨rfl, rfl⟩)) | (exfalso; omega) | exact ⟨outV_nos (by omega), (nextV_none (by omega) (by omega) (by omega) (by omega) (by omega) (by omega) (by omega)).symm⟩
     ·
      intro c3
      try simp only [decide_eq_true_eq, decide_eq_false_iff_not, Bool.not_eq_true', Bool.not_eq_false', ne_eq, Int.not_lt, Int.not_le] at c3
      refine AWP_seq_k fun K13 hK13 => ?_
      refine AWP_region (G := G) (T := T_mHr50) T_mHr50_ok ?_
      simp only [go_sem]
      refine hK13 _ ?_
      refine AWP_cond rfl ?_ ?_
      ·
       intro c4
       try simp only [decide_eq_true_eq, decide_eq_false_iff_not, Bool.not_eq_true', Bool.not_eq_false', ne_eq, Int.not_lt, Int.not_le] at c4
       refine AWP_seq_k fun K14 hK14 => ?_
       refine AWP_draw (G := G) (T := T_mHr50) T_mHr50_ok mixed
         [[], [0], [0, 1], [], [3], [3, 4], [3, 4, 5], [3, 4, 5, 6], [0, 1, 2, 3, 4, 5, 6], [0, 1, 2, 3, 4, 5, 6, 7, 8]]
         [[1348], [1348], [1348], [], [], [], [], [], [1348], []]
         [[], [], [], [], [], [], [], [1348], [], []] (by kernel_rfl) (by kernel_rfl) (adrawR_ok (acc := []) ?_)
       simp (maxSteps := 2000000) only [List.nodup_nil, w32_add3, w32_wrap, List.take_length, List.length_drop, go_sem]
       repeat (with_reducible refine And.intro (by first | exact chk_leaf (by kernel_rfl) | omega | exact ⟨rfl, by omega, by omega, by omega⟩) ?_)
       refine hK14 _ ?_
       refine AWP_ret ?_
       simp only [hres, go_sem]
       first
         | exact finOk_mk (by rfl) (by decide)
         | refine ⟨?_, finOk_mk (by rfl) (by decide)⟩
           first | (have e : kd = 14 := (by assumption); subst e; exact ⟨rfl, rfl⟩) | (have e : kd = 16 := (by assumption); subst e; first | (rw [outV_16t (by assumption)]; exact ⟨rfl, rfl⟩) | (rw [outV_16f (by omega)]; exact ⟨rfl, rfl⟩)) | (exfalso; omega) | exact ⟨outV_nos (by omega), (nextV_none (by omega) (by omega) (by omega) (by omega) (by omega) (by omega) (by omega)).symm⟩
      ·
       intro c4
       try simp only [decide_eq_true_eq, decide_eq_false_iff_not, Bool.not_eq_true', Bool.not_eq_false', ne_eq, Int.not_lt, Int.not_le] at c4
       refine AWP_seq_k fun K15 hK15 => ?_
       refine AWP_region (G := G) (T := T_mHr50) T_mHr50_ok ?_
       simp only [go_sem]
       refine hK15 _ ?_
       refine AWP_cond rfl ?_ ?_
       ·
        intro c5
        try simp only [decide_eq_true_eq, decide_eq_false_iff_not, Bool.not_eq_true', Bool.not_eq_false', ne_eq, Int.not_lt, Int.not_le] at c5
        refine AWP_seq_k fun K16 hK16 => ?_
        refine AWP_region (G := G) (T := T_mHr50) T_mHr50_ok ?_
        simp only [go_sem]
        repeat (with_reducible refine And.intro (by first | omega | exact ⟨rfl, by omega, by omega, by omega⟩) ?_)
        refine hK16 _ ?_
        refine AWP_seq_k fun K17 hK17 => ?_
        refine AWP_seq_k fun K18 hK18 => ?_
        refine AWP_region (G := G) (T := T_mHr50) T_mHr50_ok ?_
        simp only [go_sem]
        repeat (with_reducible refine And.intro (by first | omega | exact ⟨rfl, by omega, by omega, by omega⟩) ?_)
        refine hK18 _ ?_
        refine AWP_cond rfl ?_ ?_
        ·
         intro c6
         try simp only [decide_eq_true_eq, decide_eq_false_iff_not, Bool.not_eq_true', Bool.not_eq_false', ne_eq, Int.not_lt, Int.not_le] at c6
         refine AWP_region (G := G) (T := T_mHr50) T_mHr50_ok ?_
         simp only [go_sem]
         repeat (with_reducible refine And.intro (by first | omega | exact ⟨rfl, by omega, by omega, by omega⟩) ?_)
         refine hK17 _ ?_
         refine AWP_seq_k fun K19 hK19 => ?_
         refine AWP_region (G := G) (T := T_mHr50) T_mHr50_ok ?_
         simp (maxSteps := 2000000) only [List.nodup_nil, w32_add3, w32_wrap, List.take_length, List.length_drop, go_sem]
         repeat (with_reducible refine And.intro (by first | omega | exact ⟨rfl, by omega, by omega, by omega⟩) ?_)
         refine hK19 _ ?_
         refine AWP_ret ?_
         simp only [hres, go_sem]
         first
           | exact finOk_mk (by rfl) (by decide)
           | refine ⟨?_, finOk_mk (by rfl) (by decide)⟩
             first | (have e : kd = 16 := (by assumption); subst e; exact ⟨rfl, rfl⟩) | (have e : kd = 16 := (by assumption); subst e; first | (rw [outV_16t (by assumption)]; exact ⟨rfl, rfl⟩) | (rw [outV_16f (by omega)]; exact ⟨rfl, rfl⟩)) | (exfalso; omega) | exact ⟨outV_nos (by omega), (nextV_none (by omega) (by omega) (by omega) (by omega) (by omega) (by omega) (by omega)).symm⟩
        ·
         intro c6
         try simp only [decide_eq_true_eq, decide_eq_false_iff_not, Bool.not_eq_true', Bool.not_eq_false', ne_eq, Int.not_lt, Int.not_le] at c6
         refine AWP_skip ?_
         simp only [go_sem]
         refine hK17 _ ?_
         refine AWP_seq_k fun K20 hK20 => ?_
         refine AWP_region (G := G) (T := T_mHr50) T_mHr50_ok ?_
         simp (maxSteps := 2000000) only [List.nodup_nil, w32_add3, w32_wrap, List.take_length, List.length_drop, go_sem]
         repeat (with_reducible refine And.intro (by first | omega | exact ⟨rfl, by omega, by omega, by omega⟩) ?_)
         refine hK20 _ ?_
         refine AWP_ret ?_
         simp only [hres, go_sem]
         first
           | exact finOk_mk (by rfl) (by decide)
           | refine ⟨?_, finOk_mk (by rfl) (by decide)⟩
             first | (have e : kd = 16 := (by assumption); subst e; exact ⟨rfl, rfl⟩) | (have e : kd = 16 := (by assumption); subst e; first | (rw [outV_16t (by assumption)]; exact ⟨rfl, rfl⟩) | (rw [outV_16f (by omega)]; exact ⟨rfl, rfl⟩)) | (exfalso; omega) | exact ⟨outV_nos (by omega), (nextV_none (by omega) (by omega) (by omega) (by omega) (by omega) (by omega) (by omega)).symm⟩
       ·
        intro c5
        try simp only [decide_eq_true_eq, decide_eq_false_iff_not, Bool.not_eq_true', Bool.not_eq_false', ne_eq, Int.not_lt, Int.not_le] at c5
        refine AWP_seq_k fun K21 hK21 => ?_
        refine AWP_region (G := G) (T := T_mHr50) T_mHr50_ok ?_
        simp only [go_sem]
        refine hK21 _ ?_
        refine AWP_cond rfl ?_ ?_
        ·
         intro c7
         try simp only [decide_eq_true_eq, decide_eq_false_iff_not, Bool.not_eq_true', Bool.not_eq_false', ne_eq, Int.not_lt, Int.not_le] at c7
         refine AWP_seq_k fun K22 hK22 => ?_
         refine AWP_draw (G := G) (T := T_mHr50) T_mHr50_ok mixed
           [[], [0], [0, 1], [], [3], [], [5], [5, 6], [3, 4, 5, 6, 7], [0, 1, 2, 3, 4, 5, 6, 7, 8], [0, 1, 2, 3, 4, 5, 6, 7, 8, 9], [0, 1, 2, 3, 4, 5, 6, 7, 8, 9, 10]]
           [[], [], [], [], [], [], [], [], [], [], [], []]
           [[], [], [], [], [], [], [], [], [], [], [], []] (by kernel_rfl) (by kernel_rfl) (adrawR_ok (acc := []) ?_)
         simp (maxSteps := 2000000) only [List.nodup_nil, w32_add3, w32_wrap, List.take_length, List.length_drop, go_sem]
         repeat (with_reducible refine And.intro (by first | exact chk_leaf (by kernel_rfl) | omega | exact ⟨rfl, by omega, by omega, by omega⟩) ?_)
         refine hK22 _ ?_
         refine AWP_seq_k fun K23 hK23 => ?_
         refine AWP_region (G := G) (T := T_mHr50) T_mHr50_ok ?_
         simp (maxSteps := 2000000) only [List.nodup_nil, w32_add3, w32_wrap, List.take_length, List.length_drop, go_sem]
         repeat (with_reducible refine And.intro (by first | omega | exact ⟨rfl, by omega, by omega, by omega⟩) ?_)
         refine hK23 _ ?_
         refine AWP_ret ?_
         simp only [hres, go_sem]
         first
           | exact finOk_mk (by rfl) (by decide)
           | refine ⟨?_, finOk_mk (by rfl) (by decide)⟩
             first | (have e : kd = 17 := (by assumption); subst e; exact ⟨rfl, rfl⟩) | (have e : kd = 16 := (by assumption); subst e; first | (rw [outV_16t (by assumption)]; exact ⟨rfl, rfl⟩) | (rw [outV_16f (by omega)]; exact ⟨rfl, rfl⟩)) | (exfalso; omega) | exact ⟨outV_nos (by omega), (nextV_none (by omega) (by omega) (by omega) (by omega) (by omega) (by omega) (by omega)).symm⟩
        ·
         intro c7
         try simp only [decide_eq_true_eq, decide_eq_false_iff_not, Bool.not_eq_true', Bool.not_eq_false', ne_eq, Int.not_lt, Int.not_le] at c7
         refine AWP_skip ?_
         simp only [go_sem]
         refine hK2 _ ?_
         refine AWP_seq_k fun K24 hK24 => ?_
         have hkk : kd = 1 ∨ kd = 2 ∨ kd = 3 ∨ kd = 4 ∨ kd = 5 ∨ kd = 9 ∨ kd = 10 ∨ kd = 11 ∨ kd = 13 ∨ kd = 15 := by omega
         refine AWP_region (G := G) (T := T_mHr50) T_mHr50_ok ?_
         simp (maxSteps := 2000000) only [go_sem]
         repeat (with_reducible refine And.intro (by first | omega | exact ⟨rfl, by omega, by omega, by omega⟩ | exact ⟨⟨ss, hS⟩, hkk⟩ | decide) ?_)
         refine hK24 _ ?_
         refine AWP_ret ?_
         simp only [hres, go_sem]
         first
           | exact finOk_mk (by rfl) (by decide)
           | refine ⟨?_, finOk_mk (by rfl) (by decide)⟩
             first | (have e : kd = 0 := (by assumption); subst e; exact ⟨rfl, rfl⟩) | (have e : kd = 16 := (by assumption); subst e; first | (rw [outV_16t (by assumption)]; exact ⟨rfl, rfl⟩) | (rw [outV_16f (by omega)]; exact ⟨rfl, rfl⟩)) | (exfalso; omega) | exact ⟨outV_nos (by omega), (nextV_none (by omega) (by omega) (by omega) (by omega) (by omega) (by omega) (by omega)).symm⟩

theorem step_fn : FnOk Tryz.prog 78 := fnOk_of Tryz.func78 rfl (by decide)

def T_step : Tab := fun f => if f = 78 then some (.p K_step) else T_mHr50 f
theorem T_step_ok : TabOk Tryz.prog T_step := fun f k h => by
  unfold T_step at h
  split at h
  · rename_i e; cases h; subst e; exact ⟨step_ok, step_fn⟩
  · exact T_mHr50_ok f k h
attribute [go_sem] T_step K_step

end Go.Proofs.YthglggjgjlmhlaaGreat
