/-
  Contracts of functions: l06Out.
-/
import Derived.Test.YthglggjgjlmhlaaGreatHr6
import Derived.Test.YthglggjgjlmhlaaGreatGb1
namespace Go.Proofs.YthglggjgjlmhlaaGreat
open Go.RowKit
set_option linter.unusedSimpArgs false
set_option linter.unusedVariables false

def T_mHr70 : Tab := fun f => match T_l06Look f with
  | some k => some k
  | none => T_l06A f
theorem T_mHr70_ok : TabOk Tryz.prog T_mHr70 := fun f k h => by
  unfold T_mHr70 at h
  split at h
  · rename_i e; cases h; exact T_l06Look_ok f _ e
  · exact T_l06A_ok f k h
attribute [go_sem] T_mHr70 T0


def K_l06Out : Con := ⟨[.ptr (.prod (.int .i64) (.prod (.int .i64) (.prod (.int .i64) (.row 2 (.int .i64))))), .val ((.row 24 (.row 2 (.int .i64)))), .val ((.row 2 (.int .i64))), .val ((.row 2 (.int .i64)))], [⟨.int .i64, true⟩], fun x => stepC x.1 x.2.1 x.2.2.1 x.2.2.2.1, fun x => outV x.1.1 x.1.2.1 x.2.1 x.2.2.1 x.2.2.2.1⟩
set_option maxRecDepth 100000 in
set_option maxHeartbeats 8000000 in
theorem l06Out_ok : PureT Tryz.prog 68 K_l06Out := by
  refine pure_of_body Tryz.func68 rfl ?_
  have hres : Tryz.f68.results.toList = [.tmp 8] := rfl
  rintro ⟨⟨(kd : Int), (a : Int), (bb : Int), (fr : List Int)⟩, (tb : List (List Int)), (ii : List Int), (ss : List Int), _⟩ hc hL
  simp only [K_l06Out, lensOk, PK.lenOk, glensOk, GP.lenOk, flensOk, GO.lenOk, olensOk, Ty.lenOk, Ty.flat, Bool.and_true, Bool.true_and, Bool.and_false, Bool.false_and, true_and, and_true, implies_true, forall_const] at hL
  simp only [K_l06Out, St.init, St.initG, Tryz.ntmps68, go_sem] 
  have hS : stepC (kd, a, bb, fr) tb ii ss := hc
  obtain ⟨h1, h2, h3, h4, h5, h6, h7, h8, h9, h10, h11, h12, h13⟩ := stepC_parts hS
  have hi0 := stepC_smp hS 0
  have hi1 := stepC_smp hS 1
  have hua : 0 ≤ a → IntKind.u64.wrap a = a := fun h => wrapU (by omega)
  refine AWP_seq_k fun K1 hK1 => ?_
  refine AWP_region (G := G) (T := T_mHr70) T_mHr70_ok ?_
  simp only [go_sem]
  repeat (with_reducible refine And.intro (by first | omega | exact ⟨rfl, by omega, by omega, by omega⟩ | exact ⟨by omega, by omega⟩) ?_)
  refine hK1 _ ?_
  refine AWP_seq_k fun K2 hK2 => ?_
  refine AWP_seq_k fun K3 hK3 => ?_
  refine AWP_region (G := G) (T := T_mHr70) T_mHr70_ok ?_
  simp only [go_sem]
  repeat (with_reducible refine And.intro (by first | omega | exact ⟨rfl, by omega, by omega, by omega⟩ | exact ⟨by omega, by omega⟩) ?_)
  refine hK3 _ ?_
  refine AWP_block ?_
  refine AWP_seq_k fun K4 hK4 => ?_
  refine AWP_region (G := G) (T := T_mHr70) T_mHr70_ok ?_
  simp only [go_sem]
  repeat (with_reducible refine And.intro (by first | omega | exact ⟨rfl, by omega, by omega, by omega⟩ | exact ⟨by omega, by omega⟩) ?_)
  refine hK4 _ ?_
  refine AWP_cond rfl ?_ ?_
  ·
   intro c0
   try simp only [decide_eq_true_eq, decide_eq_false_iff_not, Bool.not_eq_true', Bool.not_eq_false', ne_eq, Int.not_lt, Int.not_le] at c0
   refine AWP_seq_k fun K5 hK5 => ?_
   refine AWP_region (G := G) (T := T_mHr70) T_mHr70_ok ?_
   simp only [go_sem]
   repeat (with_reducible refine And.intro (by first | omega | exact ⟨rfl, by omega, by omega, by omega⟩ | exact ⟨by omega, by omega⟩) ?_)
   refine hK5 _ ?_
   refine AWP_ret ?_
   simp only [hres, go_sem]
   first
     | exact finOk_mk (by rfl) (by decide)
     | refine ⟨?_, finOk_mk (by rfl) (by decide)⟩
       first | (have e : kd = 1 := (by assumption); subst e; rfl) | (have e : kd = 10 := (by assumption); subst e; rw [hua (by omega)]; rfl) | (have e : kd = 16 := (by assumption); subst e; first | exact (outV_16t (by assumption)).symm | exact (outV_16f (by omega)).symm) | (have e : kd = 15 := (by assumption); subst e; first | exact (outV_15t (by assumption)).symm | exact (outV_15f (by omega)).symm) | (have e : kd = 11 := (by assumption); subst e; exact clip_eq2 (by omega)) | (exfalso; omega) | (have e : kd = 17 := (by omega); subst e; exact wAM _ _ _) | fail
  ·
   intro c0
   try simp only [decide_eq_true_eq, decide_eq_false_iff_not, Bool.not_eq_true', Bool.not_eq_false', ne_eq, Int.not_lt, Int.not_le] at c0
   refine AWP_seq_k fun K6 hK6 => ?_
   refine AWP_region (G := G) (T := T_mHr70) T_mHr70_ok ?_
   simp only [go_sem]
   repeat (with_reducible refine And.intro (by first | omega | exact ⟨rfl, by omega, by omega, by omega⟩ | exact ⟨by omega, by omega⟩) ?_)
   refine hK6 _ ?_
   refine AWP_cond rfl ?_ ?_
   ·
    intro c1
    try simp only [decide_eq_true_eq, decide_eq_false_iff_not, Bool.not_eq_true', Bool.not_eq_false', ne_eq, Int.not_lt, Int.not_le] at c1
    refine AWP_seq_k fun K7 hK7 => ?_
    refine AWP_region (G := G) (T := T_mHr70) T_mHr70_ok ?_
    simp (maxSteps := 2000000) only [go_sem]
    repeat (with_reducible refine And.intro (by first | omega | exact ⟨rfl, by omega, by omega, by omega⟩ | exact ⟨by omega, by omega⟩) ?_)
    refine hK7 _ ?_
    refine AWP_ret ?_
    simp only [hres, go_sem]
    first
      | exact finOk_mk (by rfl) (by decide)
      | refine ⟨?_, finOk_mk (by rfl) (by decide)⟩
        first | (have e : kd = 2 := (by assumption); subst e; rfl) | (have e : kd = 10 := (by assumption); subst e; rw [hua (by omega)]; rfl) | (have e : kd = 16 := (by assumption); subst e; first | exact (outV_16t (by assumption)).symm | exact (outV_16f (by omega)).symm) | (have e : kd = 15 := (by assumption); subst e; first | exact (outV_15t (by assumption)).symm | exact (outV_15f (by omega)).symm) | (have e : kd = 11 := (by assumption); subst e; exact clip_eq2 (by omega)) | (exfalso; omega) | (have e : kd = 17 := (by omega); subst e; exact wAM _ _ _) | fail
   ·
    intro c1
    try simp only [decide_eq_true_eq, decide_eq_false_iff_not, Bool.not_eq_true', Bool.not_eq_false', ne_eq, Int.not_lt, Int.not_le] at c1
    refine AWP_seq_k fun K8 hK8 => ?_
    refine AWP_region (G := G) (T := T_mHr70) T_mHr70_ok ?_
    simp only [go_sem]
    repeat (with_reducible refine And.intro (by first | omega | exact ⟨rfl, by omega, by omega, by omega⟩ | exact ⟨by omega, by omega⟩) ?_)
    refine hK8 _ ?_
    refine AWP_cond rfl ?_ ?_
    ·
     intro c2
     try simp only [decide_eq_true_eq, decide_eq_false_iff_not, Bool.not_eq_true', Bool.not_eq_false', ne_eq, Int.not_lt, Int.not_le] at c2
     refine AWP_seq_k fun K9 hK9 => ?_
     refine AWP_draw (G := G) (T := T_mHr70) T_mHr70_ok mixed
       [[], [0], [0, 1], [], [3], [3, 4], [0, 1, 2, 3, 4, 5], [0, 1, 2, 3, 4, 5, 6]]
       [[], [], [], [], [], [], [], []]
       [[], [], [], [], [], [], [], []] (by kernel_rfl) (by kernel_rfl) (adrawR_ok (acc := []) ?_)
     simp (maxSteps := 2000000) only [go_sem]
     repeat (with_reducible refine And.intro (by first | exact chk_leaf (by kernel_rfl) | omega | exact ⟨rfl, by omega, by omega, by omega⟩ | exact ⟨by omega, by omega⟩) ?_)
     refine hK9 _ ?_
     refine AWP_ret ?_
     simp only [hres, go_sem]
     first
       | exact finOk_mk (by rfl) (by decide)
       | refine ⟨?_, finOk_mk (by rfl) (by decide)⟩
         first | (have e : kd = 3 := (by assumption); subst e; rfl) | (have e : kd = 10 := (by assumption); subst e; rw [hua (by omega)]; rfl) | (have e : kd = 16 := (by assumption); subst e; first | exact (outV_16t (by assumption)).symm | exact (outV_16f (by omega)).symm) | (have e : kd = 15 := (by assumption); subst e; first | exact (outV_15t (by assumption)).symm | exact (outV_15f (by omega)).symm) | (have e : kd = 11 := (by assumption); subst e; exact clip_eq2 (by omega)) | (exfalso; omega) | (have e : kd = 17 := (by omega); subst e; exact wAM _ _ _) | fail
    ·
     intro c2
     try simp only [decide_eq_true_eq, decide_eq_false_iff_not, Bool.not_eq_true', Bool.not_eq_false', ne_eq, Int.not_lt, Int.not_le] at c2
     refine AWP_seq_k fun K10 hK10 => ?_
     refine AWP_region (G := G) (T := T_mHr70) T_mHr70_ok ?_
     simp only [go_sem]
     repeat (with_reducible refine And.intro (by first | omega | exact ⟨rfl, by omega, by omega, by omega⟩ | exact ⟨by omega, by omega⟩) ?_)
     refine hK10 _ ?_
     refine AWP_cond rfl ?_ ?_
     ·
      intro c3
      try simp only [decide_eq_true_eq, decide_eq_false_iff_not, Bool.not_eq_true', Bool.not_eq_false', ne_eq, Int.not_lt, Int.not_le] at c3
      refine AWP_seq_k fun K11 hK11 => ?_
      refine AWP_draw (G := G) (T := T_mHr70) T_mHr70_ok mixed
        [[], [0], [0, 1], [], [3], [3, 4], [0, 1, 2, 3, 4, 5], [0, 1, 2, 3, 4, 5, 6]]
        [[], [], [], [], [], [], [], []]
        [[], [], [], [], [], [], [], []] (by kernel_rfl) (by kernel_rfl) (adrawR_ok (acc := []) ?_)
      simp (maxSteps := 2000000) only [go_sem]
      repeat (with_reducible refine And.intro (by first | exact chk_leaf (by kernel_rfl) | omega | exact ⟨rfl, by omega, by omega, by omega⟩ | exact ⟨by omega, by omega⟩) ?_)
      refine hK11 _ ?_
      refine AWP_ret ?_
      simp only [hres, go_sem]
      first
        | exact finOk_mk (by rfl) (by decide)
        | refine ⟨?_, finOk_mk (by rfl) (by decide)⟩
          first | (have e : kd = 4 := (by assumption); subst e; rfl) | (have e : kd = 10 := (by assumption); subst e; rw [hua (by omega)]; rfl) | (have e : kd = 16 := (by assumption); subst e; first | exact (outV_16t (by assumption)).symm | exact (outV_16f (by omega)).symm) | (have e : kd = 15 := (by assumption); subst e; first | exact (outV_15t (by assumption)).symm | exact (outV_15f (by omega)).symm) | (have e : kd = 11 := (by assumption); subst e; exact clip_eq2 (by omega)) | (exfalso; omega) | (have e : kd = 17 := (by omega); subst e; exact wAM _ _ _) | fail
     ·
      intro c3
      try simp only [decide_eq_true_eq, decide_eq_false_iff_not, Bool.not_eq_true', Bool.not_eq_false', ne_eq, Int.not_lt, Int.not_le] at c3
      refine AWP_seq_k fun K12 hK12 => ?_
      refine AWP_region (G := G) (T := T_mHr70) T_mHr70_ok ?_
      simp only [go_sem]
      repeat (with_reducible refine And.intro (by first | omega | exact ⟨rfl, by omega, by omega, by omega⟩ | exact ⟨by omega, by omega⟩) ?_)
      refine hK12 _ ?_
      refine AWP_cond rfl ?_ ?_
      ·
       intro c4
       try simp only [decide_eq_true_eq, decide_eq_false_iff_not, Bool.not_eq_true', Bool.not_eq_false', ne_eq, Int.not_lt, Int.not_le] at c4
       refine AWP_seq_k fun K13 hK13 => ?_
       refine AWP_draw (G := G) (T := T_mHr70) T_mHr70_ok mixed
         [[], [0], [0, 1], [0, 1, 2], [], [4], [4, 5], [0, 1, 2, 3, 4, 5, 6], [0, 1, 2, 3, 4, 5, 6, 7]]
         [[], [], [], [], [], [], [], [], []]
         [[], [], [], [], [], [], [], [], []] (by kernel_rfl) (by kernel_rfl) (adrawR_ok (acc := []) ?_)
       simp (maxSteps := 2000000) only [go_sem]
       repeat (with_reducible refine And.intro (by first | exact chk_leaf (by kernel_rfl) | omega | exact ⟨rfl, by omega, by omega, by omega⟩ | exact ⟨by omega, by omega⟩) ?_)
       refine hK13 _ ?_
       refine AWP_ret ?_
       simp only [hres, go_sem]
       first
         | exact finOk_mk (by rfl) (by decide)
         | refine ⟨?_, finOk_mk (by rfl) (by decide)⟩
           first | (have e : kd = 5 := (by assumption); subst e; rfl) | (have e : kd = 10 := (by assumption); subst e; rw [hua (by omega)]; rfl) | (have e : kd = 16 := (by assumption); subst e; first | exact (outV_16t (by assumption)).symm | exact (outV_16f (by omega)).symm) | (have e : kd = 15 := (by assumption); subst e; first | exact (outV_15t (by assumption)).symm | exact (outV_15f (by omega)).symm) | (have e : kd = 11 := (by assumption); subst e; exact clip_eq2 (by omega)) | (exfalso; omega) | (have e : kd = 17 := (by omega); subst e; exact wAM _ _ _) | fail
      ·
       intro c4
       try simp only [decide_eq_true_eq, decide_eq_false_iff_not, Bool.not_eq_true', Bool.not_eq_false', ne_eq, Int.not_lt, Int.not_le] at c4
       refine AWP_seq_k fun K14 hK14 => ?_
       refine AWP_seq_k fun K15 hK15 => ?_
       refine AWP_region (G := G) (T := T_mHr70) T_mHr70_ok ?_
       simp only [go_sem]
       repeat (with_reducible refine And.intro (by first | omega | exact ⟨rfl, by omega, by omega, by omega⟩ | exact ⟨by omega, by omega⟩) ?_)
       refine hK15 _ ?_
       refine AWP_cond rfl ?_ ?_
       ·
        intro c5
        try simp only [decide_eq_true_eq, decide_eq_false_iff_not, Bool.not_eq_true', Bool.not_eq_false', ne_eq, Int.not_lt, Int.not_le] at c5
        refine AWP_skip ?_
        simp only [go_sem]
        refine hK14 _ ?_
        refine AWP_cond rfl ?_ ?_
        ·
         intro c7
         try simp only [decide_eq_true_eq, decide_eq_false_iff_not, Bool.not_eq_true', Bool.not_eq_false', ne_eq, Int.not_lt, Int.not_le] at c7
         refine AWP_seq_k fun K16 hK16 => ?_
         refine AWP_region (G := G) (T := T_mHr70) T_mHr70_ok ?_
         simp only [go_sem]
         repeat (with_reducible refine And.intro (by first | omega | exact ⟨rfl, by omega, by omega, by omega⟩ | exact ⟨by omega, by omega⟩) ?_)
         refine hK16 _ ?_
         refine AWP_ret ?_
         simp only [hres, go_sem]
         first
           | exact finOk_mk (by rfl) (by decide)
           | refine ⟨?_, finOk_mk (by rfl) (by decide)⟩
             first | (have e : kd = 6 := (by assumption); subst e; rfl) | (have e : kd = 10 := (by assumption); subst e; rw [hua (by omega)]; rfl) | (have e : kd = 16 := (by assumption); subst e; first | exact (outV_16t (by assumption)).symm | exact (outV_16f (by omega)).symm) | (have e : kd = 15 := (by assumption); subst e; first | exact (outV_15t (by assumption)).symm | exact (outV_15f (by omega)).symm) | (have e : kd = 11 := (by assumption); subst e; exact clip_eq2 (by omega)) | (exfalso; omega) | (have e : kd = 17 := (by omega); subst e; exact wAM _ _ _) | fail
        ·
         intro c7
         try simp only [decide_eq_true_eq, decide_eq_false_iff_not, Bool.not_eq_true', Bool.not_eq_false', ne_eq, Int.not_lt, Int.not_le] at c7
         refine AWP_seq_k fun K17 hK17 => ?_
         refine AWP_region (G := G) (T := T_mHr70) T_mHr70_ok ?_
         simp only [go_sem]
         repeat (with_reducible refine And.intro (by first | omega | exact ⟨rfl, by omega, by omega, by omega⟩ | exact ⟨by omega, by omega⟩) ?_)
         refine hK17 _ ?_
         refine AWP_cond rfl ?_ ?_
         ·
          intro c8
          try simp only [decide_eq_true_eq, decide_eq_false_iff_not, Bool.not_eq_true', Bool.not_eq_false', ne_eq, Int.not_lt, Int.not_le] at c8
          refine AWP_seq_k fun K18 hK18 => ?_
          refine AWP_draw (G := G) (T := T_mHr70) T_mHr70_ok mixed
            [[], [0], [0, 1], [], [3], [3, 4], [0, 1, 2, 3, 4, 5], [0, 1, 2, 3, 4, 5, 6]]
            [[], [], [], [], [], [], [], []]
            [[], [], [], [], [], [], [], []] (by kernel_rfl) (by kernel_rfl) (adrawR_ok (acc := []) ?_)
          simp (maxSteps := 2000000) only [go_sem]
          repeat (with_reducible refine And.intro (by first | exact chk_leaf (by kernel_rfl) | omega | exact ⟨rfl, by omega, by omega, by omega⟩ | exact ⟨by omega, by omega⟩) ?_)
          refine hK18 _ ?_
          refine AWP_ret ?_
          simp only [hres, go_sem]
          first
            | exact finOk_mk (by rfl) (by decide)
            | refine ⟨?_, finOk_mk (by rfl) (by decide)⟩
              first | (have e : kd = 7 := (by assumption); subst e; rfl) | (have e : kd = 10 := (by assumption); subst e; rw [hua (by omega)]; rfl) | (have e : kd = 16 := (by assumption); subst e; first | exact (outV_16t (by assumption)).symm | exact (outV_16f (by omega)).symm) | (have e : kd = 15 := (by assumption); subst e; first | exact (outV_15t (by assumption)).symm | exact (outV_15f (by omega)).symm) | (have e : kd = 11 := (by assumption); subst e; exact clip_eq2 (by omega)) | (exfalso; omega) | (have e : kd = 17 := (by omega); subst e; exact wAM _ _ _) | fail
         ·
          intro c8
          try simp only [decide_eq_true_eq, decide_eq_false_iff_not, Bool.not_eq_true', Bool.not_eq_false', ne_eq, Int.not_lt, Int.not_le] at c8
          refine AWP_seq_k fun K19 hK19 => ?_
          refine AWP_region (G := G) (T := T_mHr70) T_mHr70_ok ?_
          simp only [go_sem]
          repeat (with_reducible refine And.intro (by first | omega | exact ⟨rfl, by omega, by omega, by omega⟩ | exact ⟨by omega, by omega⟩) ?_)
          refine hK19 _ ?_
          refine AWP_cond rfl ?_ ?_
          ·
           intro c9
           try simp only [decide_eq_true_eq, decide_eq_false_iff_not, Bool.not_eq_true', Bool.not_eq_false', ne_eq, Int.not_lt, Int.not_le] at c9
           refine AWP_seq_k fun K20 hK20 => ?_
           refine AWP_draw (G := G) (T := T_mHr70) T_mHr70_ok mixed
             [[], [0], [0, 1], [], [3], [3, 4], [0, 1, 2, 3, 4, 5], [0, 1, 2, 3, 4, 5, 6]]
             [[], [], [], [], [], [], [], []]
             [[], [], [], [], [], [], [], []] (by kernel_rfl) (by kernel_rfl) (adrawR_ok (acc := []) ?_)
           simp (maxSteps := 2000000) only [go_sem]
           repeat (with_reducible refine And.intro (by first | exact chk_leaf (by kernel_rfl) | omega | exact ⟨rfl, by omega, by omega, by omega⟩ | exact ⟨by omega, by omega⟩) ?_)
           refine hK20 _ ?_
           refine AWP_ret ?_
           simp only [hres, go_sem]
           first
             | exact finOk_mk (by rfl) (by decide)
             | refine ⟨?_, finOk_mk (by rfl) (by decide)⟩
               first | (have e : kd = 8 := (by assumption); subst e; rfl) | (have e : kd = 10 := (by assumption); subst e; rw [hua (by omega)]; rfl) | (have e : kd = 16 := (by assumption); subst e; first | exact (outV_16t (by assumption)).symm | exact (outV_16f (by omega)).symm) | (have e : kd = 15 := (by assumption); subst e; first | exact (outV_15t (by assumption)).symm | exact (outV_15f (by omega)).symm) | (have e : kd = 11 := (by assumption); subst e; exact clip_eq2 (by omega)) | (exfalso; omega) | (have e : kd = 17 := (by omega); subst e; exact wAM _ _ _) | fail
          ·
           intro c9
           try simp only [decide_eq_true_eq, decide_eq_false_iff_not, Bool.not_eq_true', Bool.not_eq_false', ne_eq, Int.not_lt, Int.not_le] at c9
           refine AWP_seq_k fun K21 hK21 => ?_
           refine AWP_region (G := G) (T := T_mHr70) T_mHr70_ok ?_
           simp only [go_sem]
           repeat (with_reducible refine And.intro (by first | omega | exact ⟨rfl, by omega, by omega, by omega⟩ | exact ⟨by omega, by omega⟩) ?_)
           refine hK21 _ ?_
           refine AWP_cond rfl ?_ ?_
           ·
            intro c10
            try simp only [decide_eq_true_eq, decide_eq_false_iff_not, Bool.not_eq_true', Bool.not_eq_false', ne_eq, Int.not_lt, Int.not_le] at c10
            refine AWP_seq_k fun K22 hK22 => ?_
            refine AWP_draw (G := G) (T := T_mHr70) T_mHr70_ok mixed
              [[], [0], [0, 1], [], [3], [3, 4], [0, 1, 2, 3, 4, 5], [0, 1, 2, 3, 4, 5, 6]]
              [[], [], [], [], [], [], [], []]
              [[], [], [], [], [], [], [], []] (by kernel_rfl) (by kernel_rfl) (adrawR_ok (acc := []) ?_)
            simp (maxSteps := 2000000) only [go_sem]
            repeat (with_reducible refine And.intro (by first | exact chk_leaf (by kernel_rfl) | omega | exact ⟨rfl, by omega, by omega, by omega⟩ | exact ⟨by omega, by omega⟩) ?_)
            refine hK22 _ ?_
            refine AWP_ret ?_
            simp only [hres, go_sem]
            first
              | exact finOk_mk (by rfl) (by decide)
              | refine ⟨?_, finOk_mk (by rfl) (by decide)⟩
                first | (have e : kd = 9 := (by assumption); subst e; rfl) | (have e : kd = 10 := (by assumption); subst e; rw [hua (by omega)]; rfl) | (have e : kd = 16 := (by assumption); subst e; first | exact (outV_16t (by assumption)).symm | exact (outV_16f (by omega)).symm) | (have e : kd = 15 := (by assumption); subst e; first | exact (outV_15t (by assumption)).symm | exact (outV_15f (by omega)).symm) | (have e : kd = 11 := (by assumption); subst e; exact clip_eq2 (by omega)) | (exfalso; omega) | (have e : kd = 17 := (by omega); subst e; exact wAM _ _ _) | fail
           ·
            intro c10
            try simp only [decide_eq_true_eq, decide_eq_false_iff_not, Bool.not_eq_true', Bool.not_eq_false', ne_eq, Int.not_lt, Int.not_le] at c10
            refine AWP_seq_k fun K23 hK23 => ?_
            refine AWP_region (G := G) (T := T_mHr70) T_mHr70_ok ?_
            simp only [go_sem]
            repeat (with_reducible refine And.intro (by first | omega | exact ⟨rfl, by omega, by omega, by omega⟩ | exact ⟨by omega, by omega⟩) ?_)
            refine hK23 _ ?_
            refine AWP_cond rfl ?_ ?_
            ·
             intro c11
             try simp only [decide_eq_true_eq, decide_eq_false_iff_not, Bool.not_eq_true', Bool.not_eq_false', ne_eq, Int.not_lt, Int.not_le] at c11
             refine AWP_seq_k fun K24 hK24 => ?_
             refine AWP_draw (G := G) (T := T_mHr70) T_mHr70_ok mixed
               [[], [0], [0, 1], [], [3], [3, 4], [3, 4, 5], [3, 4, 5, 6], [0, 1, 2, 3, 4, 5, 6, 7], [0, 1, 2, 3, 4, 5, 6, 7, 8]]
               [[], [], [], [], [], [], [], [], [], []]
               [[], [], [], [], [], [], [], [], [], []] (by kernel_rfl) (by kernel_rfl) (adrawR_ok (acc := []) ?_)
             simp (maxSteps := 2000000) only [go_sem]
             repeat (with_reducible refine And.intro (by first | exact chk_leaf (by kernel_rfl) | omega | exact ⟨rfl, by omega, by omega, by omega⟩ | exact ⟨by omega, by omega⟩) ?_)
             refine hK24 _ ?_
             refine AWP_ret ?_
             simp only [hres, go_sem]
             first
               | exact finOk_mk (by rfl) (by decide)
               | refine ⟨?_, finOk_mk (by rfl) (by decide)⟩
                 first | (have e : kd = 10 := (by assumption); subst e; rfl) | (have e : kd = 10 := (by assumption); subst e; rw [hua (by omega)]; rfl) | (have e : kd = 16 := (by assumption); subst e; first | exact (outV_16t (by assumption)).symm | exact (outV_16f (by omega)).symm) | (have e : kd = 15 := (by assumption); subst e; first | exact (outV_15t (by assumption)).symm | exact (outV_15f (by omega)).symm) | (have e : kd = 11 := (by assumption); subst e; exact clip_eq2 (by omega)) | (exfalso; omega) | (have e : kd = 17 := (by omega); subst e; exact wAM _ _ _) | fail
            ·
             intro c11
             try simp only [decide_eq_true_eq, decide_eq_false_iff_not, Bool.not_eq_true', Bool.not_eq_false', ne_eq, Int.not_lt, Int.not_le] at c11
             refine AWP_seq_k fun K25 hK25 => ?_
             refine AWP_region (G := G) (T := T_mHr70) T_mHr70_ok ?_
             simp only [go_sem]
             repeat (with_reducible refine And.intro (by first | omega | exact ⟨rfl, by omega, by omega, by omega⟩ | exact ⟨by omega, by omega⟩) ?_)
             refine hK25 _ ?_
             refine AWP_cond rfl ?_ ?_
             ·
              intro c12
              try simp only [decide_eq_true_eq, decide_eq_false_iff_not, Bool.not_eq_true', Bool.not_eq_false', ne_eq, Int.not_lt, Int.not_le] at c12
              refine AWP_seq_k fun K26 hK26 => ?_
              refine AWP_draw (G := G) (T := T_mHr70) T_mHr70_ok mixed
                [[], [0], [0, 1], [0, 1, 2], [0, 1, 2, 3], [], [5], [5, 6], [], [8], [8, 9], [8, 9, 10], [5, 6, 7, 8, 9, 10, 11], [0, 1, 2, 3, 4, 5, 6, 7, 8, 9, 10, 11, 12], [0, 1, 2, 3, 4, 5, 6, 7, 8, 9, 10, 11, 12, 13]]
                [[], [], [], [], [], [], [], [], [], [], [], [], [], [], []]
                [[], [], [], [], [], [], [], [], [], [], [], [], [], [], []] (by kernel_rfl) (by kernel_rfl) (adrawR_ok (acc := []) ?_)
              simp (maxSteps := 2000000) only [go_sem]
              repeat (with_reducible refine And.intro (by first | exact chk_leaf (by kernel_rfl) | omega | exact ⟨rfl, by omega, by omega, by omega⟩ | exact ⟨by omega, by omega⟩) ?_)
              refine hK26 _ ?_
              refine AWP_ret ?_
              simp only [hres, go_sem]
              first
                | exact finOk_mk (by rfl) (by decide)
                | refine ⟨?_, finOk_mk (by rfl) (by decide)⟩
                  first | (have e : kd = 11 := (by assumption); subst e; rfl) | (have e : kd = 10 := (by assumption); subst e; rw [hua (by omega)]; rfl) | (have e : kd = 16 := (by assumption); subst e; first | exact (outV_16t (by assumption)).symm | exact (outV_16f (by omega)).symm) | (have e : kd = 15 := (by assumption); subst e; first | exact (outV_15t (by assumption)).symm | exact (outV_15f (by omega)).symm) | (have e : kd = 11 := (by assumption); subst e; exact clip_eq2 (by omega)) | (exfalso; omega) | (have e : kd = 17 := (by omega); subst e; exact wAM _ _ _) | fail
             ·
              intro c12
              try simp only [decide_eq_true_eq, decide_eq_false_iff_not, Bool.not_eq_true', Bool.not_eq_false', ne_eq, Int.not_lt, Int.not_le] at c12
              refine AWP_seq_k fun K27 hK27 => ?_
              refine AWP_region (G := G) (T := T_mHr70) T_mHr70_ok ?_
              simp only [go_sem]
              repeat (with_reducible refine And.intro (by first | omega | exact ⟨rfl, by omega, by omega, by omega⟩ | exact ⟨by omega, by omega⟩) ?_)
              refine hK27 _ ?_
              refine AWP_cond rfl ?_ ?_
              ·
               intro c13
               try simp only [decide_eq_true_eq, decide_eq_false_iff_not, Bool.not_eq_true', Bool.not_eq_false', ne_eq, Int.not_lt, Int.not_le] at c13
               refine AWP_seq_k fun K28 hK28 => ?_
               refine AWP_draw (G := G) (T := T_mHr70) T_mHr70_ok mixed
                 [[], [], [1], [1, 2], [1, 2, 3], [0, 1, 2, 3, 4], [0, 1, 2, 3, 4, 5], [], [7], [7, 8], [0, 1, 2, 3, 4, 5, 6, 7, 8, 9], [0, 1, 2, 3, 4, 5, 6, 7, 8, 9, 10]]
                 [[], [], [], [], [], [], [], [], [], [], [], []]
                 [[], [], [], [], [], [], [], [], [], [], [], []] (by kernel_rfl) (by kernel_rfl) (adrawR_ok (acc := []) ?_)
               simp (maxSteps := 2000000) only [go_sem]
               repeat (with_reducible refine And.intro (by first | exact chk_leaf (by kernel_rfl) | omega | exact ⟨rfl, by omega, by omega, by omega⟩ | exact ⟨by omega, by omega⟩) ?_)
               refine hK28 _ ?_
               refine AWP_ret ?_
               simp only [hres, go_sem]
               first
                 | exact finOk_mk (by rfl) (by decide)
                 | refine ⟨?_, finOk_mk (by rfl) (by decide)⟩
                   first | (have e : kd = 13 := (by assumption); subst e; rfl) | (have e : kd = 10 := (by assumption); subst e; rw [hua (by omega)]; rfl) | (have e : kd = 16 := (by assumption); subst e; first | exact (outV_16t (by assumption)).symm | exact (outV_16f (by omega)).symm) | (have e : kd = 15 := (by assumption); subst e; first | exact (outV_15t (by assumption)).symm | exact (outV_15f (by omega)).symm) | (have e : kd = 11 := (by assumption); subst e; exact clip_eq2 (by omega)) | (exfalso; omega) | (have e : kd = 17 := (by omega); subst e; exact wAM _ _ _) | fail
              ·
               intro c13
               try simp only [decide_eq_true_eq, decide_eq_false_iff_not, Bool.not_eq_true', Bool.not_eq_false', ne_eq, Int.not_lt, Int.not_le] at c13
               refine AWP_seq_k fun K29 hK29 => ?_
               refine AWP_region (G := G) (T := T_mHr70) T_mHr70_ok ?_
               simp only [go_sem]
               repeat (with_reducible refine And.intro (by first | omega | exact ⟨rfl, by omega, by omega, by omega⟩ | exact ⟨by omega, by omega⟩) ?_)
               refine hK29 _ ?_
               refine AWP_cond rfl ?_ ?_
               ·
                intro c14
                try simp only [decide_eq_true_eq, decide_eq_false_iff_not, Bool.not_eq_true', Bool.not_eq_false', ne_eq, Int.not_lt, Int.not_le] at c14
                refine AWP_seq_k fun K30 hK30 => ?_
                refine AWP_seq_k fun K31 hK31 => ?_
                refine AWP_region (G := G) (T := T_mHr70) T_mHr70_ok ?_
                simp only [go_sem]
                repeat (with_reducible refine And.intro (by first | omega | exact ⟨rfl, by omega, by omega, by omega⟩ | exact ⟨by omega, by omega⟩) ?_)
                refine hK31 _ ?_
                refine AWP_cond rfl ?_ ?_
                ·
                 intro c15
                 try simp only [decide_eq_true_eq, decide_eq_false_iff_not, Bool.not_eq_true', Bool.not_eq_false', ne_eq, Int.not_lt, Int.not_le] at c15
                 refine AWP_seq_k fun K32 hK32 => ?_
                 refine AWP_region (G := G) (T := T_mHr70) T_mHr70_ok ?_
                 simp only [go_sem]
                 repeat (with_reducible refine And.intro (by first | omega | exact ⟨rfl, by omega, by omega, by omega⟩ | exact ⟨by omega, by omega⟩) ?_)
                 refine hK32 _ ?_
                 refine AWP_ret ?_
                 simp only [hres, go_sem]
                 first
                   | exact finOk_mk (by rfl) (by decide)
                   | refine ⟨?_, finOk_mk (by rfl) (by decide)⟩
                     first | (have e : kd = 15 := (by assumption); subst e; rfl) | (have e : kd = 10 := (by assumption); subst e; rw [hua (by omega)]; rfl) | (have e : kd = 16 := (by assumption); subst e; first | exact (outV_16t (by assumption)).symm | exact (outV_16f (by omega)).symm) | (have e : kd = 15 := (by assumption); subst e; first | exact (outV_15t (by assumption)).symm | exact (outV_15f (by omega)).symm) | (have e : kd = 11 := (by assumption); subst e; exact clip_eq2 (by omega)) | (exfalso; omega) | (have e : kd = 17 := (by omega); subst e; exact wAM _ _ _) | fail
                ·
                 intro c15
                 try simp only [decide_eq_true_eq, decide_eq_false_iff_not, Bool.not_eq_true', Bool.not_eq_false', ne_eq, Int.not_lt, Int.not_le] at c15
                 refine AWP_skip ?_
                 simp only [go_sem]
                 refine hK30 _ ?_
                 refine AWP_seq_k fun K33 hK33 => ?_
                 refine AWP_region (G := G) (T := T_mHr70) T_mHr70_ok ?_
                 simp only [go_sem]
                 repeat (with_reducible refine And.intro (by first | omega | exact ⟨rfl, by omega, by omega, by omega⟩ | exact ⟨by omega, by omega⟩) ?_)
                 refine hK33 _ ?_
                 refine AWP_ret ?_
                 simp only [hres, go_sem]
                 first
                   | exact finOk_mk (by rfl) (by decide)
                   | refine ⟨?_, finOk_mk (by rfl) (by decide)⟩
                     first | (have e : kd = 15 := (by assumption); subst e; rfl) | (have e : kd = 10 := (by assumption); subst e; rw [hua (by omega)]; rfl) | (have e : kd = 16 := (by assumption); subst e; first | exact (outV_16t (by assumption)).symm | exact (outV_16f (by omega)).symm) | (have e : kd = 15 := (by assumption); subst e; first | exact (outV_15t (by assumption)).symm | exact (outV_15f (by omega)).symm) | (have e : kd = 11 := (by assumption); subst e; exact clip_eq2 (by omega)) | (exfalso; omega) | (have e : kd = 17 := (by omega); subst e; exact wAM _ _ _) | fail
               ·
                intro c14
                try simp only [decide_eq_true_eq, decide_eq_false_iff_not, Bool.not_eq_true', Bool.not_eq_false', ne_eq, Int.not_lt, Int.not_le] at c14
                refine AWP_seq_k fun K34 hK34 => ?_
                refine AWP_region (G := G) (T := T_mHr70) T_mHr70_ok ?_
                simp only [go_sem]
                repeat (with_reducible refine And.intro (by first | omega | exact ⟨rfl, by omega, by omega, by omega⟩ | exact ⟨by omega, by omega⟩) ?_)
                refine hK34 _ ?_
                refine AWP_cond rfl ?_ ?_
                ·
                 intro c16
                 try simp only [decide_eq_true_eq, decide_eq_false_iff_not, Bool.not_eq_true', Bool.not_eq_false', ne_eq, Int.not_lt, Int.not_le] at c16
                 refine AWP_seq_k fun K35 hK35 => ?_
                 refine AWP_seq_k fun K36 hK36 => ?_
                 refine AWP_region (G := G) (T := T_mHr70) T_mHr70_ok ?_
                 simp only [go_sem]
                 repeat (with_reducible refine And.intro (by first | omega | exact ⟨rfl, by omega, by omega, by omega⟩ | exact ⟨by omega, by omega⟩) ?_)
                 refine hK36 _ ?_
                 refine AWP_cond rfl ?_ ?_
                 ·
                  intro c17
                  try simp only [decide_eq_true_eq, decide_eq_false_iff_not, Bool.not_eq_true', Bool.not_eq_false', ne_eq, Int.not_lt, Int.not_le] at c17
                  refine AWP_seq_k fun K37 hK37 => ?_
                  refine AWP_region (G := G) (T := T_mHr70) T_mHr70_ok ?_
                  simp only [go_sem]
                  repeat (with_reducible refine And.intro (by first | omega | exact ⟨rfl, by omega, by omega, by omega⟩ | exact ⟨by omega, by omega⟩) ?_)
                  refine hK37 _ ?_
                  refine AWP_ret ?_
                  simp only [hres, go_sem]
                  first
                    | exact finOk_mk (by rfl) (by decide)
                    | refine ⟨?_, finOk_mk (by rfl) (by decide)⟩
                      first | (have e : kd = 16 := (by assumption); subst e; rfl) | (have e : kd = 10 := (by assumption); subst e; rw [hua (by omega)]; rfl) | (have e : kd = 16 := (by assumption); subst e; first | exact (outV_16t (by assumption)).symm | exact (outV_16f (by omega)).symm) | (have e : kd = 15 := (by assumption); subst e; first | exact (outV_15t (by assumption)).symm | exact (outV_15f (by omega)).symm) | (have e : kd = 11 := (by assumption); subst e; exact clip_eq2 (by omega)) | (exfalso; omega) | (have e : kd = 17 := (by omega); subst e; exact wAM _ _ _) | fail
                 ·
                  intro c17
                  try simp only [decide_eq_true_eq, decide_eq_false_iff_not, Bool.not_eq_true', Bool.not_eq_false', ne_eq, Int.not_lt, Int.not_le] at c17
                  refine AWP_skip ?_
                  simp only [go_sem]
                  refine hK35 _ ?_
                  refine AWP_seq_k fun K38 hK38 => ?_
                  refine AWP_region (G := G) (T := T_mHr70) T_mHr70_ok ?_
                  simp only [go_sem]
                  repeat (with_reducible refine And.intro (by first | omega | exact ⟨rfl, by omega, by omega, by omega⟩ | exact ⟨by omega, by omega⟩) ?_)
                  refine hK38 _ ?_
                  refine AWP_ret ?_
                  simp only [hres, go_sem]
                  first
                    | exact finOk_mk (by rfl) (by decide)
                    | refine ⟨?_, finOk_mk (by rfl) (by decide)⟩
                      first | (have e : kd = 16 := (by assumption); subst e; rfl) | (have e : kd = 10 := (by assumption); subst e; rw [hua (by omega)]; rfl) | (have e : kd = 16 := (by assumption); subst e; first | exact (outV_16t (by assumption)).symm | exact (outV_16f (by omega)).symm) | (have e : kd = 15 := (by assumption); subst e; first | exact (outV_15t (by assumption)).symm | exact (outV_15f (by omega)).symm) | (have e : kd = 11 := (by assumption); subst e; exact clip_eq2 (by omega)) | (exfalso; omega) | (have e : kd = 17 := (by omega); subst e; exact wAM _ _ _) | fail
                ·
                 intro c16
                 try simp only [decide_eq_true_eq, decide_eq_false_iff_not, Bool.not_eq_true', Bool.not_eq_false', ne_eq, Int.not_lt, Int.not_le] at c16
                 refine AWP_skip ?_
                 simp only [go_sem]
                 refine hK2 _ ?_
                 refine AWP_seq_k fun K39 hK39 => ?_
                 refine AWP_draw (G := G) (T := T_mHr70) T_mHr70_ok mixed
                   [[], [0], [0, 1], [], [3], [3, 4], [3, 4, 5], [], [7], [7, 8], [3, 4, 5, 6, 7, 8, 9], [0, 1, 2, 3, 4, 5, 6, 7, 8, 9, 10], [0, 1, 2, 3, 4, 5, 6, 7, 8, 9, 10, 11]]
                   [[], [], [], [], [], [], [], [], [], [], [], [], []]
                   [[], [], [], [], [], [], [], [], [], [], [], [], []] (by kernel_rfl) (by kernel_rfl) (adrawR_ok (acc := []) ?_)
                 simp (maxSteps := 2000000) only [go_sem]
                 repeat (with_reducible refine And.intro (by first | exact chk_leaf (by kernel_rfl) | omega | exact ⟨rfl, by omega, by omega, by omega⟩ | exact ⟨by omega, by omega⟩) ?_)
                 refine hK39 _ ?_
                 refine AWP_ret ?_
                 simp only [hres, go_sem]
                 first
                   | exact finOk_mk (by rfl) (by decide)
                   | refine ⟨?_, finOk_mk (by rfl) (by decide)⟩
                     first | (have e : kd = 6 := (by assumption); subst e; rfl) | (have e : kd = 10 := (by assumption); subst e; rw [hua (by omega)]; rfl) | (have e : kd = 16 := (by assumption); subst e; first | exact (outV_16t (by assumption)).symm | exact (outV_16f (by omega)).symm) | (have e : kd = 15 := (by assumption); subst e; first | exact (outV_15t (by assumption)).symm | exact (outV_15f (by omega)).symm) | (have e : kd = 11 := (by assumption); subst e; exact clip_eq2 (by omega)) | (exfalso; omega) | (have e : kd = 17 := (by omega); subst e; exact wAM _ _ _) | fail
       ·
        intro c5
        try simp only [decide_eq_true_eq, decide_eq_false_iff_not, Bool.not_eq_true', Bool.not_eq_false', ne_eq, Int.not_lt, Int.not_le] at c5
        refine AWP_seq_k fun K40 hK40 => ?_
        refine AWP_region (G := G) (T := T_mHr70) T_mHr70_ok ?_
        simp only [go_sem]
        repeat (with_reducible refine And.intro (by first | omega | exact ⟨rfl, by omega, by omega, by omega⟩ | exact ⟨by omega, by omega⟩) ?_)
        refine hK40 _ ?_
        refine AWP_cond rfl ?_ ?_
        ·
         intro c6
         try simp only [decide_eq_true_eq, decide_eq_false_iff_not, Bool.not_eq_true', Bool.not_eq_false', ne_eq, Int.not_lt, Int.not_le] at c6
         refine AWP_skip ?_
         simp only [go_sem]
         refine hK14 _ ?_
         refine AWP_cond rfl ?_ ?_
         ·
          intro c7
          try simp only [decide_eq_true_eq, decide_eq_false_iff_not, Bool.not_eq_true', Bool.not_eq_false', ne_eq, Int.not_lt, Int.not_le] at c7
          refine AWP_seq_k fun K41 hK41 => ?_
          refine AWP_region (G := G) (T := T_mHr70) T_mHr70_ok ?_
          simp only [go_sem]
          repeat (with_reducible refine And.intro (by first | omega | exact ⟨rfl, by omega, by omega, by omega⟩ | exact ⟨by omega, by omega⟩) ?_)
          refine hK41 _ ?_
          refine AWP_ret ?_
          simp only [hres, go_sem]
          first
            | exact finOk_mk (by rfl) (by decide)
            | refine ⟨?_, finOk_mk (by rfl) (by decide)⟩
              first | (have e : kd = 12 := (by assumption); subst e; rfl) | (have e : kd = 10 := (by assumption); subst e; rw [hua (by omega)]; rfl) | (have e : kd = 16 := (by assumption); subst e; first | exact (outV_16t (by assumption)).symm | exact (outV_16f (by omega)).symm) | (have e : kd = 15 := (by assumption); subst e; first | exact (outV_15t (by assumption)).symm | exact (outV_15f (by omega)).symm) | (have e : kd = 11 := (by assumption); subst e; exact clip_eq2 (by omega)) | (exfalso; omega) | (have e : kd = 17 := (by omega); subst e; exact wAM _ _ _) | fail
         ·
          intro c7
          try simp only [decide_eq_true_eq, decide_eq_false_iff_not, Bool.not_eq_true', Bool.not_eq_false', ne_eq, Int.not_lt, Int.not_le] at c7
          refine AWP_seq_k fun K42 hK42 => ?_
          refine AWP_region (G := G) (T := T_mHr70) T_mHr70_ok ?_
          simp only [go_sem]
          repeat (with_reducible refine And.intro (by first | omega | exact ⟨rfl, by omega, by omega, by omega⟩ | exact ⟨by omega, by omega⟩) ?_)
          refine hK42 _ ?_
          refine AWP_cond rfl ?_ ?_
          ·
           intro c8
           try simp only [decide_eq_true_eq, decide_eq_false_iff_not, Bool.not_eq_true', Bool.not_eq_false', ne_eq, Int.not_lt, Int.not_le] at c8
           refine AWP_seq_k fun K43 hK43 => ?_
           refine AWP_draw (G := G) (T := T_mHr70) T_mHr70_ok mixed
             [[], [0], [0, 1], [], [3], [3, 4], [0, 1, 2, 3, 4, 5], [0, 1, 2, 3, 4, 5, 6]]
             [[], [], [], [], [], [], [], []]
             [[], [], [], [], [], [], [], []] (by kernel_rfl) (by kernel_rfl) (adrawR_ok (acc := []) ?_)
           simp (maxSteps := 2000000) only [go_sem]
           repeat (with_reducible refine And.intro (by first | exact chk_leaf (by kernel_rfl) | omega | exact ⟨rfl, by omega, by omega, by omega⟩ | exact ⟨by omega, by omega⟩) ?_)
           refine hK43 _ ?_
           refine AWP_ret ?_
           simp only [hres, go_sem]
           first
             | exact finOk_mk (by rfl) (by decide)
             | refine ⟨?_, finOk_mk (by rfl) (by decide)⟩
               first | (have e : kd = 7 := (by assumption); subst e; rfl) | (have e : kd = 10 := (by assumption); subst e; rw [hua (by omega)]; rfl) | (have e : kd = 16 := (by assumption); subst e; first | exact (outV_16t (by assumption)).symm | exact (outV_16f (by omega)).symm) | (have e : kd = 15 := (by assumption); subst e; first | exact (outV_15t (by assumption)).symm | exact (outV_15f (by omega)).symm) | (have e : kd = 11 := (by assumption); subst e; exact clip_eq2 (by omega)) | (exfalso; omega) | (have e : kd = 17 := (by omega); subst e; exact wAM _ _ _) | fail
          ·
           intro c8
           try simp only [decide_eq_true_eq, decide_eq_false_iff_not, Bool.not_eq_true', Bool.not_eq_false', ne_eq, Int.not_lt, Int.not_le] at c8
           refine AWP_seq_k fun K44 hK44 => ?_
           refine AWP_region (G := G) (T := T_mHr70) T_mHr70_ok ?_
           simp only [go_sem]
           repeat (with_reducible refine And.intro (by first | omega | exact ⟨rfl, by omega, by omega, by omega⟩ | exact ⟨by omega, by omega⟩) ?_)
           refine hK44 _ ?_
           refine AWP_cond rfl ?_ ?_
           ·
            intro c9
            try simp only [decide_eq_true_eq, decide_eq_false_iff_not, Bool.not_eq_true', Bool.not_eq_false', ne_eq, Int.not_lt, Int.not_le] at c9
            refine AWP_seq_k fun K45 hK45 => ?_
            refine AWP_draw (G := G) (T := T_mHr70) T_mHr70_ok mixed
              [[], [0], [0, 1], [], [3], [3, 4], [0, 1, 2, 3, 4, 5], [0, 1, 2, 3, 4, 5, 6]]
              [[], [], [], [], [], [], [], []]
              [[], [], [], [], [], [], [], []] (by kernel_rfl) (by kernel_rfl) (adrawR_ok (acc := []) ?_)
            simp (maxSteps := 2000000) only [go_sem]
            repeat (with_reducible refine And.intro (by first | exact chk_leaf (by kernel_rfl) | omega | exact ⟨rfl, by omega, by omega, by omega⟩ | exact ⟨by omega, by omega⟩) ?_)
            refine hK45 _ ?_
            refine AWP_ret ?_
            simp only [hres, go_sem]
            first
              | exact finOk_mk (by rfl) (by decide)
              | refine ⟨?_, finOk_mk (by rfl) (by decide)⟩
                first | (have e : kd = 8 := (by assumption); subst e; rfl) | (have e : kd = 10 := (by assumption); subst e; rw [hua (by omega)]; rfl) | (have e : kd = 16 := (by assumption); subst e; first | exact (outV_16t (by assumption)).symm | exact (outV_16f (by omega)).symm) | (have e : kd = 15 := (by assumption); subst e; first | exact (outV_15t (by assumption)).symm | exact (outV_15f (by omega)).symm) | (have e : kd = 11 := (by assumption); subst e; exact clip_eq2 (by omega)) | (exfalso; omega) | (have e : kd = 17 := (by omega); subst e; exact wAM _ _ _) | fail
           ·
            intro c9
            try simp only [decide_eq_true_eq, decide_eq_false_iff_not, Bool.not_eq_true', Bool.not_eq_false', ne_eq, Int.not_lt, Int.not_le] at c9
            refine AWP_seq_k fun K46 hK46 => ?_
            refine AWP_region (G := G) (T := T_mHr70) T_mHr70_ok ?_
            simp only [go_sem]
            repeat (with_reducible refine And.intro (by first | omega | exact ⟨rfl, by omega, by omega, by omega⟩ | exact ⟨by omega, by omega⟩) ?_)
            refine hK46 _ ?_
            refine AWP_cond rfl ?_ ?_
            ·
             intro c10
             try simp only [decide_eq_true_eq, decide_eq_false_iff_not, Bool.not_eq_true', Bool.not_eq_false', ne_eq, Int.not_lt, Int.not_le] at c10
             refine AWP_seq_k fun K47 hK47 => ?_
             refine AWP_draw (G := G) (T := T_mHr70) T_mHr70_ok mixed
               [[], [0], [0, 1], [], [3], [3, 4], [0, 1, 2, 3, 4, 5], [0, 1, 2, 3, 4, 5, 6]]
               [[], [], [], [], [], [], [], []]
               [[], [], [], [], [], [], [], []] (by kernel_rfl) (by kernel_rfl) (adrawR_ok (acc := []) ?_)
             simp (maxSteps := 2000000) only [go_sem]
             repeat (with_reducible refine And.intro (by first | exact chk_leaf (by kernel_rfl) | omega | exact ⟨rfl, by omega, by omega, by omega⟩ | exact ⟨by omega, by omega⟩) ?_)
             refine hK47 _ ?_
             refine AWP_ret ?_
             simp only [hres, go_sem]
             first
               | exact finOk_mk (by rfl) (by decide)
               | refine ⟨?_, finOk_mk (by rfl) (by decide)⟩
                 first | (have e : kd = 9 := (by assumption); subst e; rfl) | (have e : kd = 10 := (by assumption); subst e; rw [hua (by omega)]; rfl) | (have e : kd = 16 := (by assumption); subst e; first | exact (outV_16t (by assumption)).symm | exact (outV_16f (by omega)).symm) | (have e : kd = 15 := (by assumption); subst e; first | exact (outV_15t (by assumption)).symm | exact (outV_15f (by omega)).symm) | (have e : kd = 11 := (by assumption); subst e; exact clip_eq2 (by omega)) | (exfalso; omega) | (have e : kd = 17 := (by omega); subst e; exact wAM _ _ _) | fail
            ·
             intro c10
             try simp only [decide_eq_true_eq, decide_eq_false_iff_not, Bool.not_eq_true', Bool.not_eq_false', ne_eq, Int.not_lt, Int.not_le] at c10
             refine AWP_seq_k fun K48 hK48 => ?_
             refine AWP_region (G := G) (T := T_mHr70) T_mHr70_ok ?_
             simp only [go_sem]
             repeat (with_reducible refine And.intro (by first | omega | exact ⟨rfl, by omega, by omega, by omega⟩ | exact ⟨by omega, by omega⟩) ?_)
             refine hK48 _ ?_
             refine AWP_cond rfl ?_ ?_
             ·
              intro c11
              try simp only [decide_eq_true_eq, decide_eq_false_iff_not, Bool.not_eq_true', Bool.not_eq_false', ne_eq, Int.not_lt, Int.not_le] at c11
              refine AWP_seq_k fun K49 hK49 => ?_
              refine AWP_draw (G := G) (T := T_mHr70) T_mHr70_ok mixed
                [[], [0], [0, 1], [], [3], [3, 4], [3, 4, 5], [3, 4, 5, 6], [0, 1, 2, 3, 4, 5, 6, 7], [0, 1, 2, 3, 4, 5, 6, 7, 8]]
                [[], [], [], [], [], [], [], [], [], []]
                [[], [], [], [], [], [], [], [], [], []] (by kernel_rfl) (by kernel_rfl) (adrawR_ok (acc := []) ?_)
              simp (maxSteps := 2000000) only [go_sem]
              repeat (with_reducible refine And.intro (by first | exact chk_leaf (by kernel_rfl) | omega | exact ⟨rfl, by omega, by omega, by omega⟩ | exact ⟨by omega, by omega⟩) ?_)
              refine hK49 _ ?_
              refine AWP_ret ?_
              simp only [hres, go_sem]
              first
                | exact finOk_mk (by rfl) (by decide)
                | refine ⟨?_, finOk_mk (by rfl) (by decide)⟩
                  first | (have e : kd = 10 := (by assumption); subst e; rfl) | (have e : kd = 10 := (by assumption); subst e; rw [hua (by omega)]; rfl) | (have e : kd = 16 := (by assumption); subst e; first | exact (outV_16t (by assumption)).symm | exact (outV_16f (by omega)).symm) | (have e : kd = 15 := (by assumption); subst e; first | exact (outV_15t (by assumption)).symm | exact (outV_15f (by omega)).symm) | (have e : kd = 11 := (by assumption); subst e; exact clip_eq2 (by omega)) | (exfalso; omega) | (have e : kd = 17 := (by omega); subst e; exact wAM _ _ _) | fail
             ·
              intro c11
              try simp only [decide_eq_true_eq, decide_eq_false_iff_not, Bool.not_eq_true', Bool.not_eq_false', ne_eq, Int.not_lt, Int.not_le] at c11
              refine AWP_seq_k fun K50 hK50 => ?_
              refine AWP_region (G := G) (T := T_mHr70) T_mHr70_ok ?_
              simp only [go_sem]
              repeat (with_reducible refine And.intro (by first | omega | exact ⟨rfl, by omega, by omega, by omega⟩ | exact ⟨by omega, by omega⟩) ?_)
              refine hK50 _ ?_
              refine AWP_cond rfl ?_ ?_
              ·
               intro c12
               try simp only [decide_eq_true_eq, decide_eq_false_iff_not, Bool.not_eq_true', Bool.not_eq_false', ne_eq, Int.not_lt, Int.not_le] at c12
               refine AWP_seq_k fun K51 hK51 => ?_
               refine AWP_draw (G := G) (T := T_mHr70) T_mHr70_ok mixed
                 [[], [0], [0, 1], [0, 1, 2], [0, 1, 2, 3], [], [5], [5, 6], [], [8], [8, 9], [8, 9, 10], [5, 6, 7, 8, 9, 10, 11], [0, 1, 2, 3, 4, 5, 6, 7, 8, 9, 10, 11, 12], [0, 1, 2, 3, 4, 5, 6, 7, 8, 9, 10, 11, 12, 13]]
                 [[], [], [], [], [], [], [], [], [], [], [], [], [], [], []]
                 [[], [], [], [], [], [], [], [], [], [], [], [], [], [], []] (by kernel_rfl) (by kernel_rfl) (adrawR_ok (acc := []) ?_)
               simp (maxSteps := 2000000) only [go_sem]
               repeat (with_reducible refine And.intro (by first | exact chk_leaf (by kernel_rfl) | omega | exact ⟨rfl, by omega, by omega, by omega⟩ | exact ⟨by omega, by omega⟩) ?_)
               refine hK51 _ ?_
               refine AWP_ret ?_
               simp only [hres, go_sem]
               first
                 | exact finOk_mk (by rfl) (by decide)
                 | refine ⟨?_, finOk_mk (by rfl) (by decide)⟩
                   first | (have e : kd = 11 := (by assumption); subst e; rfl) | (have e : kd = 10 := (by assumption); subst e; rw [hua (by omega)]; rfl) | (have e : kd = 16 := (by assumption); subst e; first | exact (outV_16t (by assumption)).symm | exact (outV_16f (by omega)).symm) | (have e : kd = 15 := (by assumption); subst e; first | exact (outV_15t (by assumption)).symm | exact (outV_15f (by omega)).symm) | (have e : kd = 11 := (by assumption); subst e; exact clip_eq2 (by omega)) | (exfalso; omega) | (have e : kd = 17 := (by omega); subst e; exact wAM _ _ _) | fail
              ·
               intro c12
               try simp only [decide_eq_true_eq, decide_eq_false_iff_not, Bool.not_eq_true', Bool.not_eq_false', ne_eq, Int.not_lt, Int.not_le] at c12
               refine AWP_seq_k fun K52 hK52 => ?_
               refine AWP_region (G := G) (T := T_mHr70) T_mHr70_ok ?_
               simp only [go_sem]
               repeat (with_reducible refine And.intro (by first | omega | exact ⟨rfl, by omega, by omega, by omega⟩ | exact ⟨by omega, by omega⟩) ?_)
               refine hK52 _ ?_
               refine AWP_cond rfl ?_ ?_
               ·
                intro c13
                try simp only [decide_eq_true_eq, decide_eq_false_iff_not, Bool.not_eq_true', Bool.not_eq_false', ne_eq, Int.not_lt, Int.not_le] at c13
                refine AWP_seq_k fun K53 hK53 => ?_
                refine AWP_draw (G := G) (T := T_mHr70) T_mHr70_ok mixed
                  [[], [], [1], [1, 2], [1, 2, 3], [0, 1, 2, 3, 4], [0, 1, 2, 3, 4, 5], [], [7], [7, 8], [0, 1, 2, 3, 4, 5, 6, 7, 8, 9], [0, 1, 2, 3, 4, 5, 6, 7, 8, 9, 10]]
                  [[], [], [], [], [], [], [], [], [], [], [], []]
                  [[], [], [], [], [], [], [], [], [], [], [], []] (by kernel_rfl) (by kernel_rfl) (adrawR_ok (acc := []) ?_)
                simp (maxSteps := 2000000) only [go_sem]
                repeat (with_reducible refine And.intro (by first | exact chk_leaf (by kernel_rfl) | omega | exact ⟨rfl, by omega, by omega, by omega⟩ | exact ⟨by omega, by omega⟩) ?_)
                refine hK53 _ ?_
                refine AWP_ret ?_
                simp only [hres, go_sem]
                first
                  | exact finOk_mk (by rfl) (by decide)
                  | refine ⟨?_, finOk_mk (by rfl) (by decide)⟩
                    first | (have e : kd = 13 := (by assumption); subst e; rfl) | (have e : kd = 10 := (by assumption); subst e; rw [hua (by omega)]; rfl) | (have e : kd = 16 := (by assumption); subst e; first | exact (outV_16t (by assumption)).symm | exact (outV_16f (by omega)).symm) | (have e : kd = 15 := (by assumption); subst e; first | exact (outV_15t (by assumption)).symm | exact (outV_15f (by omega)).symm) | (have e : kd = 11 := (by assumption); subst e; exact clip_eq2 (by omega)) | (exfalso; omega) | (have e : kd = 17 := (by omega); subst e; exact wAM _ _ _) | fail
               ·
                intro c13
                try simp only [decide_eq_true_eq, decide_eq_false_iff_not, Bool.not_eq_true', Bool.not_eq_false', ne_eq, Int.not_lt, Int.not_le] at c13
                refine AWP_seq_k fun K54 hK54 => ?_
                refine AWP_region (G := G) (T := T_mHr70) T_mHr70_ok ?_
                simp only [go_sem]
                repeat (with_reducible refine And.intro (by first | omega | exact ⟨rfl, by omega, by omega, by omega⟩ | exact ⟨by omega, by omega⟩) ?_)
                refine hK54 _ ?_
                refine AWP_cond rfl ?_ ?_
                ·
                 intro c14
                 try simp only [decide_eq_true_eq, decide_eq_false_iff_not, Bool.not_eq_true', Bool.not_eq_false', ne_eq, Int.not_lt, Int.not_le] at c14
                 refine AWP_seq_k fun K55 hK55 => ?_
                 refine AWP_seq_k fun K56 hK56 => ?_
                 refine AWP_region (G := G) (T := T_mHr70) T_mHr70_ok ?_
                 simp only [go_sem]
                 repeat (with_reducible refine And.intro (by first | omega | exact ⟨rfl, by omega, by omega, by omega⟩ | exact ⟨by omega, by omega⟩) ?_)
                 refine hK56 _ ?_
                 refine AWP_cond rfl ?_ ?_
                 ·
                  intro c15
                  try simp only [decide_eq_true_eq, decide_eq_false_iff_not, Bool.not_eq_true', Bool.not_eq_false', ne_eq, Int.not_lt, Int.not_le] at c15
                  refine AWP_seq_k fun K57 hK57 => ?_
                  refine AWP_region (G := G) (T := T_mHr70) T_mHr70_ok ?_
                  simp only [go_sem]
                  repeat (with_reducible refine And.intro (by first | omega | exact ⟨rfl, by omega, by omega, by omega⟩ | exact ⟨by omega, by omega⟩) ?_)
                  refine hK57 _ ?_
                  refine AWP_ret ?_
                  simp only [hres, go_sem]
                  first
                    | exact finOk_mk (by rfl) (by decide)
                    | refine ⟨?_, finOk_mk (by rfl) (by decide)⟩
                      first | (have e : kd = 15 := (by assumption); subst e; rfl) | (have e : kd = 10 := (by assumption); subst e; rw [hua (by omega)]; rfl) | (have e : kd = 16 := (by assumption); subst e; first | exact (outV_16t (by assumption)).symm | exact (outV_16f (by omega)).symm) | (have e : kd = 15 := (by assumption); subst e; first | exact (outV_15t (by assumption)).symm | exact (outV_15f (by omega)).symm) | (have e : kd = 11 := (by assumption); subst e; exact clip_eq2 (by omega)) | (exfalso; omega) | (have e : kd = 17 := (by omega); subst e; exact wAM _ _ _) | fail
                 ·
                  intro c15
                  try simp only [decide_eq_true_eq, decide_eq_false_iff_not, Bool.not_eq_true', Bool.not_eq_false', ne_eq, Int.not_lt, Int.not_le] at c15
                  refine AWP_skip ?_
                  simp only [go_sem]
                  refine hK55 _ ?_
                  refine AWP_seq_k fun K58 hK58 => ?_
                  refine AWP_region (G := G) (T := T_mHr70) T_mHr70_ok ?_
                  simp only [go_sem]
                  repeat (with_reducible refine And.intro (by first | omega | exact ⟨rfl, by omega, by omega, by omega⟩ | exact ⟨by omega, by omega⟩) ?_)
                  refine hK58 _ ?_
                  refine AWP_ret ?_
                  simp only [hres, go_sem]
                  first
                    | exact finOk_mk (by rfl) (by decide)
                    | refine ⟨?_, finOk_mk (by rfl) (by decide)⟩
                      first | (have e : kd = 15 := (by assumption); subst e; rfl) | (have e : kd = 10 := (by assumption); subst e; rw [hua (by omega)]; rfl) | (have e : kd = 16 := (by assumption); subst e; first | exact (outV_16t (by assumption)).symm | exact (outV_16f (by omega)).symm) | (have e : kd = 15 := (by assumption); subst e; first | exact (outV_15t (by assumption)).symm | exact (outV_15f (by omega)).symm) | (have e : kd = 11 := (by assumption); subst e; exact clip_eq2 (by omega)) | (exfalso; omega) | (have e : kd = 17 := (by omega); subst e; exact wAM _ _ _) | fail
                ·
                 intro c14
                 try simp only [decide_eq_true_eq, decide_eq_false_iff_not, Bool.not_eq_true', Bool.not_eq_false', ne_eq, Int.not_lt, Int.not_le] at c14
                 refine AWP_seq_k fun K59 hK59 => ?_
                 refine AWP_region (G := G) (T := T_mHr70) T_mHr70_ok ?_
                 simp only [go_sem]
                 repeat (with_reducible refine And.intro (by first | omega | exact ⟨rfl, by omega, by omega, by omega⟩ | exact ⟨by omega, by omega⟩) ?_)
                 refine hK59 _ ?_
                 refine AWP_cond rfl ?_ ?_
                 ·
                  intro c16
                  try simp only [decide_eq_true_eq, decide_eq_false_iff_not, Bool.not_eq_true', Bool.not_eq_false', ne_eq, Int.not_lt, Int.not_le] at c16
                  refine AWP_seq_k fun K60 hK60 => ?_
                  refine AWP_seq_k fun K61 hK61 => ?_
                  refine AWP_region (G := G) (T := T_mHr70) T_mHr70_ok ?_
                  simp only [go_sem]
                  repeat (with_reducible refine And.intro (by first | omega | exact ⟨rfl, by omega, by omega, by omega⟩ | exact ⟨by omega, by omega⟩) ?_)
                  refine hK61 _ ?_
                  refine AWP_cond rfl ?_ ?_
                  ·
                   intro c17
                   try simp only [decide_eq_true_eq, decide_eq_false_iff_not, Bool.not_eq_true', Bool.not_eq_false', ne_eq, Int.not_lt, Int.not_le] at c17
                   refine AWP_seq_k fun K62 hK62 => ?_
                   refine AWP_region (G := G) (T := T_mHr70) T_mHr70_ok ?_
                   simp only [go_sem]
                   repeat (with_reducible refine And.intro (by first | omega | exact ⟨rfl, by omega, by omega, by omega⟩ | exact ⟨by omega, by omega⟩) ?_)
                   refine hK62 _ ?_
                   refine AWP_ret ?_
                   simp only [hres, go_sem]
                   first
                     | exact finOk_mk (by rfl) (by decide)
                     | refine ⟨?_, finOk_mk (by rfl) (by decide)⟩
                       first | (have e : kd = 16 := (by assumption); subst e; rfl) | (have e : kd = 10 := (by assumption); subst e; rw [hua (by omega)]; rfl) | (have e : kd = 16 := (by assumption); subst e; first | exact (outV_16t (by assumption)).symm | exact (outV_16f (by omega)).symm) | (have e : kd = 15 := (by assumption); subst e; first | exact (outV_15t (by assumption)).symm | exact (outV_15f (by omega)).symm) | (have e : kd = 11 := (by assumption); subst e; exact clip_eq2 (by omega)) | (exfalso; omega) | (have e : kd = 17 := (by omega); subst e; exact wAM _ _ _) | fail
                  ·
                   intro c17
                   try simp only [decide_eq_true_eq, decide_eq_false_iff_not, Bool.not_eq_true', Bool.not_eq_false', ne_eq, Int.not_lt, Int.not_le] at c17
                   refine AWP_skip ?_
                   simp only [go_sem]
                   refine hK60 _ ?_
                   refine AWP_seq_k fun K63 hK63 => ?_
                   refine AWP_region (G := G) (T := T_mHr70) T_mHr70_ok ?_
                   simp only [go_sem]
                   repeat (with_reducible refine And.intro (by first | omega | exact ⟨rfl, by omega, by omega, by omega⟩ | exact ⟨by omega, by omega⟩) ?_)
                   refine hK63 _ ?_
                   refine AWP_ret ?_
                   simp only [hres, go_sem]
                   first
                     | exact finOk_mk (by rfl) (by decide)
                     | refine ⟨?_, finOk_mk (by rfl) (by decide)⟩
                       first | (have e : kd = 16 := (by assumption); subst e; rfl) | (have e : kd = 10 := (by assumption); subst e; rw [hua (by omega)]; rfl) | (have e : kd = 16 := (by assumption); subst e; first | exact (outV_16t (by assumption)).symm | exact (outV_16f (by omega)).symm) | (have e : kd = 15 := (by assumption); subst e; first | exact (outV_15t (by assumption)).symm | exact (outV_15f (by omega)).symm) | (have e : kd = 11 := (by assumption); subst e; exact clip_eq2 (by omega)) | (exfalso; omega) | (have e : kd = 17 := (by omega); subst e; exact wAM _ _ _) | fail
                 ·
                  intro c16
                  try simp only [decide_eq_true_eq, decide_eq_false_iff_not, Bool.not_eq_true', Bool.not_eq_false', ne_eq, Int.not_lt, Int.not_le] at c16
                  refine AWP_skip ?_
                  simp only [go_sem]
                  refine hK2 _ ?_
                  refine AWP_seq_k fun K64 hK64 => ?_
                  refine AWP_draw (G := G) (T := T_mHr70) T_mHr70_ok mixed
                    [[], [0], [0, 1], [], [3], [3, 4], [3, 4, 5], [], [7], [7, 8], [3, 4, 5, 6, 7, 8, 9], [0, 1, 2, 3, 4, 5, 6, 7, 8, 9, 10], [0, 1, 2, 3, 4, 5, 6, 7, 8, 9, 10, 11]]
                    [[], [], [], [], [], [], [], [], [], [], [], [], []]
                    [[], [], [], [], [], [], [], [], [], [], [], [], []] (by kernel_rfl) (by kernel_rfl) (adrawR_ok (acc := []) ?_)
                  simp (maxSteps := 2000000) only [go_sem]
                  repeat (with_reducible refine And.intro (by first | exact chk_leaf (by kernel_rfl) | omega | exact ⟨rfl, by omega, by omega, by omega⟩ | exact ⟨by omega, by omega⟩) ?_)
                  refine hK64 _ ?_
                  refine AWP_ret ?_
                  simp only [hres, go_sem]
                  first
                    | exact finOk_mk (by rfl) (by decide)
                    | refine ⟨?_, finOk_mk (by rfl) (by decide)⟩
                      first | (have e : kd = 12 := (by assumption); subst e; rfl) | (have e : kd = 10 := (by assumption); subst e; rw [hua (by omega)]; rfl) | (have e : kd = 16 := (by assumption); subst e; first | exact (outV_16t (by assumption)).symm | exact (outV_16f (by omega)).symm) | (have e : kd = 15 := (by assumption); subst e; first | exact (outV_15t (by assumption)).symm | exact (outV_15f (by omega)).symm) | (have e : kd = 11 := (by assumption); subst e; exact clip_eq2 (by omega)) | (exfalso; omega) | (have e : kd = 17 := (by omega); subst e; exact wAM _ _ _) | fail
        ·
         intro c6
         try simp only [decide_eq_true_eq, decide_eq_false_iff_not, Bool.not_eq_true', Bool.not_eq_false', ne_eq, Int.not_lt, Int.not_le] at c6
         refine AWP_region (G := G) (T := T_mHr70) T_mHr70_ok ?_
         simp only [go_sem]
         repeat (with_reducible refine And.intro (by first | omega | exact ⟨rfl, by omega, by omega, by omega⟩ | exact ⟨by omega, by omega⟩) ?_)
         refine hK14 _ ?_
         refine AWP_cond rfl ?_ ?_
         ·
          intro c7
          try simp only [decide_eq_true_eq, decide_eq_false_iff_not, Bool.not_eq_true', Bool.not_eq_false', ne_eq, Int.not_lt, Int.not_le] at c7
          refine AWP_seq_k fun K65 hK65 => ?_
          refine AWP_region (G := G) (T := T_mHr70) T_mHr70_ok ?_
          simp only [go_sem]
          repeat (with_reducible refine And.intro (by first | omega | exact ⟨rfl, by omega, by omega, by omega⟩ | exact ⟨by omega, by omega⟩) ?_)
          refine hK65 _ ?_
          refine AWP_ret ?_
          simp only [hres, go_sem]
          first
            | exact finOk_mk (by rfl) (by decide)
            | refine ⟨?_, finOk_mk (by rfl) (by decide)⟩
              first | (have e : kd = 14 := (by assumption); subst e; rfl) | (have e : kd = 10 := (by assumption); subst e; rw [hua (by omega)]; rfl) | (have e : kd = 16 := (by assumption); subst e; first | exact (outV_16t (by assumption)).symm | exact (outV_16f (by omega)).symm) | (have e : kd = 15 := (by assumption); subst e; first | exact (outV_15t (by assumption)).symm | exact (outV_15f (by omega)).symm) | (have e : kd = 11 := (by assumption); subst e; exact clip_eq2 (by omega)) | (exfalso; omega) | (have e : kd = 17 := (by omega); subst e; exact wAM _ _ _) | fail
         ·
          intro c7
          try simp only [decide_eq_true_eq, decide_eq_false_iff_not, Bool.not_eq_true', Bool.not_eq_false', ne_eq, Int.not_lt, Int.not_le] at c7
          refine AWP_seq_k fun K66 hK66 => ?_
          refine AWP_region (G := G) (T := T_mHr70) T_mHr70_ok ?_
          simp only [go_sem]
          repeat (with_reducible refine And.intro (by first | omega | exact ⟨rfl, by omega, by omega, by omega⟩ | exact ⟨by omega, by omega⟩) ?_)
          refine hK66 _ ?_
          refine AWP_cond rfl ?_ ?_
          ·
           intro c8
           try simp only [decide_eq_true_eq, decide_eq_false_iff_not, Bool.not_eq_true', Bool.not_eq_false', ne_eq, Int.not_lt, Int.not_le] at c8
           refine AWP_seq_k fun K67 hK67 => ?_
           refine AWP_draw (G := G) (T := T_mHr70) T_mHr70_ok mixed
             [[], [0], [0, 1], [], [3], [3, 4], [0, 1, 2, 3, 4, 5], [0, 1, 2, 3, 4, 5, 6]]
             [[], [], [], [], [], [], [], []]
             [[], [], [], [], [], [], [], []] (by kernel_rfl) (by kernel_rfl) (adrawR_ok (acc := []) ?_)
           simp (maxSteps := 2000000) only [go_sem]
           repeat (with_reducible refine And.intro (by first | exact chk_leaf (by kernel_rfl) | omega | exact ⟨rfl, by omega, by omega, by omega⟩ | exact ⟨by omega, by omega⟩) ?_)
           refine hK67 _ ?_
           refine AWP_ret ?_
           simp only [hres, go_sem]
           first
             | exact finOk_mk (by rfl) (by decide)
             | refine ⟨?_, finOk_mk (by rfl) (by decide)⟩
               first | (have e : kd = 7 := (by assumption); subst e; rfl) | (have e : kd = 10 := (by assumption); subst e; rw [hua (by omega)]; rfl) | (have e : kd = 16 := (by assumption); subst e; first | exact (outV_16t (by assumption)).symm | exact (outV_16f (by omega)).symm) | (have e : kd = 15 := (by assumption); subst e; first | exact (outV_15t (by assumption)).symm | exact (outV_15f (by omega)).symm) | (have e : kd = 11 := (by assumption); subst e; exact clip_eq2 (by omega)) | (exfalso; omega) | (have e : kd = 17 := (by omega); subst e; exact wAM _ _ _) | fail
          ·
           intro c8
           try simp only [decide_eq_true_eq, decide_eq_false_iff_not, Bool.not_eq_true', Bool.not_eq_false', ne_eq, Int.not_lt, Int.not_le] at c8
           refine AWP_seq_k fun K68 hK68 => ?_
           refine AWP_region (G := G) (T := T_mHr70) T_mHr70_ok ?_
           simp only [go_sem]
           repeat (with_reducible refine And.intro (by first | omega | exact ⟨rfl, by omega, by omega, by omega⟩ | exact ⟨by omega, by omega⟩) ?_)
           refine hK68 _ ?_
           refine AWP_cond rfl ?_ ?_
           ·
            intro c9
            try simp only [decide_eq_true_eq, decide_eq_false_iff_not, Bool.not_eq_true', Bool.not_eq_false', ne_eq, Int.not_lt, Int.not_le] at c9
            refine AWP_seq_k fun K69 hK69 => ?_
            refine AWP_draw (G := G) (T := T_mHr70) T_mHr70_ok mixed
              [[], [0], [0, 1], [], [3], [3, 4], [0, 1, 2, 3, 4, 5], [0, 1, 2, 3, 4, 5, 6]]
              [[], [], [], [], [], [], [], []]
              [[], [], [], [], [], [], [], []] (by kernel_rfl) (by kernel_rfl) (adrawR_ok (acc := []) ?_)
            simp (maxSteps := 2000000) only [go_sem]
            repeat (with_reducible refine And.intro (by first | exact chk_leaf (by kernel_rfl) | omega | exact ⟨rfl, by omega, by omega, by omega⟩ | exact ⟨by omega, by omega⟩) ?_)
            refine hK69 _ ?_
            refine AWP_ret ?_
            simp only [hres, go_sem]
            first
              | exact finOk_mk (by rfl) (by decide)
              | refine ⟨?_, finOk_mk (by rfl) (by decide)⟩
                first | (have e : kd = 8 := (by assumption); subst e; rfl) | (have e : kd = 10 := (by assumption); subst e; rw [hua (by omega)]; rfl) | (have e : kd = 16 := (by assumption); subst e; first | exact (outV_16t (by assumption)).symm | exact (outV_16f (by omega)).symm) | (have e : kd = 15 := (by assumption); subst e; first | exact (outV_15t (by assumption)).symm | exact (outV_15f (by omega)).symm) | (have e : kd = 11 := (by assumption); subst e; exact clip_eq2 (by omega)) | (exfalso; omega) | (have e : kd = 17 := (by omega); subst e; exact wAM _ _ _) | fail
           ·
            intro c9
            try simp only [decide_eq_true_eq, decide_eq_false_iff_not, Bool.not_eq_true', Bool.not_eq_false', ne_eq, Int.not_lt, Int.not_le] at c9
            refine AWP_seq_k fun K70 hK70 => ?_
            refine AWP_region (G := G) (T := T_mHr70) T_mHr70_ok ?_
            simp only [go_sem]
            repeat (with_reducible refine And.intro (by first | omega | exact ⟨rfl, by omega, by omega, by omega⟩ | exact ⟨by omega, by omega⟩) ?_)
            refine hK70 _ ?_
            refine AWP_cond rfl ?_ ?_
            ·
             intro c10
             try simp only [decide_eq_true_eq, decide_eq_false_iff_not, Bool.not_eq_true', Bool.not_eq_false', ne_eq, Int.not_lt, Int.not_le] at c10
             refine AWP_seq_k fun K71 hK71 => ?_
             refine AWP_draw (G := G) (T := T_mHr70) T_mHr70_ok mixed
               [[], [0], [0, 1], [], [3], [3, 4], [0, 1, 2, 3, 4, 5], [0, 1, 2, 3, 4, 5, 6]]
               [[], [], [], [], [], [], [], []]
               [[], [], [], [], [], [], [], []] (by kernel_rfl) (by kernel_rfl) (adrawR_ok (acc := []) ?_)
             simp (maxSteps := 2000000) only [go_sem]
             repeat (with_reducible refine And.intro (by first | exact chk_leaf (by kernel_rfl) | omega | exact ⟨rfl, by omega, by omega, by omega⟩ | exact ⟨by omega, by omega⟩) ?_)
             refine hK71 _ ?_
             refine AWP_ret ?_
             simp only [hres, go_sem]
             first
               | exact finOk_mk (by rfl) (by decide)
               | refine ⟨?_, finOk_mk (by rfl) (by decide)⟩
                 first | (have e : kd = 9 := (by assumption); subst e; rfl) | (have e : kd = 10 := (by assumption); subst e; rw [hua (by omega)]; rfl) | (have e : kd = 16 := (by assumption); subst e; first | exact (outV_16t (by assumption)).symm | exact (outV_16f (by omega)).symm) | (have e : kd = 15 := (by assumption); subst e; first | exact (outV_15t (by assumption)).symm | exact (outV_15f (by omega)).symm) | (have e : kd = 11 := (by assumption); subst e; exact clip_eq2 (by omega)) | (exfalso; omega) | (have e : kd = 17 := (by omega); subst e; exact wAM _ _ _) | fail
            ·
             intro c10
             try simp only [decide_eq_true_eq, decide_eq_false_iff_not, Bool.not_eq_true', Bool.not_eq_false', ne_eq, Int.not_lt, Int.not_le] at c10
             refine AWP_seq_k fun K72 hK72 => ?_
             refine AWP_region (G := G) (T := T_mHr70) T_mHr70_ok ?_
             simp only [go_sem]
             repeat (with_reducible refine And.intro (by first | omega | exact ⟨rfl, by omega, by omega, by omega⟩ | exact ⟨by omega, by omega⟩) ?_)
             refine hK72 _ ?_
             refine AWP_cond rfl ?_ ?_
             ·
              intro c11
              try simp only [decide_eq_true_eq, decide_eq_false_iff_not, Bool.not_eq_true', Bool.not_eq_false', ne_eq, Int.not_lt, Int.not_le] at c11
              refine AWP_seq_k fun K73 hK73 => ?_
              refine AWP_draw (G := G) (T := T_mHr70) T_mHr70_ok mixed
                [[], [0], [0, 1], [], [3], [3, 4], [3, 4, 5], [3, 4, 5, 6], [0, 1, 2, 3, 4, 5, 6, 7], [0, 1, 2, 3, 4, 5, 6, 7, 8]]
                [[], [], [], [], [], [], [], [], [], []]
                [[], [], [], [], [], [], [], [], [], []] (by kernel_rfl) (by kernel_rfl) (adrawR_ok (acc := []) ?_)
              simp (maxSteps := 2000000) only [go_sem]
              repeat (with_reducible refine And.intro (by first | exact chk_leaf (by kernel_rfl) | omega | exact ⟨rfl, by omega, by omega, by omega⟩ | exact ⟨by omega, by omega⟩) ?_)
              refine hK73 _ ?_
              refine AWP_ret ?_
              simp only [hres, go_sem]
              first
                | exact finOk_mk (by rfl) (by decide)
                | refine ⟨?_, finOk_mk (by rfl) (by decide)⟩
                  first | (have e : kd = 10 := (by assumption); subst e; rfl) | (have e : kd = 10 := (by assumption); subst e; rw [hua (by omega)]; rfl) | (have e : kd = 16 := (by assumption); subst e; first | exact (outV_16t (by assumption)).symm | exact (outV_16f (by omega)).symm) | (have e : kd = 15 := (by assumption); subst e; first | exact (outV_15t (by assumption)).symm | exact (outV_15f (by omega)).symm) | (have e : kd = 11 := (by assumption); subst e; exact clip_eq2 (by omega)) | (exfalso; omega) | (have e : kd = 17 := (by omega); subst e; exact wAM _ _ _) | fail
             ·
              intro c11
              try simp only [decide_eq_true_eq, decide_eq_false_iff_not, Bool.not_eq_true', Bool.not_eq_false', ne_eq, Int.not_lt, Int.not_le] at c11
              refine AWP_seq_k fun K74 hK74 => ?_
              refine AWP_region (G := G) (T := T_mHr70) T_mHr70_ok ?_
              simp only [go_sem]
              repeat (with_reducible refine And.intro (by first | omega | exact ⟨rfl, by omega, by omega, by omega⟩ | exact ⟨by omega, by omega⟩) ?_)
              refine hK74 _ ?_
              refine AWP_cond rfl ?_ ?_
              ·
               intro c12
               try simp only [decide_eq_true_eq, decide_eq_false_iff_not, Bool.not_eq_true', Bool.not_eq_false', ne_eq, Int.not_lt, Int.not_le] at c12
               refine AWP_seq_k fun K75 hK75 => ?_
               refine AWP_draw (G := G) (T := T_mHr70) T_mHr70_ok mixed
                 [[], [0], [0, 1], [0, 1, 2], [0, 1, 2, 3], [], [5], [5, 6], [], [8], [8, 9], [8, 9, 10], [5, 6, 7, 8, 9, 10, 11], [0, 1, 2, 3, 4, 5, 6, 7, 8, 9, 10, 11, 12], [0, 1, 2, 3, 4, 5, 6, 7, 8, 9, 10, 11, 12, 13]]
                 [[], [], [], [], [], [], [], [], [], [], [], [], [], [], []]
                 [[], [], [], [], [], [], [], [], [], [], [], [], [], [], []] (by kernel_rfl) (by kernel_rfl) (adrawR_ok (acc := []) ?_)
               simp (maxSteps := 2000000) only [go_sem]
               repeat (with_reducible refine And.intro (by first | exact chk_leaf (by kernel_rfl) | omega | exact ⟨rfl, by omega, by omega, by omega⟩ | exact ⟨by omega, by omega⟩) ?_)
               refine hK75 _ ?_
               refine AWP_ret ?_
               simp only [hres, go_sem]
               first
                 | exact finOk_mk (by rfl) (by decide)
                 | refine ⟨?_, finOk_mk (by rfl) (by decide)⟩
                   first | (have e : kd = 11 := (by assumption); subst e; rfl) | (have e : kd = 10 := (by assumption); subst e; rw [hua (by omega)]; rfl) | (have e : kd = 16 := (by assumption); subst e; first | exact (outV_16t (by assumption)).symm | exact (outV_16f (by omega)).symm) | (have e : kd = 15 := (by assumption); subst e; first | exact (outV_15t (by assumption)).symm | exact (outV_15f (by omega)).symm) | (have e : kd = 11 := (by assumption); subst e; exact clip_eq2 (by omega)) | (exfalso; omega) | (have e : kd = 17 := (by omega); subst e; exact wAM _ _ _) | fail
              ·
               intro c12
               try simp only [decide_eq_true_eq, decide_eq_false_iff_not, Bool.not_eq_true', Bool.not_eq_false', ne_eq, Int.not_lt, Int.not_le] at c12
               refine AWP_seq_k fun K76 hK76 => ?_
               refine AWP_region (G := G) (T := T_mHr70) T_mHr70_ok ?_
               simp only [go_sem]
               repeat (with_reducible refine And.intro (by first | omega | exact ⟨rfl, by omega, by omega, by omega⟩ | exact ⟨by omega, by omega⟩) ?_)
               refine hK76 _ ?_
               refine AWP_cond rfl ?_ ?_
               ·
                intro c13
                try simp only [decide_eq_true_eq, decide_eq_false_iff_not, Bool.not_eq_true', Bool.not_eq_false', ne_eq, Int.not_lt, Int.not_le] at c13
                refine AWP_seq_k fun K77 hK77 => ?_
                refine AWP_draw (G := G) (T := T_mHr70) T_mHr70_ok mixed
                  [[], [], [1], [1, 2], [1, 2, 3], [0, 1, 2, 3, 4], [0, 1, 2, 3, 4, 5], [], [7], [7, 8], [0, 1, 2, 3, 4, 5, 6, 7, 8, 9], [0, 1, 2, 3, 4, 5, 6, 7, 8, 9, 10]]
                  [[], [], [], [], [], [], [], [], [], [], [], []]
                  [[], [], [], [], [], [], [], [], [], [], [], []] (by kernel_rfl) (by kernel_rfl) (adrawR_ok (acc := []) ?_)
                simp (maxSteps := 2000000) only [go_sem]
                repeat (with_reducible refine And.intro (by first | exact chk_leaf (by kernel_rfl) | omega | exact ⟨rfl, by omega, by omega, by omega⟩ | exact ⟨by omega, by omega⟩) ?_)
                refine hK77 _ ?_
                refine AWP_ret ?_
                simp only [hres, go_sem]
                first
                  | exact finOk_mk (by rfl) (by decide)
                  | refine ⟨?_, finOk_mk (by rfl) (by decide)⟩
                    first | (have e : kd = 13 := (by assumption); subst e; rfl) | (have e : kd = 10 := (by assumption); subst e; rw [hua (by omega)]; rfl) | (have e : kd = 16 := (by assumption); subst e; first | exact (outV_16t (by assumption)).symm | exact (outV_16f (by omega)).symm) | (have e : kd = 15 := (by assumption); subst e; first | exact (outV_15t (by assumption)).symm | exact (outV_15f (by omega)).symm) | (have e : kd = 11 := (by assumption); subst e; exact clip_eq2 (by omega)) | (exfalso; omega) | (have e : kd = 17 := (by omega); subst e; exact wAM _ _ _) | fail
               ·
                intro c13
                try simp only [decide_eq_true_eq, decide_eq_false_iff_not, Bool.not_eq_true', Bool.not_eq_false', ne_eq, Int.not_lt, Int.not_le] at c13
                refine AWP_seq_k fun K78 hK78 => ?_
                refine AWP_region (G := G) (T := T_mHr70) T_mHr70_ok ?_
                simp only [go_sem]
                repeat (with_reducible refine And.intro (by first | omega | exact ⟨rfl, by omega, by omega, by omega⟩ | exact ⟨by omega, by omega⟩) ?_)
                refine hK78 _ ?_
                refine AWP_cond rfl ?_ ?_
                ·
                 intro c14
                 try simp only [decide_eq_true_eq, decide_eq_false_iff_not, Bool.not_eq_true', Bool.not_eq_false', ne_eq, Int.not_lt, Int.not_le] at c14
                 refine AWP_seq_k fun K79 hK79 => ?_
                 refine AWP_seq_k fun K80 hK80 => ?_
                 refine AWP_region (G := G) (T := T_mHr70) T_mHr70_ok ?_
                 simp only [go_sem]
                 repeat (with_reducible refine And.intro (by first | omega | exact ⟨rfl, by omega, by omega, by omega⟩ | exact ⟨by omega, by omega⟩) ?_)
                 refine hK80 _ ?_
                 refine AWP_cond rfl ?_ ?_
                 ·
                  intro c15
                  try simp only [decide_eq_true_eq, decide_eq_false_iff_not, Bool.not_eq_true', Bool.not_eq_false', ne_eq, Int.not_lt, Int.not_le] at c15
                  refine AWP_seq_k fun K81 hK81 => ?_
                  refine AWP_region (G := G) (T := T_mHr70) T_mHr70_ok ?_
                  simp only [go_sem]
                  repeat (with_reducible refine And.intro (by first | omega | exact ⟨rfl, by omega, by omega, by omega⟩ | exact ⟨by omega, by omega⟩) ?_)
                  refine hK81 _ ?_
                  refine AWP_ret ?_
                  simp only [hres, go_sem]
                  first
                    | exact finOk_mk (by rfl) (by decide)
                    | refine ⟨?_, finOk_mk (by rfl) (by decide)⟩
                      first | (have e : kd = 15 := (by assumption); subst e; rfl) | (have e : kd = 10 := (by assumption); subst e; rw [hua (by omega)]; rfl) | (have e : kd = 16 := (by assumption); subst e; first | exact (outV_16t (by assumption)).symm | exact (outV_16f (by omega)).symm) | (have e : kd = 15 := (by assumption); subst e; first | exact (outV_15t (by assumption)).symm | exact (outV_15f (by omega)).symm) | (have e : kd = 11 := (by assumption); subst e; exact clip_eq2 (by omega)) | (exfalso; omega) | (have e : kd = 17 := (by omega); subst e; exact wAM _ _ _) | fail
                 ·
                  intro c15
                  try simp only [decide_eq_true_eq, decide_eq_false_iff_not, Bool.not_eq_true', Bool.not_eq_false', ne_eq, Int.not_lt, Int.not_le] at c15
                  refine AWP_skip ?_
                  simp only [go_sem]
                  refine hK79 _ ?_
                  refine AWP_seq_k fun K82 hK82 => ?_
                  refine AWP_region (G := G) (T := T_mHr70) T_mHr70_ok ?_
                  simp only [go_sem]
                  repeat (with_reducible refine And.intro (by first | omega | exact ⟨rfl, by omega, by omega, by omega⟩ | exact ⟨by omega, by omega⟩) ?_)
                  refine hK82 _ ?_
                  refine AWP_ret ?_
                  simp only [hres, go_sem]
                  first
                    | exact finOk_mk (by rfl) (by decide)
                    | refine ⟨?_, finOk_mk (by rfl) (by decide)⟩
                      first | (have e : kd = 15 := (by assumption); subst e; rfl) | (have e : kd = 10 := (by assumption); subst e; rw [hua (by omega)]; rfl) | (have e : kd = 16 := (by assumption); subst e; first | exact (outV_16t (by assumption)).symm | exact (outV_16f (by omega)).symm) | (have e : kd = 15 := (by assumption); subst e; first | exact (outV_15t (by assumption)).symm | exact (outV_15f (by omega)).symm) | (have e : kd = 11 := (by assumption); subst e; exact clip_eq2 (by omega)) | (exfalso; omega) | (have e : kd = 17 := (by omega); subst e; exact wAM _ _ _) | fail
                ·
                 intro c14
                 try simp only [decide_eq_true_eq, decide_eq_false_iff_not, Bool.not_eq_true', Bool.not_eq_false', ne_eq, Int.not_lt, Int.not_le] at c14
                 refine AWP_seq_k fun K83 hK83 => ?_
                 refine AWP_region (G := G) (T := T_mHr70) T_mHr70_ok ?_
                 simp only [go_sem]
                 repeat (with_reducible refine And.intro (by first | omega | exact ⟨rfl, by omega, by omega, by omega⟩ | exact ⟨by omega, by omega⟩) ?_)
                 refine hK83 _ ?_
                 refine AWP_cond rfl ?_ ?_
                 ·
                  intro c16
                  try simp only [decide_eq_true_eq, decide_eq_false_iff_not, Bool.not_eq_true', Bool.not_eq_false', ne_eq, Int.not_lt, Int.not_le] at c16
                  refine AWP_seq_k fun K84 hK84 => ?_
                  refine AWP_seq_k fun K85 hK85 => ?_
                  refine AWP_region (G := G) (T := T_mHr70) T_mHr70_ok ?_
                  simp only [go_sem]
                  repeat (with_reducible refine And.intro (by first | omega | exact ⟨rfl, by omega, by omega, by omega⟩ | exact ⟨by omega, by omega⟩) ?_)
                  refine hK85 _ ?_
                  refine AWP_cond rfl ?_ ?_
                  ·
                   intro c17
                   try simp only [decide_eq_true_eq, decide_eq_false_iff_not, Bool.not_eq_true', Bool.not_eq_false', ne_eq, Int.not_lt, Int.not_le] at c17
                   refine AWP_seq_k fun K86 hK86 => ?_
                   refine AWP_region (G := G) (T := T_mHr70) T_mHr70_ok ?_
                   simp only [go_sem]
                   repeat (with_reducible refine And.intro (by first | omega | exact ⟨rfl, by omega, by omega, by omega⟩ | exact ⟨by omega, by omega⟩) ?_)
                   refine hK86 _ ?_
                   refine AWP_ret ?_
                   simp only [hres, go_sem]
                   first
                     | exact finOk_mk (by rfl) (by decide)
                     | refine ⟨?_, finOk_mk (by rfl) (by decide)⟩
                       first | (have e : kd = 16 := (by assumption); subst e; rfl) | (have e : kd = 10 := (by assumption); subst e; rw [hua (by omega)]; rfl) | (have e : kd = 16 := (by assumption); subst e; first | exact (outV_16t (by assumption)).symm | exact (outV_16f (by omega)).symm) | (have e : kd = 15 := (by assumption); subst e; first | exact (outV_15t (by assumption)).symm | exact (outV_15f (by omega)).symm) | (have e : kd = 11 := (by assumption); subst e; exact clip_eq2 (by omega)) | (exfalso; omega) | (have e : kd = 17 := (by omega); subst e; exact wAM _ _ _) | fail
                  ·
                   intro c17
                   try simp only [decide_eq_true_eq, decide_eq_false_iff_not, Bool.not_eq_true', Bool.not_eq_false', ne_eq, Int.not_lt, Int.not_le] at c17
                   refine AWP_skip ?_
                   simp only [go_sem]
                   refine hK84 _ ?_
                   refine AWP_seq_k fun K87 hK87 => ?_
                   refine AWP_region (G := G) (T := T_mHr70) T_mHr70_ok ?_
                   simp only [go_sem]
                   repeat (with_reducible refine And.intro (by first | omega | exact ⟨rfl, by omega, by omega, by omega⟩ | exact ⟨by omega, by omega⟩) ?_)
                   refine hK87 _ ?_
                   refine AWP_ret ?_
                   simp only [hres, go_sem]
                   first
                     | exact finOk_mk (by rfl) (by decide)
                     | refine ⟨?_, finOk_mk (by rfl) (by decide)⟩
                       first | (have e : kd = 16 := (by assumption); subst e; rfl) | (have e : kd = 10 := (by assumption); subst e; rw [hua (by omega)]; rfl) | (have e : kd = 16 := (by assumption); subst e; first | exact (outV_16t (by assumption)).symm | exact (outV_16f (by omega)).symm) | (have e : kd = 15 := (by assumption); subst e; first | exact (outV_15t (by assumption)).symm | exact (outV_15f (by omega)).symm) | (have e : kd = 11 := (by assumption); subst e; exact clip_eq2 (by omega)) | (exfalso; omega) | (have e : kd = 17 := (by omega); subst e; exact wAM _ _ _) | fail
                 ·
                  intro c16
                  try simp only [decide_eq_true_eq, decide_eq_false_iff_not, Bool.not_eq_true', Bool.not_eq_false', ne_eq, Int.not_lt, Int.not_le] at c16
                  refine AWP_skip ?_
                  simp only [go_sem]
                  refine hK2 _ ?_
                  refine AWP_seq_k fun K88 hK88 => ?_
                  refine AWP_draw (G := G) (T := T_mHr70) T_mHr70_ok mixed
                    [[], [0], [0, 1], [], [3], [3, 4], [3, 4, 5], [], [7], [7, 8], [3, 4, 5, 6, 7, 8, 9], [0, 1, 2, 3, 4, 5, 6, 7, 8, 9, 10], [0, 1, 2, 3, 4, 5, 6, 7, 8, 9, 10, 11]]
                    [[], [], [], [], [], [], [], [], [], [], [], [], []]
                    [[], [], [], [], [], [], [], [], [], [], [], [], []] (by kernel_rfl) (by kernel_rfl) (adrawR_ok (acc := []) ?_)
                  simp (maxSteps := 2000000) only [go_sem]
                  repeat (with_reducible refine And.intro (by first | exact chk_leaf (by kernel_rfl) | omega | exact ⟨rfl, by omega, by omega, by omega⟩ | exact ⟨by omega, by omega⟩) ?_)
                  refine hK88 _ ?_
                  refine AWP_ret ?_
                  simp only [hres, go_sem]
                  first
                    | exact finOk_mk (by rfl) (by decide)
                    | refine ⟨?_, finOk_mk (by rfl) (by decide)⟩
                      first | (have e : kd = 0 := (by assumption); subst e; rfl) | (have e : kd = 10 := (by assumption); subst e; rw [hua (by omega)]; rfl) | (have e : kd = 16 := (by assumption); subst e; first | exact (outV_16t (by assumption)).symm | exact (outV_16f (by omega)).symm) | (have e : kd = 15 := (by assumption); subst e; first | exact (outV_15t (by assumption)).symm | exact (outV_15f (by omega)).symm) | (have e : kd = 11 := (by assumption); subst e; exact clip_eq2 (by omega)) | (exfalso; omega) | (have e : kd = 17 := (by omega); subst e; exact wAM _ _ _) | fail

theorem l06Out_fn : FnOk Tryz.prog 68 := fnOk_of Tryz.func68 rfl (by decide)

def T_l06Out : Tab := fun f => if f = 68 then some (.p K_l06Out) else T_mHr70 f
theorem T_l06Out_ok : TabOk Tryz.prog T_l06Out := fun f k h => by
  unfold T_l06Out at h
  split at h
  · rename_i e; cases h; subst e; exact ⟨l06Out_ok, l06Out_fn⟩
  · exact T_mHr70_ok f k h
attribute [go_sem] T_l06Out K_l06Out

end Go.Proofs.YthglggjgjlmhlaaGreat
