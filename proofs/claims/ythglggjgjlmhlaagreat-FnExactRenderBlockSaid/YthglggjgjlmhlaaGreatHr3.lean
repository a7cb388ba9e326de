/-
  Contracts of functions: l06Start.
-/
import Derived.Test.YthglggjgjlmhlaaGreatHr1
namespace Go.Proofs.YthglggjgjlmhlaaGreat
open Go.RowKit
set_option linter.unusedSimpArgs false
set_option linter.unusedVariables false

def K_l06Start : Con := ⟨[.ptr (.prod (.int .i64) (.prod (.int .i64) (.prod (.int .i64) (.row 2 (.int .i64)))))], [⟨(.row 2 (.int .i64)), true⟩], fun x => nodeC x.1, fun x => startV x.1⟩
set_option maxRecDepth 100000 in
set_option maxHeartbeats 1000000 in
theorem l06Start_ok : PureT Tryz.prog 41 K_l06Start := by
  refine pure_of_body Tryz.func41 rfl ?_
  have hres : Tryz.f41.results.toList = [.tmp 2] := rfl
  rintro ⟨⟨(kd : Int), (a : Int), (bb : Int), (fr : List Int)⟩, _⟩ hc hL
  simp only [K_l06Start, lensOk, PK.lenOk, glensOk, GP.lenOk, flensOk, GO.lenOk, olensOk, Ty.lenOk, Ty.flat, Bool.and_true, Bool.true_and, Bool.and_false, Bool.false_and, true_and, and_true, implies_true, forall_const] at hL
  simp only [K_l06Start, St.init, St.initG, Tryz.ntmps41, go_sem] 
  obtain ⟨h1, h2, h3, h4⟩ := nodeC_parts (show nodeC (kd, a, bb, fr) from hc)
  refine AWP_seq_k fun K1 hK1 => ?_
  refine AWP_region (G := G) (T := T_l07Map) T_l07Map_ok ?_
  simp only [go_sem]
  repeat (with_reducible refine And.intro (by first | omega | exact ⟨rfl, by omega, by omega, by omega⟩ | exact inR_iff.2 (by omega) | decide) ?_)
  refine hK1 _ ?_
  refine AWP_seq_k fun K2 hK2 => ?_
  refine AWP_seq_k fun K3 hK3 => ?_
  refine AWP_region (G := G) (T := T_l07Map) T_l07Map_ok ?_
  simp only [go_sem]
  repeat (with_reducible refine And.intro (by first | omega | exact ⟨rfl, by omega, by omega, by omega⟩ | exact inR_iff.2 (by omega) | decide) ?_)
  refine hK3 _ ?_
  refine AWP_block ?_
  refine AWP_seq_k fun K4 hK4 => ?_
  refine AWP_region (G := G) (T := T_l07Map) T_l07Map_ok ?_
  simp only [go_sem]
  repeat (with_reducible refine And.intro (by first | omega | exact ⟨rfl, by omega, by omega, by omega⟩ | exact inR_iff.2 (by omega) | decide) ?_)
  refine hK4 _ ?_
  refine AWP_cond rfl ?_ ?_
  ·
   intro c0
   try simp only [decide_eq_true_eq, decide_eq_false_iff_not, Bool.not_eq_true', Bool.not_eq_false', ne_eq, Int.not_lt, Int.not_le] at c0
   refine AWP_seq_k fun K5 hK5 => ?_
   refine AWP_region (G := G) (T := T_l07Map) T_l07Map_ok ?_
   simp (maxSteps := 2000000) only [go_sem]
   repeat (with_reducible refine And.intro (by first | omega | exact ⟨rfl, by omega, by omega, by omega⟩ | exact inR_iff.2 (by omega) | decide) ?_)
   refine hK5 _ ?_
   refine AWP_ret ?_
   simp only [hres, go_sem]
   first
     | exact finOk_mk (by rfl) (by decide)
     | refine ⟨?_, finOk_mk (by rfl) (by decide)⟩
       first | (have e : kd = 6 := (by assumption); subst e; rfl) | (exfalso; omega) | exact (startV_none (by omega) (by omega) (by omega) (by omega) (by omega) (by omega) (by omega)).symm
  ·
   intro c0
   try simp only [decide_eq_true_eq, decide_eq_false_iff_not, Bool.not_eq_true', Bool.not_eq_false', ne_eq, Int.not_lt, Int.not_le] at c0
   refine AWP_seq_k fun K6 hK6 => ?_
   refine AWP_region (G := G) (T := T_l07Map) T_l07Map_ok ?_
   simp only [go_sem]
   repeat (with_reducible refine And.intro (by first | omega | exact ⟨rfl, by omega, by omega, by omega⟩ | exact inR_iff.2 (by omega) | decide) ?_)
   refine hK6 _ ?_
   refine AWP_cond rfl ?_ ?_
   ·
    intro c1
    try simp only [decide_eq_true_eq, decide_eq_false_iff_not, Bool.not_eq_true', Bool.not_eq_false', ne_eq, Int.not_lt, Int.not_le] at c1
    refine AWP_seq_k fun K7 hK7 => ?_
    refine AWP_region (G := G) (T := T_l07Map) T_l07Map_ok ?_
    simp (maxSteps := 2000000) only [go_sem]
    repeat (with_reducible refine And.intro (by first | omega | exact ⟨rfl, by omega, by omega, by omega⟩ | exact inR_iff.2 (by omega) | decide) ?_)
    refine hK7 _ ?_
    refine AWP_ret ?_
    simp only [hres, go_sem]
    first
      | exact finOk_mk (by rfl) (by decide)
      | refine ⟨?_, finOk_mk (by rfl) (by decide)⟩
        first | (have e : kd = 17 := (by assumption); subst e; rfl) | (exfalso; omega) | exact (startV_none (by omega) (by omega) (by omega) (by omega) (by omega) (by omega) (by omega)).symm
   ·
    intro c1
    try simp only [decide_eq_true_eq, decide_eq_false_iff_not, Bool.not_eq_true', Bool.not_eq_false', ne_eq, Int.not_lt, Int.not_le] at c1
    refine AWP_seq_k fun K8 hK8 => ?_
    refine AWP_seq_k fun K9 hK9 => ?_
    refine AWP_region (G := G) (T := T_l07Map) T_l07Map_ok ?_
    simp only [go_sem]
    repeat (with_reducible refine And.intro (by first | omega | exact ⟨rfl, by omega, by omega, by omega⟩ | exact inR_iff.2 (by omega) | decide) ?_)
    refine hK9 _ ?_
    refine AWP_cond rfl ?_ ?_
    ·
     intro c2
     try simp only [decide_eq_true_eq, decide_eq_false_iff_not, Bool.not_eq_true', Bool.not_eq_false', ne_eq, Int.not_lt, Int.not_le] at c2
     refine AWP_skip ?_
     simp only [go_sem]
     refine hK8 _ ?_
     refine AWP_cond rfl ?_ ?_
     ·
      intro c4
      try simp only [decide_eq_true_eq, decide_eq_false_iff_not, Bool.not_eq_true', Bool.not_eq_false', ne_eq, Int.not_lt, Int.not_le] at c4
      refine AWP_seq_k fun K10 hK10 => ?_
      refine AWP_region (G := G) (T := T_l07Map) T_l07Map_ok ?_
      simp only [List.nodup_nil, go_sem]
      repeat (with_reducible refine And.intro (by first | omega | exact ⟨rfl, by omega, by omega, by omega⟩ | exact inR_iff.2 (by omega) | decide) ?_)
      refine hK10 _ ?_
      refine AWP_ret ?_
      simp only [hres, go_sem]
      first
        | exact finOk_mk (by rfl) (by decide)
        | refine ⟨?_, finOk_mk (by rfl) (by decide)⟩
          first | (have e : kd = 7 := (by assumption); subst e; rfl) | (exfalso; omega) | exact (startV_none (by omega) (by omega) (by omega) (by omega) (by omega) (by omega) (by omega)).symm
     ·
      intro c4
      try simp only [decide_eq_true_eq, decide_eq_false_iff_not, Bool.not_eq_true', Bool.not_eq_false', ne_eq, Int.not_lt, Int.not_le] at c4
      refine AWP_seq_k fun K11 hK11 => ?_
      refine AWP_seq_k fun K12 hK12 => ?_
      refine AWP_region (G := G) (T := T_l07Map) T_l07Map_ok ?_
      simp only [go_sem]
      repeat (with_reducible refine And.intro (by first | omega | exact ⟨rfl, by omega, by omega, by omega⟩ | exact inR_iff.2 (by omega) | decide) ?_)
      refine hK12 _ ?_
      refine AWP_cond rfl ?_ ?_
      ·
       intro c5
       try simp only [decide_eq_true_eq, decide_eq_false_iff_not, Bool.not_eq_true', Bool.not_eq_false', ne_eq, Int.not_lt, Int.not_le] at c5
       refine AWP_skip ?_
       simp only [go_sem]
       refine hK11 _ ?_
       refine AWP_cond rfl ?_ ?_
       ·
        intro c6
        try simp only [decide_eq_true_eq, decide_eq_false_iff_not, Bool.not_eq_true', Bool.not_eq_false', ne_eq, Int.not_lt, Int.not_le] at c6
        refine AWP_seq_k fun K13 hK13 => ?_
        refine AWP_region (G := G) (T := T_l07Map) T_l07Map_ok ?_
        simp (maxSteps := 2000000) only [List.nodup_nil, go_sem]
        repeat (with_reducible refine And.intro (by first | omega | exact ⟨rfl, by omega, by omega, by omega⟩ | exact inR_iff.2 (by omega) | decide) ?_)
        refine hK13 _ ?_
        refine AWP_ret ?_
        simp only [hres, go_sem]
        first
          | exact finOk_mk (by rfl) (by decide)
          | refine ⟨?_, finOk_mk (by rfl) (by decide)⟩
            first | (have e : kd = 12 := (by assumption); subst e; rfl) | (exfalso; omega) | exact (startV_none (by omega) (by omega) (by omega) (by omega) (by omega) (by omega) (by omega)).symm
       ·
        intro c6
        try simp only [decide_eq_true_eq, decide_eq_false_iff_not, Bool.not_eq_true', Bool.not_eq_false', ne_eq, Int.not_lt, Int.not_le] at c6
        refine AWP_skip ?_
        simp only [go_sem]
        refine hK2 _ ?_
        refine AWP_seq_k fun K14 hK14 => ?_
        refine AWP_region (G := G) (T := T_l07Map) T_l07Map_ok ?_
        simp only [List.nodup_nil, go_sem]
        repeat (with_reducible refine And.intro (by first | omega | exact ⟨rfl, by omega, by omega, by omega⟩ | exact inR_iff.2 (by omega) | decide) ?_)
        refine hK14 _ ?_
        refine AWP_ret ?_
        simp only [hres, go_sem]
        first
          | exact finOk_mk (by rfl) (by decide)
          | refine ⟨?_, finOk_mk (by rfl) (by decide)⟩
            first | (have e : kd = 12 := (by assumption); subst e; rfl) | (exfalso; omega) | exact (startV_none (by omega) (by omega) (by omega) (by omega) (by omega) (by omega) (by omega)).symm
      ·
       intro c5
       try simp only [decide_eq_true_eq, decide_eq_false_iff_not, Bool.not_eq_true', Bool.not_eq_false', ne_eq, Int.not_lt, Int.not_le] at c5
       refine AWP_region (G := G) (T := T_l07Map) T_l07Map_ok ?_
       simp only [go_sem]
       repeat (with_reducible refine And.intro (by first | omega | exact ⟨rfl, by omega, by omega, by omega⟩ | exact inR_iff.2 (by omega) | decide) ?_)
       refine hK11 _ ?_
       refine AWP_cond rfl ?_ ?_
       ·
        intro c6
        try simp only [decide_eq_true_eq, decide_eq_false_iff_not, Bool.not_eq_true', Bool.not_eq_false', ne_eq, Int.not_lt, Int.not_le] at c6
        refine AWP_seq_k fun K15 hK15 => ?_
        refine AWP_region (G := G) (T := T_l07Map) T_l07Map_ok ?_
        simp (maxSteps := 2000000) only [List.nodup_nil, go_sem]
        repeat (with_reducible refine And.intro (by first | omega | exact ⟨rfl, by omega, by omega, by omega⟩ | exact inR_iff.2 (by omega) | decide) ?_)
        refine hK15 _ ?_
        refine AWP_ret ?_
        simp only [hres, go_sem]
        first
          | exact finOk_mk (by rfl) (by decide)
          | refine ⟨?_, finOk_mk (by rfl) (by decide)⟩
            first | (have e : kd = 14 := (by assumption); subst e; rfl) | (exfalso; omega) | exact (startV_none (by omega) (by omega) (by omega) (by omega) (by omega) (by omega) (by omega)).symm
       ·
        intro c6
        try simp only [decide_eq_true_eq, decide_eq_false_iff_not, Bool.not_eq_true', Bool.not_eq_false', ne_eq, Int.not_lt, Int.not_le] at c6
        refine AWP_skip ?_
        simp only [go_sem]
        refine hK2 _ ?_
        refine AWP_seq_k fun K16 hK16 => ?_
        refine AWP_region (G := G) (T := T_l07Map) T_l07Map_ok ?_
        simp only [List.nodup_nil, go_sem]
        repeat (with_reducible refine And.intro (by first | omega | exact ⟨rfl, by omega, by omega, by omega⟩ | exact inR_iff.2 (by omega) | decide) ?_)
        refine hK16 _ ?_
        refine AWP_ret ?_
        simp only [hres, go_sem]
        first
          | exact finOk_mk (by rfl) (by decide)
          | refine ⟨?_, finOk_mk (by rfl) (by decide)⟩
            first | (have e : kd = 7 := (by assumption); subst e; rfl) | (exfalso; omega) | exact (startV_none (by omega) (by omega) (by omega) (by omega) (by omega) (by omega) (by omega)).symm
    ·
     intro c2
     try simp only [decide_eq_true_eq, decide_eq_false_iff_not, Bool.not_eq_true', Bool.not_eq_false', ne_eq, Int.not_lt, Int.not_le] at c2
     refine AWP_seq_k fun K17 hK17 => ?_
     refine AWP_region (G := G) (T := T_l07Map) T_l07Map_ok ?_
     simp only [go_sem]
     repeat (with_reducible refine And.intro (by first | omega | exact ⟨rfl, by omega, by omega, by omega⟩ | exact inR_iff.2 (by omega) | decide) ?_)
     refine hK17 _ ?_
     refine AWP_cond rfl ?_ ?_
     ·
      intro c3
      try simp only [decide_eq_true_eq, decide_eq_false_iff_not, Bool.not_eq_true', Bool.not_eq_false', ne_eq, Int.not_lt, Int.not_le] at c3
      refine AWP_skip ?_
      simp only [go_sem]
      refine hK8 _ ?_
      refine AWP_cond rfl ?_ ?_
      ·
       intro c4
       try simp only [decide_eq_true_eq, decide_eq_false_iff_not, Bool.not_eq_true', Bool.not_eq_false', ne_eq, Int.not_lt, Int.not_le] at c4
       refine AWP_seq_k fun K18 hK18 => ?_
       refine AWP_region (G := G) (T := T_l07Map) T_l07Map_ok ?_
       simp only [List.nodup_nil, go_sem]
       repeat (with_reducible refine And.intro (by first | omega | exact ⟨rfl, by omega, by omega, by omega⟩ | exact inR_iff.2 (by omega) | decide) ?_)
       refine hK18 _ ?_
       refine AWP_ret ?_
       simp only [hres, go_sem]
       first
         | exact finOk_mk (by rfl) (by decide)
         | refine ⟨?_, finOk_mk (by rfl) (by decide)⟩
           first | (have e : kd = 8 := (by assumption); subst e; rfl) | (exfalso; omega) | exact (startV_none (by omega) (by omega) (by omega) (by omega) (by omega) (by omega) (by omega)).symm
      ·
       intro c4
       try simp only [decide_eq_true_eq, decide_eq_false_iff_not, Bool.not_eq_true', Bool.not_eq_false', ne_eq, Int.not_lt, Int.not_le] at c4
       refine AWP_seq_k fun K19 hK19 => ?_
       refine AWP_seq_k fun K20 hK20 => ?_
       refine AWP_region (G := G) (T := T_l07Map) T_l07Map_ok ?_
       simp only [go_sem]
       repeat (with_reducible refine And.intro (by first | omega | exact ⟨rfl, by omega, by omega, by omega⟩ | exact inR_iff.2 (by omega) | decide) ?_)
       refine hK20 _ ?_
       refine AWP_cond rfl ?_ ?_
       ·
        intro c5
        try simp only [decide_eq_true_eq, decide_eq_false_iff_not, Bool.not_eq_true', Bool.not_eq_false', ne_eq, Int.not_lt, Int.not_le] at c5
        refine AWP_skip ?_
        simp only [go_sem]
        refine hK19 _ ?_
        refine AWP_cond rfl ?_ ?_
        ·
         intro c6
         try simp only [decide_eq_true_eq, decide_eq_false_iff_not, Bool.not_eq_true', Bool.not_eq_false', ne_eq, Int.not_lt, Int.not_le] at c6
         refine AWP_seq_k fun K21 hK21 => ?_
         refine AWP_region (G := G) (T := T_l07Map) T_l07Map_ok ?_
         simp (maxSteps := 2000000) only [List.nodup_nil, go_sem]
         repeat (with_reducible refine And.intro (by first | omega | exact ⟨rfl, by omega, by omega, by omega⟩ | exact inR_iff.2 (by omega) | decide) ?_)
         refine hK21 _ ?_
         refine AWP_ret ?_
         simp only [hres, go_sem]
         first
           | exact finOk_mk (by rfl) (by decide)
           | refine ⟨?_, finOk_mk (by rfl) (by decide)⟩
             first | (have e : kd = 12 := (by assumption); subst e; rfl) | (exfalso; omega) | exact (startV_none (by omega) (by omega) (by omega) (by omega) (by omega) (by omega) (by omega)).symm
        ·
         intro c6
         try simp only [decide_eq_true_eq, decide_eq_false_iff_not, Bool.not_eq_true', Bool.not_eq_false', ne_eq, Int.not_lt, Int.not_le] at c6
         refine AWP_skip ?_
         simp only [go_sem]
         refine hK2 _ ?_
         refine AWP_seq_k fun K22 hK22 => ?_
         refine AWP_region (G := G) (T := T_l07Map) T_l07Map_ok ?_
         simp only [List.nodup_nil, go_sem]
         repeat (with_reducible refine And.intro (by first | omega | exact ⟨rfl, by omega, by omega, by omega⟩ | exact inR_iff.2 (by omega) | decide) ?_)
         refine hK22 _ ?_
         refine AWP_ret ?_
         simp only [hres, go_sem]
         first
           | exact finOk_mk (by rfl) (by decide)
           | refine ⟨?_, finOk_mk (by rfl) (by decide)⟩
             first | (have e : kd = 12 := (by assumption); subst e; rfl) | (exfalso; omega) | exact (startV_none (by omega) (by omega) (by omega) (by omega) (by omega) (by omega) (by omega)).symm
       ·
        intro c5
        try simp only [decide_eq_true_eq, decide_eq_false_iff_not, Bool.not_eq_true', Bool.not_eq_false', ne_eq, Int.not_lt, Int.not_le] at c5
        refine AWP_region (G := G) (T := T_l07Map) T_l07Map_ok ?_
        simp only [go_sem]
        repeat (with_reducible refine And.intro (by first | omega | exact ⟨rfl, by omega, by omega, by omega⟩ | exact inR_iff.2 (by omega) | decide) ?_)
        refine hK19 _ ?_
        refine AWP_cond rfl ?_ ?_
        ·
         intro c6
         try simp only [decide_eq_true_eq, decide_eq_false_iff_not, Bool.not_eq_true', Bool.not_eq_false', ne_eq, Int.not_lt, Int.not_le] at c6
         refine AWP_seq_k fun K23 hK23 => ?_
         refine AWP_region (G := G) (T := T_l07Map) T_l07Map_ok ?_
         simp (maxSteps := 2000000) only [List.nodup_nil, go_sem]
         repeat (with_reducible refine And.intro (by first | omega | exact ⟨rfl, by omega, by omega, by omega⟩ | exact inR_iff.2 (by omega) | decide) ?_)
         refine hK23 _ ?_
         refine AWP_ret ?_
         simp only [hres, go_sem]
         first
           | exact finOk_mk (by rfl) (by decide)
           | refine ⟨?_, finOk_mk (by rfl) (by decide)⟩
             first | (have e : kd = 14 := (by assumption); subst e; rfl) | (exfalso; omega) | exact (startV_none (by omega) (by omega) (by omega) (by omega) (by omega) (by omega) (by omega)).symm
        ·
         intro c6
         try simp only [decide_eq_true_eq, decide_eq_false_iff_not, Bool.not_eq_true', Bool.not_eq_false', ne_eq, Int.not_lt, Int.not_le] at c6
         refine AWP_skip ?_
         simp only [go_sem]
         refine hK2 _ ?_
         refine AWP_seq_k fun K24 hK24 => ?_
         refine AWP_region (G := G) (T := T_l07Map) T_l07Map_ok ?_
         simp only [List.nodup_nil, go_sem]
         repeat (with_reducible refine And.intro (by first | omega | exact ⟨rfl, by omega, by omega, by omega⟩ | exact inR_iff.2 (by omega) | decide) ?_)
         refine hK24 _ ?_
         refine AWP_ret ?_
         simp only [hres, go_sem]
         first
           | exact finOk_mk (by rfl) (by decide)
           | refine ⟨?_, finOk_mk (by rfl) (by decide)⟩
             first | (have e : kd = 8 := (by assumption); subst e; rfl) | (exfalso; omega) | exact (startV_none (by omega) (by omega) (by omega) (by omega) (by omega) (by omega) (by omega)).symm
     ·
      intro c3
      try simp only [decide_eq_true_eq, decide_eq_false_iff_not, Bool.not_eq_true', Bool.not_eq_false', ne_eq, Int.not_lt, Int.not_le] at c3
      refine AWP_region (G := G) (T := T_l07Map) T_l07Map_ok ?_
      simp only [go_sem]
      repeat (with_reducible refine And.intro (by first | omega | exact ⟨rfl, by omega, by omega, by omega⟩ | exact inR_iff.2 (by omega) | decide) ?_)
      refine hK8 _ ?_
      refine AWP_cond rfl ?_ ?_
      ·
       intro c4
       try simp only [decide_eq_true_eq, decide_eq_false_iff_not, Bool.not_eq_true', Bool.not_eq_false', ne_eq, Int.not_lt, Int.not_le] at c4
       refine AWP_seq_k fun K25 hK25 => ?_
       refine AWP_region (G := G) (T := T_l07Map) T_l07Map_ok ?_
       simp only [List.nodup_nil, go_sem]
       repeat (with_reducible refine And.intro (by first | omega | exact ⟨rfl, by omega, by omega, by omega⟩ | exact inR_iff.2 (by omega) | decide) ?_)
       refine hK25 _ ?_
       refine AWP_ret ?_
       simp only [hres, go_sem]
       first
         | exact finOk_mk (by rfl) (by decide)
         | refine ⟨?_, finOk_mk (by rfl) (by decide)⟩
           first | (have e : kd = 16 := (by assumption); subst e; rfl) | (exfalso; omega) | exact (startV_none (by omega) (by omega) (by omega) (by omega) (by omega) (by omega) (by omega)).symm
      ·
       intro c4
       try simp only [decide_eq_true_eq, decide_eq_false_iff_not, Bool.not_eq_true', Bool.not_eq_false', ne_eq, Int.not_lt, Int.not_le] at c4
       refine AWP_seq_k fun K26 hK26 => ?_
       refine AWP_seq_k fun K27 hK27 => ?_
       refine AWP_region (G := G) (T := T_l07Map) T_l07Map_ok ?_
       simp only [go_sem]
       repeat (with_reducible refine And.intro (by first | omega | exact ⟨rfl, by omega, by omega, by omega⟩ | exact inR_iff.2 (by omega) | decide) ?_)
       refine hK27 _ ?_
       refine AWP_cond rfl ?_ ?_
       ·
        intro c5
        try simp only [decide_eq_true_eq, decide_eq_false_iff_not, Bool.not_eq_true', Bool.not_eq_false', ne_eq, Int.not_lt, Int.not_le] at c5
        refine AWP_skip ?_
        simp only [go_sem]
        refine hK26 _ ?_
        refine AWP_cond rfl ?_ ?_
        ·
         intro c6
         try simp only [decide_eq_true_eq, decide_eq_false_iff_not, Bool.not_eq_true', Bool.not_eq_false', ne_eq, Int.not_lt, Int.not_le] at c6
         refine AWP_seq_k fun K28 hK28 => ?_
         refine AWP_region (G := G) (T := T_l07Map) T_l07Map_ok ?_
         simp (maxSteps := 2000000) only [List.nodup_nil, go_sem]
         repeat (with_reducible refine And.intro (by first | omega | exact ⟨rfl, by omega, by omega, by omega⟩ | exact inR_iff.2 (by omega) | decide) ?_)
         refine hK28 _ ?_
         refine AWP_ret ?_
         simp only [hres, go_sem]
         first
           | exact finOk_mk (by rfl) (by decide)
           | refine ⟨?_, finOk_mk (by rfl) (by decide)⟩
             first | (have e : kd = 12 := (by assumption); subst e; rfl) | (exfalso; omega) | exact (startV_none (by omega) (by omega) (by omega) (by omega) (by omega) (by omega) (by omega)).symm
        ·
         intro c6
         try simp only [decide_eq_true_eq, decide_eq_false_iff_not, Bool.not_eq_true', Bool.not_eq_false', ne_eq, Int.not_lt, Int.not_le] at c6
         refine AWP_skip ?_
         simp only [go_sem]
         refine hK2 _ ?_
         refine AWP_seq_k fun K29 hK29 => ?_
         refine AWP_region (G := G) (T := T_l07Map) T_l07Map_ok ?_
         simp only [List.nodup_nil, go_sem]
         repeat (with_reducible refine And.intro (by first | omega | exact ⟨rfl, by omega, by omega, by omega⟩ | exact inR_iff.2 (by omega) | decide) ?_)
         refine hK29 _ ?_
         refine AWP_ret ?_
         simp only [hres, go_sem]
         first
           | exact finOk_mk (by rfl) (by decide)
           | refine ⟨?_, finOk_mk (by rfl) (by decide)⟩
             first | (have e : kd = 12 := (by assumption); subst e; rfl) | (exfalso; omega) | exact (startV_none (by omega) (by omega) (by omega) (by omega) (by omega) (by omega) (by omega)).symm
       ·
        intro c5
        try simp only [decide_eq_true_eq, decide_eq_false_iff_not, Bool.not_eq_true', Bool.not_eq_false', ne_eq, Int.not_lt, Int.not_le] at c5
        refine AWP_region (G := G) (T := T_l07Map) T_l07Map_ok ?_
        simp only [go_sem]
        repeat (with_reducible refine And.intro (by first | omega | exact ⟨rfl, by omega, by omega, by omega⟩ | exact inR_iff.2 (by omega) | decide) ?_)
        refine hK26 _ ?_
        refine AWP_cond rfl ?_ ?_
        ·
         intro c6
         try simp only [decide_eq_true_eq, decide_eq_false_iff_not, Bool.not_eq_true', Bool.not_eq_false', ne_eq, Int.not_lt, Int.not_le] at c6
         refine AWP_seq_k fun K30 hK30 => ?_
         refine AWP_region (G := G) (T := T_l07Map) T_l07Map_ok ?_
         simp (maxSteps := 2000000) only [List.nodup_nil, go_sem]
         repeat (with_reducible refine And.intro (by first | omega | exact ⟨rfl, by omega, by omega, by omega⟩ | exact inR_iff.2 (by omega) | decide) ?_)
         refine hK30 _ ?_
         refine AWP_ret ?_
         simp only [hres, go_sem]
         first
           | exact finOk_mk (by rfl) (by decide)
           | refine ⟨?_, finOk_mk (by rfl) (by decide)⟩
             first | (have e : kd = 14 := (by assumption); subst e; rfl) | (exfalso; omega) | exact (startV_none (by omega) (by omega) (by omega) (by omega) (by omega) (by omega) (by omega)).symm
        ·
         intro c6
         try simp only [decide_eq_true_eq, decide_eq_false_iff_not, Bool.not_eq_true', Bool.not_eq_false', ne_eq, Int.not_lt, Int.not_le] at c6
         refine AWP_skip ?_
         simp only [go_sem]
         refine hK2 _ ?_
         refine AWP_seq_k fun K31 hK31 => ?_
         refine AWP_region (G := G) (T := T_l07Map) T_l07Map_ok ?_
         simp only [List.nodup_nil, go_sem]
         repeat (with_reducible refine And.intro (by first | omega | exact ⟨rfl, by omega, by omega, by omega⟩ | exact inR_iff.2 (by omega) | decide) ?_)
         refine hK31 _ ?_
         refine AWP_ret ?_
         simp only [hres, go_sem]
         first
           | exact finOk_mk (by rfl) (by decide)
           | refine ⟨?_, finOk_mk (by rfl) (by decide)⟩
             first | (have e : kd = 0 := (by assumption); subst e; rfl) | (exfalso; omega) | exact (startV_none (by omega) (by omega) (by omega) (by omega) (by omega) (by omega) (by omega)).symm

theorem l06Start_fn : FnOk Tryz.prog 41 := fnOk_of Tryz.func41 rfl (by decide)

def T_l06Start : Tab := fun f => if f = 41 then some (.p K_l06Start) else T_l07Map f
theorem T_l06Start_ok : TabOk Tryz.prog T_l06Start := fun f k h => by
  unfold T_l06Start at h
  split at h
  · rename_i e; cases h; subst e; exact ⟨l06Start_ok, l06Start_fn⟩
  · exact T_l07Map_ok f k h
attribute [go_sem] T_l06Start K_l06Start

end Go.Proofs.YthglggjgjlmhlaaGreat
