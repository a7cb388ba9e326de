/-
  Contracts of functions: FnExactMatchNodes.
-/
import Derived.Test.YthfopaimihmgiaaGreatHl1
import Derived.Test.YthfopaimihmgiaaGreatHl2
import Derived.Test.YthfopaimihmgiaaGreatHl4
import Derived.Test.YthfopaimihmgiaaGreatHc10
import Derived.Test.YthfopaimihmgiaaGreatHc11
import Derived.Test.YthfopaimihmgiaaGreatGp
namespace Go.Proofs.YthfopaimihmgiaaGreat
open Go.RowKit
set_option linter.unusedSimpArgs false
set_option linter.unusedVariables false

def T_mHx120 : Tab := fun f => match T_toP f with
  | some k => some k
  | none => T_eqP f
theorem T_mHx120_ok : TabOk Tryz.prog T_mHx120 := fun f k h => by
  unfold T_mHx120 at h
  split at h
  · rename_i e; cases h; exact T_toP_ok f _ e
  · exact T_eqP_ok f k h
attribute [go_sem] T_mHx120 T0


def T_mHx121 : Tab := fun f => match T_mHx120 f with
  | some k => some k
  | none => T_markP f
theorem T_mHx121_ok : TabOk Tryz.prog T_mHx121 := fun f k h => by
  unfold T_mHx121 at h
  split at h
  · rename_i e; cases h; exact T_mHx120_ok f _ e
  · exact T_markP_ok f k h
attribute [go_sem] T_mHx121 T0


def T_mHx122 : Tab := fun f => match T_mHx121 f with
  | some k => some k
  | none => T_implMatch f
theorem T_mHx122_ok : TabOk Tryz.prog T_mHx122 := fun f k h => by
  unfold T_mHx122 at h
  split at h
  · rename_i e; cases h; exact T_mHx121_ok f _ e
  · exact T_implMatch_ok f k h
attribute [go_sem] T_mHx122 T0


def T_mHx123 : Tab := fun f => match T_mHx122 f with
  | some k => some k
  | none => T_specMatch f
theorem T_mHx123_ok : TabOk Tryz.prog T_mHx123 := fun f k h => by
  unfold T_mHx123 at h
  split at h
  · rename_i e; cases h; exact T_mHx122_ok f _ e
  · exact T_specMatch_ok f k h
attribute [go_sem] T_mHx123 T0


def K_lawMatch : Con := ⟨[.val ((.prod (.int .i64) (.prod (.row 24 (.row 2 (.int .i64))) (.prod (.row 135 (.prod (.int .i64) (.prod (.int .i64) (.prod (.int .i64) (.row 2 (.int .i64)))))) (.row 2 (.int .i64)))))), .val ((.prod (.int .i64) (.prod (.row 24 (.row 2 (.int .i64))) (.prod (.row 135 (.prod (.int .i64) (.prod (.int .i64) (.prod (.int .i64) (.row 2 (.int .i64)))))) (.row 2 (.int .i64))))))], [⟨.bool, true⟩], fun _ => True, fun _ => true⟩
set_option maxRecDepth 100000 in
set_option maxHeartbeats 16000000 in
theorem lawMatch_ok : PureT Tryz.prog 3 K_lawMatch := by
  refine pure_of_body Tryz.func3 rfl ?_
  have hres : Tryz.f3.results.toList = [.tmp 4] := rfl
  rintro ⟨⟨(pi : Int), (ts : List (List Int)), (ns : List NodeD), (os : List Int)⟩, ⟨(pi2 : Int), (ts2 : List (List Int)), (ns2 : List NodeD), (os2 : List Int)⟩, _⟩ hc hL
  simp only [K_lawMatch, lensOk, PK.lenOk, glensOk, GP.lenOk, flensOk, GO.lenOk, olensOk, Ty.lenOk, Ty.flat, Bool.and_true, Bool.true_and, Bool.and_false, Bool.false_and, true_and, and_true, implies_true, forall_const] at hL
  simp only [K_lawMatch, St.init, St.initG, Tryz.ntmps3, go_sem] 
  obtain ⟨U, hU⟩ : ∃ U, matchR (pi, ts, ns, os) (pi2, ts2, ns2, os2) = U := ⟨_, rfl⟩
  have hUb0 : U.1.length ≤ 1000000 := by rw [← hU]; exact matchR_bd _ _
  have hUh0 : heldA mkI ctI (1) (markL (1) U.1) = 1 + (U.1.length : Int) := by rw [show heldA mkI ctI (1) (markL (1) U.1) = 1 + ((cntA ctI U.1 : Nat) : Int) from heldA_mark (fun _ _ => rfl) (fun _ _ => rfl), cntI]
  have hUm0 : mkOk (1) (cntA ctI (markL (1) U.1)) := by rw [cntI, markA_len]; exact ⟨by omega, by omega⟩
  have hUn0 : decide (1 + (U.1.length : Int) < 0) = false := decide_eq_false (by omega)
  refine AWP_seq_k fun K1 hK1 => ?_
  refine AWP_wk (Wk_keep _ [0, 1] []) ?_
  simp (maxSteps := 2000000) only [go_sem]
  refine AWP_region (G := G) (T := T_mHx123) T_mHx123_ok ?_
  simp only [go_sem]
  repeat (with_reducible refine And.intro (by first | omega | exact ⟨rfl, by omega, by omega, by omega⟩ | assumption | exact ⟨by omega, by omega⟩ | (refine ⟨by omega, ?_⟩; simp only [ctP] at *; omega)) ?_)
  refine hK1 _ ?_
  refine AWP_seq_k fun K2 hK2 => ?_
  refine AWP_region (G := G) (T := T_mHx123) T_mHx123_ok ?_
  simp only [go_sem]
  repeat (with_reducible refine And.intro (by first | omega | exact ⟨rfl, by omega, by omega, by omega⟩ | assumption | exact ⟨by omega, by omega⟩ | (refine ⟨by omega, ?_⟩; simp only [ctP] at *; omega)) ?_)
  refine hK2 _ ?_
  refine AWP_seq_k fun K3 hK3 => ?_
  refine AWP_wk (Wk_keep _ [2, 3, 5] [132, 148]) ?_
  simp (maxSteps := 2000000) only [go_sem]
  refine AWP_region (G := G) (T := T_mHx123) T_mHx123_ok ?_
  simp only [go_sem]
  repeat (with_reducible refine And.intro (by first | omega | exact ⟨rfl, by omega, by omega, by omega⟩ | assumption | exact ⟨by omega, by omega⟩ | (refine ⟨by omega, ?_⟩; simp only [ctP] at *; omega)) ?_)
  refine hK3 _ ?_
  refine AWP_seq_k fun K4 hK4 => ?_
  refine AWP_seq_k fun K5 hK5 => ?_
  refine AWP_region (G := G) (T := T_mHx123) T_mHx123_ok ?_
  simp only [go_sem]
  repeat (with_reducible refine And.intro (by first | omega | exact ⟨rfl, by omega, by omega, by omega⟩ | assumption | exact ⟨by omega, by omega⟩ | (refine ⟨by omega, ?_⟩; simp only [ctP] at *; omega)) ?_)
  refine hK5 _ ?_
  refine AWP_cond rfl ?_ ?_
  ·
   intro c0
   try simp only [decide_eq_true_eq, decide_eq_false_iff_not, Bool.not_eq_true', Bool.not_eq_false', ne_eq, Int.not_lt, Int.not_le] at c0
   refine AWP_seq_k fun K6 hK6 => ?_
   refine AWP_region (G := G) (T := T_mHx123) T_mHx123_ok ?_
   simp only [go_sem]
   repeat (with_reducible refine And.intro (by first | omega | exact ⟨rfl, by omega, by omega, by omega⟩ | assumption | exact ⟨by omega, by omega⟩ | (refine ⟨by omega, ?_⟩; simp only [ctP] at *; omega)) ?_)
   refine hK6 _ ?_
   refine AWP_ret ?_
   simp only [hres, go_sem]
   first
     | exact finOk_mk (by rfl) (by decide)
     | refine ⟨?_, finOk_mk (by rfl) (by decide)⟩
       rfl
  ·
   intro c0
   try simp only [decide_eq_true_eq, decide_eq_false_iff_not, Bool.not_eq_true', Bool.not_eq_false', ne_eq, Int.not_lt, Int.not_le] at c0
   obtain ⟨e0, e0'⟩ := szR_ge' c0
   have f0 : fitsP (pi, ts, ns, os) := fitsP_sz (by omega)
   have g0 := ctP_le (pi, ts, ns, os)
   have hz0 : ctP (0, ts, ns, os) = ctP (pi, ts, ns, os) := rfl
   refine AWP_skip ?_
   simp only [go_sem]
   refine hK4 _ ?_
   refine AWP_seq_k fun K7 hK7 => ?_
   refine AWP_wk (Wk_keep _ [2, 3, 5] [132, 148, 404, 405, 406, 407, 408, 409, 410, 411]) ?_
   simp (maxSteps := 2000000) only [go_sem]
   refine AWP_region (G := G) (T := T_mHx123) T_mHx123_ok ?_
   simp only [go_sem]
   repeat (with_reducible refine And.intro (by first | omega | exact ⟨rfl, by omega, by omega, by omega⟩ | assumption | exact ⟨by omega, by omega⟩ | (refine ⟨by omega, ?_⟩; simp only [ctP] at *; omega)) ?_)
   refine hK7 _ ?_
   refine AWP_seq_k fun K8 hK8 => ?_
   refine AWP_seq_k fun K9 hK9 => ?_
   refine AWP_region (G := G) (T := T_mHx123) T_mHx123_ok ?_
   simp only [go_sem]
   repeat (with_reducible refine And.intro (by first | omega | exact ⟨rfl, by omega, by omega, by omega⟩ | assumption | exact ⟨by omega, by omega⟩ | (refine ⟨by omega, ?_⟩; simp only [ctP] at *; omega)) ?_)
   refine hK9 _ ?_
   refine AWP_cond rfl ?_ ?_
   ·
    intro c1
    try simp only [decide_eq_true_eq, decide_eq_false_iff_not, Bool.not_eq_true', Bool.not_eq_false', ne_eq, Int.not_lt, Int.not_le] at c1
    refine AWP_seq_k fun K10 hK10 => ?_
    refine AWP_region (G := G) (T := T_mHx123) T_mHx123_ok ?_
    simp only [go_sem]
    repeat (with_reducible refine And.intro (by first | omega | exact ⟨rfl, by omega, by omega, by omega⟩ | assumption | exact ⟨by omega, by omega⟩ | (refine ⟨by omega, ?_⟩; simp only [ctP] at *; omega)) ?_)
    refine hK10 _ ?_
    refine AWP_ret ?_
    simp only [hres, go_sem]
    first
      | exact finOk_mk (by rfl) (by decide)
      | refine ⟨?_, finOk_mk (by rfl) (by decide)⟩
        rfl
   ·
    intro c1
    try simp only [decide_eq_true_eq, decide_eq_false_iff_not, Bool.not_eq_true', Bool.not_eq_false', ne_eq, Int.not_lt, Int.not_le] at c1
    obtain ⟨e1, e1'⟩ := szR_ge' c1
    have f1 : fitsP (pi2, ts2, ns2, os2) := fitsP_sz (by omega)
    have g1 := ctP_le (pi2, ts2, ns2, os2)
    have hz1 : ctP (0, ts2, ns2, os2) = ctP (pi2, ts2, ns2, os2) := rfl
    have hn1 : decide (1 + (ctP (0, ts, ns, os) : Int) + (ctP (0, ts2, ns2, os2) : Int) < 0) = false := decide_eq_false (by omega)
    refine AWP_skip ?_
    simp only [go_sem]
    refine hK8 _ ?_
    refine AWP_seq_k fun K11 hK11 => ?_
    refine AWP_wk (Wk_keep _ [2, 3] [132, 148]) ?_
    simp (maxSteps := 2000000) only [go_sem]
    refine AWP_draw (G := G) (T := T_mHx123) T_mHx123_ok mixed
      [[], [0], [], [0, 1, 2], [0, 1, 2, 3], [0, 1, 2, 3, 4], [0, 1, 2, 3, 4, 5], [0, 1, 2, 3, 4, 5], [0, 1, 2, 3, 4, 5, 6], [0, 1, 2, 3, 4, 5, 6, 7, 8]]
      [[], [], [564, 565, 566, 567, 568, 569, 570, 571, 572, 573, 574, 575, 576, 577, 578, 579], [], [], [], [], [], [], []]
      [[], [564, 565, 566, 567, 568, 569, 570, 571, 572, 573, 574, 575, 576, 577, 578, 579], [], [], [], [], [], [], [], []] (by kernel_rfl) (by kernel_rfl) (adrawR_ok (acc := []) ?_)
    simp (maxSteps := 2000000) only [hU, eqD_rfl, hn1, hUh0, hUn0, go_sem]
    repeat (with_reducible refine And.intro (by first | exact chk_leaf (by kernel_rfl) | omega | exact ⟨rfl, by omega, by omega, by omega⟩ | assumption | exact ⟨by omega, by omega⟩ | (refine ⟨by omega, ?_⟩; simp only [ctP] at *; omega)) ?_)
    refine hK11 _ ?_
    refine AWP_seq_k fun K12 hK12 => ?_
    refine AWP_wk (Wk_keep _ [2, 3, 6, 7] [132, 148, 612, 613, 614, 615, 616, 617, 618, 619]) ?_
    simp (maxSteps := 2000000) only [go_sem]
    refine AWP_region (G := G) (T := T_mHx123) T_mHx123_ok ?_
    simp only [hU, eqD_rfl, hn1, hUh0, hUn0, go_sem]
    repeat (with_reducible refine And.intro (by first | omega | exact ⟨rfl, by omega, by omega, by omega⟩ | assumption | exact ⟨by omega, by omega⟩ | (refine ⟨by omega, ?_⟩; simp only [ctP] at *; omega)) ?_)
    refine hK12 _ ?_
    refine AWP_seq_k fun K13 hK13 => ?_
    refine AWP_wk (Wk_keep _ [2, 3, 6, 7, 8] [132, 148, 228, 612, 613, 614, 615, 616, 617, 618, 619, 676, 677, 678, 679, 680, 681, 682, 683]) ?_
    simp (maxSteps := 2000000) only [go_sem]
    refine AWP_region (G := G) (T := T_mHx123) T_mHx123_ok ?_
    simp only [hU, eqD_rfl, hn1, hUh0, hUn0, go_sem]
    repeat (with_reducible refine And.intro (by first | omega | exact ⟨rfl, by omega, by omega, by omega⟩ | assumption | exact ⟨by omega, by omega⟩ | (refine ⟨by omega, ?_⟩; simp only [ctP] at *; omega)) ?_)
    refine hK13 _ ?_
    refine AWP_seq_k fun K14 hK14 => ?_
    refine AWP_wk (Wk_keep _ [2, 3, 6, 7, 8, 9] [132, 148, 228, 244, 612, 613, 614, 615, 616, 617, 618, 619, 676, 677, 678, 679, 680, 681, 682, 683, 708, 709, 710, 711, 712, 713, 714, 715]) ?_
    simp (maxSteps := 2000000) only [go_sem]
    refine AWP_region (G := G) (T := T_mHx123) T_mHx123_ok ?_
    simp (maxSteps := 2000000) only [hU, eqD_rfl, hn1, hUh0, hUn0, go_sem]
    repeat (with_reducible refine And.intro (by first | omega | exact ⟨rfl, by omega, by omega, by omega⟩ | assumption | exact ⟨by omega, by omega⟩ | (refine ⟨by omega, ?_⟩; simp only [ctP] at *; omega)) ?_)
    refine hK14 _ ?_
    refine AWP_seq_k fun K15 hK15 => ?_
    refine AWP_seq_k fun K16 hK16 => ?_
    refine AWP_wk (Wk_keep _ [2, 3, 6, 7, 8, 9, 10, 11] [132, 148, 228, 244, 612, 613, 614, 615, 616, 617, 618, 619, 676, 677, 678, 679, 680, 681, 682, 683, 708, 709, 710, 711, 712, 713, 714, 715, 772, 773, 774, 775, 776, 777, 778, 779]) ?_
    simp (maxSteps := 2000000) only [go_sem]
    refine AWP_region (G := G) (T := T_mHx123) T_mHx123_ok ?_
    simp (maxSteps := 2000000) only [hU, eqD_rfl, hn1, hUh0, hUn0, go_sem]
    repeat' (first | (with_reducible refine And.intro (by first | omega | exact ⟨rfl, by omega, by omega, by omega⟩ | assumption | exact ⟨by omega, by omega⟩ | (refine ⟨by omega, ?_⟩; simp only [ctP] at *; omega)) ?_) | (with_reducible refine gcase_dt (fun g12 => ?_) (fun g12 => ?_)) | (with_reducible refine gcase_df (fun g12 => ?_) (fun g12 => ?_)) | (with_reducible refine gcase_ndt (fun g12 => ?_) (fun g12 => ?_)) | (with_reducible refine gcase_ndf (fun g12 => ?_) (fun g12 => ?_)) | (with_reducible refine gcase_nt (fun g12 => ?_) (fun g12 => ?_)) | (with_reducible refine gcase_nf (fun g12 => ?_) (fun g12 => ?_)) | (with_reducible refine gcase_mk (fun g12 => ?_) (fun g12 => ?_)))
    all_goals
     refine hK16 _ ?_
     refine AWP_cond rfl ?_ ?_
     ·
      intro c2
      try simp only [decide_eq_true_eq, decide_eq_false_iff_not, Bool.not_eq_true', Bool.not_eq_false', ne_eq, Int.not_lt, Int.not_le, Bool.true_eq_false, Bool.false_eq_true] at c2
      all_goals
       all_goals first | (cases c2; done) | (simp at c2; done) | omega
     ·
      intro c2
      try simp only [decide_eq_true_eq, decide_eq_false_iff_not, Bool.not_eq_true', Bool.not_eq_false', ne_eq, Int.not_lt, Int.not_le, Bool.true_eq_false, Bool.false_eq_true] at c2
      all_goals
       refine AWP_skip ?_
       simp only [go_sem]
       refine hK15 _ ?_
       refine AWP_seq_k fun K17 hK17 => ?_
       refine AWP_seq_k fun K18 hK18 => ?_
       refine AWP_wk (Wk_keep _ [2, 3, 6, 7, 8, 9, 10, 11] [132, 148, 228, 244, 612, 613, 614, 615, 616, 617, 618, 619, 676, 677, 678, 679, 680, 681, 682, 683, 708, 709, 710, 711, 712, 713, 714, 715, 772, 773, 774, 775, 776, 777, 778, 779]) ?_
       simp (maxSteps := 2000000) only [go_sem]
       refine AWP_draw (G := G) (T := T_mHx123) T_mHx123_ok mixed
         [[], [], [1], [0, 1, 2], [0, 1, 2, 3]]
         [[996, 997, 998, 999, 1000, 1001, 1002, 1003, 1004, 1005, 1006, 1007, 1008, 1009, 1010, 1011], [], [], [], []]
         [[], [], [996, 997, 998, 999, 1000, 1001, 1002, 1003, 1004, 1005, 1006, 1007, 1008, 1009, 1010, 1011], [], []] (by kernel_rfl) (by kernel_rfl) (adrawR_ok (acc := []) ?_)
       simp (maxSteps := 2000000) only [hU, eqD_rfl, hn1, hUh0, hUn0, go_sem]
       repeat (with_reducible refine And.intro (by first | exact chk_leaf (by kernel_rfl) | omega | exact ⟨rfl, by omega, by omega, by omega⟩ | assumption | exact ⟨by omega, by omega⟩ | (refine ⟨by omega, ?_⟩; simp only [ctP] at *; omega)) ?_)
       refine hK18 _ ?_
       refine AWP_cond rfl ?_ ?_
       ·
        intro c3
        try simp only [decide_eq_true_eq, decide_eq_false_iff_not, Bool.not_eq_true', Bool.not_eq_false', ne_eq, Int.not_lt, Int.not_le, Bool.true_eq_false, Bool.false_eq_true] at c3
        all_goals
         all_goals first | (cases c3; done) | (simp at c3; done) | omega
       ·
        intro c3
        try simp only [decide_eq_true_eq, decide_eq_false_iff_not, Bool.not_eq_true', Bool.not_eq_false', ne_eq, Int.not_lt, Int.not_le, Bool.true_eq_false, Bool.false_eq_true] at c3
        all_goals
         refine AWP_skip ?_
         simp only [go_sem]
         refine hK17 _ ?_
         refine AWP_seq_k fun K19 hK19 => ?_
         refine AWP_seq_k fun K20 hK20 => ?_
         refine AWP_wk (Wk_keep _ [2, 3, 6, 7, 8, 9, 10, 11] [132, 148, 228, 244, 612, 613, 614, 615, 616, 617, 618, 619, 676, 677, 678, 679, 680, 681, 682, 683, 708, 709, 710, 711, 712, 713, 714, 715, 772, 773, 774, 775, 776, 777, 778, 779]) ?_
         simp (maxSteps := 2000000) only [go_sem]
         refine AWP_draw (G := G) (T := T_mHx123) T_mHx123_ok mixed
           [[], [], [1], [0, 1, 2], [0, 1, 2, 3]]
           [[1076, 1077, 1078, 1079, 1080, 1081, 1082, 1083, 1084, 1085, 1086, 1087, 1088, 1089, 1090, 1091], [], [], [], []]
           [[], [], [1076, 1077, 1078, 1079, 1080, 1081, 1082, 1083, 1084, 1085, 1086, 1087, 1088, 1089, 1090, 1091], [], []] (by kernel_rfl) (by kernel_rfl) (adrawR_ok (acc := []) ?_)
         simp (maxSteps := 2000000) only [hU, eqD_rfl, hn1, hUh0, hUn0, go_sem]
         repeat (with_reducible refine And.intro (by first | exact chk_leaf (by kernel_rfl) | omega | exact ⟨rfl, by omega, by omega, by omega⟩ | assumption | exact ⟨by omega, by omega⟩ | (refine ⟨by omega, ?_⟩; simp only [ctP] at *; omega)) ?_)
         refine hK20 _ ?_
         refine AWP_cond rfl ?_ ?_
         ·
          intro c4
          try simp only [decide_eq_true_eq, decide_eq_false_iff_not, Bool.not_eq_true', Bool.not_eq_false', ne_eq, Int.not_lt, Int.not_le, Bool.true_eq_false, Bool.false_eq_true] at c4
          all_goals
           all_goals first | (cases c4; done) | (simp at c4; done) | omega
         ·
          intro c4
          try simp only [decide_eq_true_eq, decide_eq_false_iff_not, Bool.not_eq_true', Bool.not_eq_false', ne_eq, Int.not_lt, Int.not_le, Bool.true_eq_false, Bool.false_eq_true] at c4
          all_goals
           refine AWP_skip ?_
           simp only [go_sem]
           refine hK19 _ ?_
           refine AWP_seq_k fun K21 hK21 => ?_
           refine AWP_region (G := G) (T := T_mHx123) T_mHx123_ok ?_
           simp only [hU, eqD_rfl, hn1, hUh0, hUn0, go_sem]
           repeat (with_reducible refine And.intro (by first | omega | exact ⟨rfl, by omega, by omega, by omega⟩ | assumption | exact ⟨by omega, by omega⟩ | (refine ⟨by omega, ?_⟩; simp only [ctP] at *; omega)) ?_)
           refine hK21 _ ?_
           refine AWP_seq_k fun K22 hK22 => ?_
           refine AWP_wk (Wk_keep _ [2, 3, 6, 7, 8, 9, 10, 11, 12] [132, 148, 228, 244, 612, 613, 614, 615, 616, 617, 618, 619, 676, 677, 678, 679, 680, 681, 682, 683, 708, 709, 710, 711, 712, 713, 714, 715, 772, 773, 774, 775, 776, 777, 778, 779]) ?_
           simp (maxSteps := 2000000) only [go_sem]
           refine AWP_region (G := G) (T := T_mHx123) T_mHx123_ok ?_
           simp only [hU, eqD_rfl, hn1, hUh0, hUn0, go_sem]
           repeat (with_reducible refine And.intro (by first | omega | exact ⟨rfl, by omega, by omega, by omega⟩ | assumption | exact ⟨by omega, by omega⟩ | (refine ⟨by omega, ?_⟩; simp only [ctP] at *; omega)) ?_)
           refine hK22 _ ?_
           refine AWP_seq_k fun K23 hK23 => ?_
           refine AWP_wk (Wk_keep _ [2, 3, 6, 7, 9, 10, 11, 12] [132, 148, 244, 612, 613, 614, 615, 616, 617, 618, 619, 708, 709, 710, 711, 712, 713, 714, 715, 772, 773, 774, 775, 776, 777, 778, 779, 1156, 1157, 1158, 1159, 1160, 1161, 1162, 1163]) ?_
           simp (maxSteps := 2000000) only [go_sem]
           refine AWP_region (G := G) (T := T_mHx123) T_mHx123_ok ?_
           simp only [hU, eqD_rfl, hn1, hUh0, hUn0, go_sem]
           repeat (with_reducible refine And.intro (by first | omega | exact ⟨rfl, by omega, by omega, by omega⟩ | assumption | exact ⟨by omega, by omega⟩ | (refine ⟨by omega, ?_⟩; simp only [ctP] at *; omega)) ?_)
           refine hK23 _ ?_
           refine AWP_seq_k fun K24 hK24 => ?_
           refine AWP_seq_k fun K25 hK25 => ?_
           refine AWP_wk (Wk_keep _ [2, 3, 6, 7, 10, 11, 12] [132, 148, 612, 613, 614, 615, 616, 617, 618, 619, 772, 773, 774, 775, 776, 777, 778, 779, 1204, 1205, 1206, 1207, 1208, 1209, 1210, 1211]) ?_
           simp (maxSteps := 2000000) only [go_sem]
           refine AWP_region (G := G) (T := T_mHx123) T_mHx123_ok ?_
           simp (maxSteps := 2000000) only [hU, eqD_rfl, hn1, hUh0, hUn0, go_sem]
           repeat' (first | (with_reducible refine And.intro (by first | omega | exact ⟨rfl, by omega, by omega, by omega⟩ | assumption | exact ⟨by omega, by omega⟩ | (refine ⟨by omega, ?_⟩; simp only [ctP] at *; omega)) ?_) | (with_reducible refine gcase_dt (fun g21 => ?_) (fun g21 => ?_)) | (with_reducible refine gcase_df (fun g21 => ?_) (fun g21 => ?_)) | (with_reducible refine gcase_ndt (fun g21 => ?_) (fun g21 => ?_)) | (with_reducible refine gcase_ndf (fun g21 => ?_) (fun g21 => ?_)) | (with_reducible refine gcase_nt (fun g21 => ?_) (fun g21 => ?_)) | (with_reducible refine gcase_nf (fun g21 => ?_) (fun g21 => ?_)) | (with_reducible refine gcase_mk (fun g21 => ?_) (fun g21 => ?_)))
           all_goals
            refine hK25 _ ?_
            refine AWP_cond rfl ?_ ?_
            ·
             intro c5
             try simp only [decide_eq_true_eq, decide_eq_false_iff_not, Bool.not_eq_true', Bool.not_eq_false', ne_eq, Int.not_lt, Int.not_le, Bool.true_eq_false, Bool.false_eq_true] at c5
             all_goals
              all_goals first | (cases c5; done) | (simp at c5; done) | omega
            ·
             intro c5
             try simp only [decide_eq_true_eq, decide_eq_false_iff_not, Bool.not_eq_true', Bool.not_eq_false', ne_eq, Int.not_lt, Int.not_le, Bool.true_eq_false, Bool.false_eq_true] at c5
             all_goals
              refine AWP_skip ?_
              simp only [go_sem]
              refine hK24 _ ?_
              refine AWP_seq_k fun K26 hK26 => ?_
              refine AWP_region (G := G) (T := T_mHx123) T_mHx123_ok ?_
              simp only [hU, eqD_rfl, hn1, hUh0, hUn0, go_sem]
              repeat (with_reducible refine And.intro (by first | omega | exact ⟨rfl, by omega, by omega, by omega⟩ | assumption | exact ⟨by omega, by omega⟩ | (refine ⟨by omega, ?_⟩; simp only [ctP] at *; omega)) ?_)
              refine hK26 _ ?_
              refine AWP_seq_k fun K27 hK27 => ?_
              refine AWP_wk (Wk_keep _ [2, 3, 6, 7, 10, 13] [132, 148, 612, 613, 614, 615, 616, 617, 618, 619, 772, 773, 774, 775, 776, 777, 778, 779]) ?_
              simp (maxSteps := 2000000) only [go_sem]
              refine AWP_region (G := G) (T := T_mHx123) T_mHx123_ok ?_
              simp only [hU, eqD_rfl, hn1, hUh0, hUn0, go_sem]
              repeat (with_reducible refine And.intro (by first | omega | exact ⟨rfl, by omega, by omega, by omega⟩ | assumption | exact ⟨by omega, by omega⟩ | (refine ⟨by omega, ?_⟩; simp only [ctP] at *; omega)) ?_)
              refine hK27 _ ?_
              refine AWP_seq_k fun K28 hK28 => ?_
              refine AWP_region (G := G) (T := T_mHx123) T_mHx123_ok ?_
              simp only [hU, eqD_rfl, hn1, hUh0, hUn0, go_sem]
              repeat (with_reducible refine And.intro (by first | omega | exact ⟨rfl, by omega, by omega, by omega⟩ | assumption | exact ⟨by omega, by omega⟩ | (refine ⟨by omega, ?_⟩; simp only [ctP] at *; omega)) ?_)
              refine hK28 _ ?_
              refine AWP_seq_k fun K29 hK29 => ?_
              refine AWP_wk (Wk_keep _ [2, 3, 6, 7, 10, 13, 14] [132, 148, 612, 613, 614, 615, 616, 617, 618, 619, 772, 773, 774, 775, 776, 777, 778, 779, 1460, 1461, 1462, 1463, 1464, 1465, 1466, 1467]) ?_
              simp (maxSteps := 2000000) only [go_sem]
              refine AWP_region (G := G) (T := T_mHx123) T_mHx123_ok ?_
              simp only [hU, eqD_rfl, hn1, hUh0, hUn0, go_sem]
              repeat (with_reducible refine And.intro (by first | omega | exact ⟨rfl, by omega, by omega, by omega⟩ | assumption | exact ⟨by omega, by omega⟩ | (refine ⟨by omega, ?_⟩; simp only [ctP] at *; omega)) ?_)
              refine hK29 _ ?_
              refine AWP_seq_k fun K30 hK30 => ?_
              refine AWP_seq_k fun K31 hK31 => ?_
              refine AWP_region (G := G) (T := T_mHx123) T_mHx123_ok ?_
              simp only [hU, eqD_rfl, hn1, hUh0, hUn0, go_sem]
              repeat (with_reducible refine And.intro (by first | omega | exact ⟨rfl, by omega, by omega, by omega⟩ | assumption | exact ⟨by omega, by omega⟩ | (refine ⟨by omega, ?_⟩; simp only [ctP] at *; omega)) ?_)
              refine hK31 _ ?_
              refine AWP_cond rfl ?_ ?_
              ·
               intro c6
               try simp only [decide_eq_true_eq, decide_eq_false_iff_not, Bool.not_eq_true', Bool.not_eq_false', ne_eq, Int.not_lt, Int.not_le, Bool.true_eq_false, Bool.false_eq_true] at c6
               all_goals
                all_goals first | (cases c6; done) | (simp at c6; done) | omega
              ·
               intro c6
               try simp only [decide_eq_true_eq, decide_eq_false_iff_not, Bool.not_eq_true', Bool.not_eq_false', ne_eq, Int.not_lt, Int.not_le, Bool.true_eq_false, Bool.false_eq_true] at c6
               all_goals
                refine AWP_skip ?_
                simp only [go_sem]
                refine hK30 _ ?_
                refine AWP_seq_k fun K32 hK32 => ?_
                refine AWP_seq_k fun K33 hK33 => ?_
                refine AWP_region (G := G) (T := T_mHx123) T_mHx123_ok ?_
                simp only [hU, eqD_rfl, hn1, hUh0, hUn0, go_sem]
                repeat (with_reducible refine And.intro (by first | omega | exact ⟨rfl, by omega, by omega, by omega⟩ | assumption | exact ⟨by omega, by omega⟩ | (refine ⟨by omega, ?_⟩; simp only [ctP] at *; omega)) ?_)
                refine hK33 _ ?_
                refine AWP_cond rfl ?_ ?_
                ·
                 intro c7
                 try simp only [decide_eq_true_eq, decide_eq_false_iff_not, Bool.not_eq_true', Bool.not_eq_false', ne_eq, Int.not_lt, Int.not_le, Bool.true_eq_false, Bool.false_eq_true] at c7
                 all_goals
                  all_goals first | (cases c7; done) | (simp at c7; done) | omega
                ·
                 intro c7
                 try simp only [decide_eq_true_eq, decide_eq_false_iff_not, Bool.not_eq_true', Bool.not_eq_false', ne_eq, Int.not_lt, Int.not_le, Bool.true_eq_false, Bool.false_eq_true] at c7
                 all_goals
                  refine AWP_skip ?_
                  simp only [go_sem]
                  refine hK32 _ ?_
                  refine AWP_seq_k fun K34 hK34 => ?_
                  refine AWP_wk (Wk_keep _ [2, 3, 6, 7, 10, 13] [132, 148, 612, 613, 614, 615, 616, 617, 618, 619, 772, 773, 774, 775, 776, 777, 778, 779, 1460, 1461, 1462, 1463, 1464, 1465, 1466, 1467]) ?_
                  simp (maxSteps := 2000000) only [go_sem]
                  refine AWP_draw (G := G) (T := T_mHx123) T_mHx123_ok mixed
                    [[], [0], [], [0, 1, 2], [0, 1, 2, 3], [0, 1, 2, 3, 4], [0, 1, 2, 3, 4, 5], [0, 1, 2, 3, 4, 5], [0, 1, 2, 3, 4, 5, 6], [0, 1, 2, 3, 4, 5, 6, 7, 8]]
                    [[], [], [1636, 1637, 1638, 1639, 1640, 1641, 1642, 1643, 1644, 1645, 1646, 1647, 1648, 1649, 1650, 1651], [], [], [], [], [], [], []]
                    [[], [1636, 1637, 1638, 1639, 1640, 1641, 1642, 1643, 1644, 1645, 1646, 1647, 1648, 1649, 1650, 1651], [], [], [], [], [], [], [], []] (by kernel_rfl) (by kernel_rfl) (adrawR_ok (acc := []) ?_)
                  simp (maxSteps := 2000000) only [hU, eqD_rfl, hn1, hUh0, hUn0, go_sem]
                  repeat (with_reducible refine And.intro (by first | exact chk_leaf (by kernel_rfl) | omega | exact ⟨rfl, by omega, by omega, by omega⟩ | assumption | exact ⟨by omega, by omega⟩ | (refine ⟨by omega, ?_⟩; simp only [ctP] at *; omega)) ?_)
                  refine hK34 _ ?_
                  refine AWP_seq_k fun K35 hK35 => ?_
                  refine AWP_seq_k fun K36 hK36 => ?_
                  refine AWP_wk (Wk_keep _ [6, 7, 10, 13, 15, 16] [612, 613, 614, 615, 616, 617, 618, 619, 772, 773, 774, 775, 776, 777, 778, 779, 1460, 1461, 1462, 1463, 1464, 1465, 1466, 1467, 1684, 1685, 1686, 1687, 1688, 1689, 1690, 1691]) ?_
                  simp (maxSteps := 2000000) only [go_sem]
                  refine AWP_region (G := G) (T := T_mHx123) T_mHx123_ok ?_
                  simp (maxSteps := 2000000) only [hU, eqD_rfl, hn1, hUh0, hUn0, go_sem]
                  repeat' (first | (with_reducible refine And.intro (by first | omega | exact ⟨rfl, by omega, by omega, by omega⟩ | assumption | exact ⟨by omega, by omega⟩ | (refine ⟨by omega, ?_⟩; simp only [ctP] at *; omega)) ?_) | (with_reducible refine gcase_dt (fun g32 => ?_) (fun g32 => ?_)) | (with_reducible refine gcase_df (fun g32 => ?_) (fun g32 => ?_)) | (with_reducible refine gcase_ndt (fun g32 => ?_) (fun g32 => ?_)) | (with_reducible refine gcase_ndf (fun g32 => ?_) (fun g32 => ?_)) | (with_reducible refine gcase_nt (fun g32 => ?_) (fun g32 => ?_)) | (with_reducible refine gcase_nf (fun g32 => ?_) (fun g32 => ?_)) | (with_reducible refine gcase_mk (fun g32 => ?_) (fun g32 => ?_)))
                  all_goals
                   refine hK36 _ ?_
                   refine AWP_cond rfl ?_ ?_
                   ·
                    intro c8
                    try simp only [decide_eq_true_eq, decide_eq_false_iff_not, Bool.not_eq_true', Bool.not_eq_false', ne_eq, Int.not_lt, Int.not_le, Bool.true_eq_false, Bool.false_eq_true] at c8
                    all_goals
                     all_goals first | (cases c8; done) | (simp at c8; done) | omega
                   ·
                    intro c8
                    try simp only [decide_eq_true_eq, decide_eq_false_iff_not, Bool.not_eq_true', Bool.not_eq_false', ne_eq, Int.not_lt, Int.not_le, Bool.true_eq_false, Bool.false_eq_true] at c8
                    all_goals
                     refine AWP_skip ?_
                     simp only [go_sem]
                     refine hK35 _ ?_
                     refine AWP_seq_k fun K37 hK37 => ?_
                     refine AWP_region (G := G) (T := T_mHx123) T_mHx123_ok ?_
                     simp only [hU, eqD_rfl, hn1, hUh0, hUn0, go_sem]
                     repeat (with_reducible refine And.intro (by first | omega | exact ⟨rfl, by omega, by omega, by omega⟩ | assumption | exact ⟨by omega, by omega⟩ | (refine ⟨by omega, ?_⟩; simp only [ctP] at *; omega)) ?_)
                     refine hK37 _ ?_
                     refine AWP_seq_k fun K38 hK38 => ?_
                     refine AWP_wk (Wk_keep _ [10, 13, 14] [772, 773, 774, 775, 776, 777, 778, 779, 1460, 1461, 1462, 1463, 1464, 1465, 1466, 1467]) ?_
                     simp (maxSteps := 2000000) only [go_sem]
                     refine AWP_region (G := G) (T := T_mHx123) T_mHx123_ok ?_
                     simp only [hU, eqD_rfl, hn1, hUh0, hUn0, go_sem]
                     repeat (with_reducible refine And.intro (by first | omega | exact ⟨rfl, by omega, by omega, by omega⟩ | assumption | exact ⟨by omega, by omega⟩ | (refine ⟨by omega, ?_⟩; simp only [ctP] at *; omega)) ?_)
                     refine hK38 _ ?_
                     refine AWP_seq_k fun K39 hK39 => ?_
                     refine AWP_seq_k fun K40 hK40 => ?_
                     refine AWP_region (G := G) (T := T_mHx123) T_mHx123_ok ?_
                     simp only [hU, eqD_rfl, hn1, hUh0, hUn0, go_sem]
                     repeat (with_reducible refine And.intro (by first | omega | exact ⟨rfl, by omega, by omega, by omega⟩ | assumption | exact ⟨by omega, by omega⟩ | (refine ⟨by omega, ?_⟩; simp only [ctP] at *; omega)) ?_)
                     refine hK40 _ ?_
                     refine AWP_cond rfl ?_ ?_
                     ·
                      intro c9
                      try simp only [decide_eq_true_eq, decide_eq_false_iff_not, Bool.not_eq_true', Bool.not_eq_false', ne_eq, Int.not_lt, Int.not_le, Bool.true_eq_false, Bool.false_eq_true] at c9
                      all_goals
                       all_goals first | (cases c9; done) | (simp at c9; done) | omega
                     ·
                      intro c9
                      try simp only [decide_eq_true_eq, decide_eq_false_iff_not, Bool.not_eq_true', Bool.not_eq_false', ne_eq, Int.not_lt, Int.not_le, Bool.true_eq_false, Bool.false_eq_true] at c9
                      all_goals
                       refine AWP_skip ?_
                       simp only [go_sem]
                       refine hK39 _ ?_
                       refine AWP_seq_k fun K41 hK41 => ?_
                       refine AWP_seq_k fun K42 hK42 => ?_
                       refine AWP_region (G := G) (T := T_mHx123) T_mHx123_ok ?_
                       simp only [hU, eqD_rfl, hn1, hUh0, hUn0, go_sem]
                       repeat (with_reducible refine And.intro (by first | omega | exact ⟨rfl, by omega, by omega, by omega⟩ | assumption | exact ⟨by omega, by omega⟩ | (refine ⟨by omega, ?_⟩; simp only [ctP] at *; omega)) ?_)
                       refine hK42 _ ?_
                       refine AWP_cond rfl ?_ ?_
                       ·
                        intro c10
                        try simp only [decide_eq_true_eq, decide_eq_false_iff_not, Bool.not_eq_true', Bool.not_eq_false', ne_eq, Int.not_lt, Int.not_le, Bool.true_eq_false, Bool.false_eq_true] at c10
                        all_goals
                         all_goals first | (cases c10; done) | (simp at c10; done) | omega
                       ·
                        intro c10
                        try simp only [decide_eq_true_eq, decide_eq_false_iff_not, Bool.not_eq_true', Bool.not_eq_false', ne_eq, Int.not_lt, Int.not_le, Bool.true_eq_false, Bool.false_eq_true] at c10
                        all_goals
                         refine AWP_skip ?_
                         simp only [go_sem]
                         refine hK41 _ ?_
                         refine AWP_seq_k fun K43 hK43 => ?_
                         refine AWP_region (G := G) (T := T_mHx123) T_mHx123_ok ?_
                         simp only [hU, eqD_rfl, hn1, hUh0, hUn0, go_sem]
                         repeat (with_reducible refine And.intro (by first | omega | exact ⟨rfl, by omega, by omega, by omega⟩ | assumption | exact ⟨by omega, by omega⟩ | (refine ⟨by omega, ?_⟩; simp only [ctP] at *; omega)) ?_)
                         refine hK43 _ ?_
                         refine AWP_ret ?_
                         simp only [hres, go_sem]
                         first
                           | exact finOk_mk (by rfl) (by decide)
                           | refine ⟨?_, finOk_mk (by rfl) (by decide)⟩
                             rfl

theorem lawMatch_fn : FnOk Tryz.prog 3 := fnOk_of Tryz.func3 rfl (by decide)

def T_lawMatch : Tab := fun f => if f = 3 then some (.p K_lawMatch) else T_mHx123 f
theorem T_lawMatch_ok : TabOk Tryz.prog T_lawMatch := fun f k h => by
  unfold T_lawMatch at h
  split at h
  · rename_i e; cases h; subst e; exact ⟨lawMatch_ok, lawMatch_fn⟩
  · exact T_mHx123_ok f k h
attribute [go_sem] T_lawMatch K_lawMatch

end Go.Proofs.YthfopaimihmgiaaGreat
