/-
  Contracts of functions: FnExactSameOutputs.
-/
import Derived.Test.YthfopaimihmgiaaHl1
import Derived.Test.YthfopaimihmgiaaHl2
import Derived.Test.YthfopaimihmgiaaHl4
import Derived.Test.YthfopaimihmgiaaHc8
import Derived.Test.YthfopaimihmgiaaHc9
import Derived.Test.YthfopaimihmgiaaGp
namespace Go.Proofs.Ythfopaimihmgiaa
open Go.RowKit
set_option linter.unusedSimpArgs false
set_option linter.unusedVariables false

def T_mHx100 : Tab := fun f => match T_toP f with
  | some k => some k
  | none => T_eqP f
theorem T_mHx100_ok : TabOk Try.prog T_mHx100 := fun f k h => by
  unfold T_mHx100 at h
  split at h
  · rename_i e; cases h; exact T_toP_ok f _ e
  · exact T_eqP_ok f k h
attribute [go_sem] T_mHx100 T0


def T_mHx101 : Tab := fun f => match T_mHx100 f with
  | some k => some k
  | none => T_markP f
theorem T_mHx101_ok : TabOk Try.prog T_mHx101 := fun f k h => by
  unfold T_mHx101 at h
  split at h
  · rename_i e; cases h; exact T_mHx100_ok f _ e
  · exact T_markP_ok f k h
attribute [go_sem] T_mHx101 T0


def T_mHx102 : Tab := fun f => match T_mHx101 f with
  | some k => some k
  | none => T_implSameO f
theorem T_mHx102_ok : TabOk Try.prog T_mHx102 := fun f k h => by
  unfold T_mHx102 at h
  split at h
  · rename_i e; cases h; exact T_mHx101_ok f _ e
  · exact T_implSameO_ok f k h
attribute [go_sem] T_mHx102 T0


def T_mHx103 : Tab := fun f => match T_mHx102 f with
  | some k => some k
  | none => T_specSameO f
theorem T_mHx103_ok : TabOk Try.prog T_mHx103 := fun f k h => by
  unfold T_mHx103 at h
  split at h
  · rename_i e; cases h; exact T_mHx102_ok f _ e
  · exact T_specSameO_ok f k h
attribute [go_sem] T_mHx103 T0


def K_lawSameO : Con := ⟨[.val ((.prod (.int .i64) (.prod (.row 24 (.row 2 (.int .i64))) (.prod (.row 76 (.prod (.int .i64) (.prod (.int .i64) (.prod (.int .i64) (.row 2 (.int .i64)))))) (.row 2 (.int .i64)))))), .val ((.prod (.int .i64) (.prod (.row 24 (.row 2 (.int .i64))) (.prod (.row 76 (.prod (.int .i64) (.prod (.int .i64) (.prod (.int .i64) (.row 2 (.int .i64)))))) (.row 2 (.int .i64))))))], [⟨.bool, true⟩], fun _ => True, fun _ => true⟩
set_option maxRecDepth 100000 in
set_option maxHeartbeats 16000000 in
theorem lawSameO_ok : PureT Try.prog 7 K_lawSameO := by
  refine pure_of_body Try.func7 rfl ?_
  have hres : Try.f7.results.toList = [.tmp 4] := rfl
  rintro ⟨⟨(pi : Int), (ts : List (List Int)), (ns : List NodeD), (os : List Int)⟩, ⟨(pi2 : Int), (ts2 : List (List Int)), (ns2 : List NodeD), (os2 : List Int)⟩, _⟩ hc hL
  simp only [K_lawSameO, lensOk, PK.lenOk, glensOk, GP.lenOk, flensOk, GO.lenOk, olensOk, Ty.lenOk, Ty.flat, Bool.and_true, Bool.true_and, Bool.and_false, Bool.false_and, true_and, and_true, implies_true, forall_const] at hL
  simp only [K_lawSameO, St.init, St.initG, Try.ntmps7, go_sem] 
  obtain ⟨U, hU⟩ : ∃ U, sameR (pi, ts, ns, os) (pi2, ts2, ns2, os2) = U := ⟨_, rfl⟩
  refine AWP_seq_k fun K1 hK1 => ?_
  refine AWP_wk (Wk_keep _ [0, 1] []) ?_
  simp (maxSteps := 2000000) only [go_sem]
  refine AWP_region (G := G) (T := T_mHx103) T_mHx103_ok ?_
  simp only [go_sem]
  repeat (with_reducible refine And.intro (by first | omega | exact ⟨rfl, by omega, by omega, by omega⟩ | assumption | exact ⟨by omega, by omega⟩ | (refine ⟨by omega, ?_⟩; simp only [ctP] at *; omega)) ?_)
  refine hK1 _ ?_
  refine AWP_seq_k fun K2 hK2 => ?_
  refine AWP_region (G := G) (T := T_mHx103) T_mHx103_ok ?_
  simp only [go_sem]
  repeat (with_reducible refine And.intro (by first | omega | exact ⟨rfl, by omega, by omega, by omega⟩ | assumption | exact ⟨by omega, by omega⟩ | (refine ⟨by omega, ?_⟩; simp only [ctP] at *; omega)) ?_)
  refine hK2 _ ?_
  refine AWP_seq_k fun K3 hK3 => ?_
  refine AWP_wk (Wk_keep _ [2, 3, 5] [132, 148]) ?_
  simp (maxSteps := 2000000) only [go_sem]
  refine AWP_region (G := G) (T := T_mHx103) T_mHx103_ok ?_
  simp only [go_sem]
  repeat (with_reducible refine And.intro (by first | omega | exact ⟨rfl, by omega, by omega, by omega⟩ | assumption | exact ⟨by omega, by omega⟩ | (refine ⟨by omega, ?_⟩; simp only [ctP] at *; omega)) ?_)
  refine hK3 _ ?_
  refine AWP_seq_k fun K4 hK4 => ?_
  refine AWP_seq_k fun K5 hK5 => ?_
  refine AWP_region (G := G) (T := T_mHx103) T_mHx103_ok ?_
  simp only [go_sem]
  repeat (with_reducible refine And.intro (by first | omega | exact ⟨rfl, by omega, by omega, by omega⟩ | assumption | exact ⟨by omega, by omega⟩ | (refine ⟨by omega, ?_⟩; simp only [ctP] at *; omega)) ?_)
  refine hK5 _ ?_
  refine AWP_cond rfl ?_ ?_
  ·
   intro c0
   try simp only [decide_eq_true_eq, decide_eq_false_iff_not, Bool.not_eq_true', Bool.not_eq_false', ne_eq, Int.not_lt, Int.not_le] at c0
   refine AWP_seq_k fun K6 hK6 => ?_
   refine AWP_region (G := G) (T := T_mHx103) T_mHx103_ok ?_
   simp only [go_sem]
   repeat (with_reducible refine And.intro (by first | omega | exact ⟨rfl, by omega, by omega, by omega⟩ | assumption | exact ⟨by omega, by omega⟩ | (refine ⟨by omega, ?_⟩; simp only [ctP] at *; omega)) ?_)
   refine hK6 _ ?_
   refine AWP_ret ?_
   simp only [hres, go_sem]
   first
     | exact finOk_mk (by rfl) (by decide)
     | refine ⟨?_, finOk_mk (by rfl) (by decide)⟩
       rfl
  ·
   intro c0
   try simp only [decide_eq_true_eq, decide_eq_false_iff_not, Bool.not_eq_true', Bool.not_eq_false', ne_eq, Int.not_lt, Int.not_le] at c0
   obtain ⟨e0, e0'⟩ := szR_ge' c0
   have f0 : fitsP (pi, ts, ns, os) := fitsP_sz (by omega)
   have g0 := ctP_le (pi, ts, ns, os)
   have hz0 : ctP (0, ts, ns, os) = ctP (pi, ts, ns, os) := rfl
   refine AWP_skip ?_
   simp only [go_sem]
   refine hK4 _ ?_
   refine AWP_seq_k fun K7 hK7 => ?_
   refine AWP_wk (Wk_keep _ [2, 3, 5] [132, 148, 324, 325, 326, 327, 328, 329, 330, 331]) ?_
   simp (maxSteps := 2000000) only [go_sem]
   refine AWP_region (G := G) (T := T_mHx103) T_mHx103_ok ?_
   simp only [go_sem]
   repeat (with_reducible refine And.intro (by first | omega | exact ⟨rfl, by omega, by omega, by omega⟩ | assumption | exact ⟨by omega, by omega⟩ | (refine ⟨by omega, ?_⟩; simp only [ctP] at *; omega)) ?_)
   refine hK7 _ ?_
   refine AWP_seq_k fun K8 hK8 => ?_
   refine AWP_seq_k fun K9 hK9 => ?_
   refine AWP_region (G := G) (T := T_mHx103) T_mHx103_ok ?_
   simp only [go_sem]
   repeat (with_reducible refine And.intro (by first | omega | exact ⟨rfl, by omega, by omega, by omega⟩ | assumption | exact ⟨by omega, by omega⟩ | (refine ⟨by omega, ?_⟩; simp only [ctP] at *; omega)) ?_)
   refine hK9 _ ?_
   refine AWP_cond rfl ?_ ?_
   ·
    intro c1
    try simp only [decide_eq_true_eq, decide_eq_false_iff_not, Bool.not_eq_true', Bool.not_eq_false', ne_eq, Int.not_lt, Int.not_le] at c1
    refine AWP_seq_k fun K10 hK10 => ?_
    refine AWP_region (G := G) (T := T_mHx103) T_mHx103_ok ?_
    simp only [go_sem]
    repeat (with_reducible refine And.intro (by first | omega | exact ⟨rfl, by omega, by omega, by omega⟩ | assumption | exact ⟨by omega, by omega⟩ | (refine ⟨by omega, ?_⟩; simp only [ctP] at *; omega)) ?_)
    refine hK10 _ ?_
    refine AWP_ret ?_
    simp only [hres, go_sem]
    first
      | exact finOk_mk (by rfl) (by decide)
      | refine ⟨?_, finOk_mk (by rfl) (by decide)⟩
        rfl
   ·
    intro c1
    try simp only [decide_eq_true_eq, decide_eq_false_iff_not, Bool.not_eq_true', Bool.not_eq_false', ne_eq, Int.not_lt, Int.not_le] at c1
    obtain ⟨e1, e1'⟩ := szR_ge' c1
    have f1 : fitsP (pi2, ts2, ns2, os2) := fitsP_sz (by omega)
    have g1 := ctP_le (pi2, ts2, ns2, os2)
    have hz1 : ctP (0, ts2, ns2, os2) = ctP (pi2, ts2, ns2, os2) := rfl
    have hn1 : decide (1 + (ctP (0, ts, ns, os) : Int) + (ctP (0, ts2, ns2, os2) : Int) < 0) = false := decide_eq_false (by omega)
    refine AWP_skip ?_
    simp only [go_sem]
    refine hK8 _ ?_
    refine AWP_seq_k fun K11 hK11 => ?_
    refine AWP_wk (Wk_keep _ [2, 3] [132, 148]) ?_
    simp (maxSteps := 2000000) only [go_sem]
    refine AWP_draw (G := G) (T := T_mHx103) T_mHx103_ok mixed
      [[], [0], [], [0, 1, 2], [0, 1, 2, 3], [0, 1, 2, 3, 4], [0, 1, 2, 3, 4, 5], [0, 1, 2, 3, 4, 5], [0, 1, 2, 3, 4, 5, 6], [0, 1, 2, 3, 4, 5, 6, 7, 8]]
      [[], [], [484, 485, 486, 487, 488, 489, 490, 491, 492, 493, 494, 495, 496, 497, 498, 499], [], [], [], [], [], [], []]
      [[], [484, 485, 486, 487, 488, 489, 490, 491, 492, 493, 494, 495, 496, 497, 498, 499], [], [], [], [], [], [], [], []] (by kernel_rfl) (by kernel_rfl) (adrawR_ok (acc := []) ?_)
    simp (maxSteps := 2000000) only [hU, eqD_rfl, hn1, hU, go_sem]
    repeat (with_reducible refine And.intro (by first | exact chk_leaf (by kernel_rfl) | omega | exact ⟨rfl, by omega, by omega, by omega⟩ | assumption | exact ⟨by omega, by omega⟩ | (refine ⟨by omega, ?_⟩; simp only [ctP] at *; omega)) ?_)
    refine hK11 _ ?_
    refine AWP_seq_k fun K12 hK12 => ?_
    refine AWP_wk (Wk_keep _ [2, 3, 6, 7] [132, 148, 532, 533, 534, 535, 536, 537, 538, 539]) ?_
    simp (maxSteps := 2000000) only [go_sem]
    refine AWP_region (G := G) (T := T_mHx103) T_mHx103_ok ?_
    simp only [hU, eqD_rfl, hn1, hU, go_sem]
    repeat (with_reducible refine And.intro (by first | omega | exact ⟨rfl, by omega, by omega, by omega⟩ | assumption | exact ⟨by omega, by omega⟩ | (refine ⟨by omega, ?_⟩; simp only [ctP] at *; omega)) ?_)
    refine hK12 _ ?_
    refine AWP_seq_k fun K13 hK13 => ?_
    refine AWP_wk (Wk_keep _ [2, 3, 6, 7, 8] [132, 148, 228, 532, 533, 534, 535, 536, 537, 538, 539, 596, 597, 598, 599, 600, 601, 602, 603]) ?_
    simp (maxSteps := 2000000) only [go_sem]
    refine AWP_region (G := G) (T := T_mHx103) T_mHx103_ok ?_
    simp only [hU, eqD_rfl, hn1, hU, go_sem]
    repeat (with_reducible refine And.intro (by first | omega | exact ⟨rfl, by omega, by omega, by omega⟩ | assumption | exact ⟨by omega, by omega⟩ | (refine ⟨by omega, ?_⟩; simp only [ctP] at *; omega)) ?_)
    refine hK13 _ ?_
    refine AWP_seq_k fun K14 hK14 => ?_
    refine AWP_wk (Wk_keep _ [2, 3, 6, 7, 8, 9] [132, 148, 228, 244, 532, 533, 534, 535, 536, 537, 538, 539, 596, 597, 598, 599, 600, 601, 602, 603, 628, 629, 630, 631, 632, 633, 634, 635]) ?_
    simp (maxSteps := 2000000) only [go_sem]
    refine AWP_region (G := G) (T := T_mHx103) T_mHx103_ok ?_
    simp (maxSteps := 2000000) only [hU, eqD_rfl, hn1, hU, go_sem]
    repeat (with_reducible refine And.intro (by first | omega | exact ⟨rfl, by omega, by omega, by omega⟩ | assumption | exact ⟨by omega, by omega⟩ | (refine ⟨by omega, ?_⟩; simp only [ctP] at *; omega)) ?_)
    refine hK14 _ ?_
    refine AWP_seq_k fun K15 hK15 => ?_
    refine AWP_seq_k fun K16 hK16 => ?_
    refine AWP_region (G := G) (T := T_mHx103) T_mHx103_ok ?_
    simp (maxSteps := 2000000) only [hU, eqD_rfl, hn1, hU, go_sem]
    repeat' (first | (with_reducible refine And.intro (by first | omega | exact ⟨rfl, by omega, by omega, by omega⟩ | assumption | exact ⟨by omega, by omega⟩ | (refine ⟨by omega, ?_⟩; simp only [ctP] at *; omega)) ?_) | (with_reducible refine gcase_dt (fun g12 => ?_) (fun g12 => ?_)) | (with_reducible refine gcase_df (fun g12 => ?_) (fun g12 => ?_)) | (with_reducible refine gcase_ndt (fun g12 => ?_) (fun g12 => ?_)) | (with_reducible refine gcase_ndf (fun g12 => ?_) (fun g12 => ?_)) | (with_reducible refine gcase_nt (fun g12 => ?_) (fun g12 => ?_)) | (with_reducible refine gcase_nf (fun g12 => ?_) (fun g12 => ?_)) | (with_reducible refine gcase_mk (fun g12 => ?_) (fun g12 => ?_)))
    all_goals
     refine hK16 _ ?_
     refine AWP_cond rfl ?_ ?_
     ·
      intro c2
      try simp only [decide_eq_true_eq, decide_eq_false_iff_not, Bool.not_eq_true', Bool.not_eq_false', ne_eq, Int.not_lt, Int.not_le, Bool.true_eq_false, Bool.false_eq_true] at c2
      all_goals
       all_goals first | (cases c2; done) | (simp at c2; done) | omega
     ·
      intro c2
      try simp only [decide_eq_true_eq, decide_eq_false_iff_not, Bool.not_eq_true', Bool.not_eq_false', ne_eq, Int.not_lt, Int.not_le, Bool.true_eq_false, Bool.false_eq_true] at c2
      all_goals
       refine AWP_skip ?_
       simp only [go_sem]
       refine hK15 _ ?_
       refine AWP_seq_k fun K17 hK17 => ?_
       refine AWP_seq_k fun K18 hK18 => ?_
       refine AWP_wk (Wk_keep _ [2, 3, 8, 9] [132, 148, 228, 244, 596, 597, 598, 599, 600, 601, 602, 603, 628, 629, 630, 631, 632, 633, 634, 635]) ?_
       simp (maxSteps := 2000000) only [go_sem]
       refine AWP_draw (G := G) (T := T_mHx103) T_mHx103_ok mixed
         [[], [], [1], [0, 1, 2], [0, 1, 2, 3]]
         [[900, 901, 902, 903, 904, 905, 906, 907, 908, 909, 910, 911, 912, 913, 914, 915], [], [], [], []]
         [[], [], [900, 901, 902, 903, 904, 905, 906, 907, 908, 909, 910, 911, 912, 913, 914, 915], [], []] (by kernel_rfl) (by kernel_rfl) (adrawR_ok (acc := []) ?_)
       simp (maxSteps := 2000000) only [hU, eqD_rfl, hn1, hU, go_sem]
       repeat (with_reducible refine And.intro (by first | exact chk_leaf (by kernel_rfl) | omega | exact ⟨rfl, by omega, by omega, by omega⟩ | assumption | exact ⟨by omega, by omega⟩ | (refine ⟨by omega, ?_⟩; simp only [ctP] at *; omega)) ?_)
       refine hK18 _ ?_
       refine AWP_cond rfl ?_ ?_
       ·
        intro c3
        try simp only [decide_eq_true_eq, decide_eq_false_iff_not, Bool.not_eq_true', Bool.not_eq_false', ne_eq, Int.not_lt, Int.not_le, Bool.true_eq_false, Bool.false_eq_true] at c3
        all_goals
         all_goals first | (cases c3; done) | (simp at c3; done) | omega
       ·
        intro c3
        try simp only [decide_eq_true_eq, decide_eq_false_iff_not, Bool.not_eq_true', Bool.not_eq_false', ne_eq, Int.not_lt, Int.not_le, Bool.true_eq_false, Bool.false_eq_true] at c3
        all_goals
         refine AWP_skip ?_
         simp only [go_sem]
         refine hK17 _ ?_
         refine AWP_seq_k fun K19 hK19 => ?_
         refine AWP_seq_k fun K20 hK20 => ?_
         refine AWP_wk (Wk_keep _ [3, 9] [148, 244, 628, 629, 630, 631, 632, 633, 634, 635]) ?_
         simp (maxSteps := 2000000) only [go_sem]
         refine AWP_draw (G := G) (T := T_mHx103) T_mHx103_ok mixed
           [[], [], [1], [0, 1, 2], [0, 1, 2, 3]]
           [[980, 981, 982, 983, 984, 985, 986, 987, 988, 989, 990, 991, 992, 993, 994, 995], [], [], [], []]
           [[], [], [980, 981, 982, 983, 984, 985, 986, 987, 988, 989, 990, 991, 992, 993, 994, 995], [], []] (by kernel_rfl) (by kernel_rfl) (adrawR_ok (acc := []) ?_)
         simp (maxSteps := 2000000) only [hU, eqD_rfl, hn1, hU, go_sem]
         repeat (with_reducible refine And.intro (by first | exact chk_leaf (by kernel_rfl) | omega | exact ⟨rfl, by omega, by omega, by omega⟩ | assumption | exact ⟨by omega, by omega⟩ | (refine ⟨by omega, ?_⟩; simp only [ctP] at *; omega)) ?_)
         refine hK20 _ ?_
         refine AWP_cond rfl ?_ ?_
         ·
          intro c4
          try simp only [decide_eq_true_eq, decide_eq_false_iff_not, Bool.not_eq_true', Bool.not_eq_false', ne_eq, Int.not_lt, Int.not_le, Bool.true_eq_false, Bool.false_eq_true] at c4
          all_goals
           all_goals first | (cases c4; done) | (simp at c4; done) | omega
         ·
          intro c4
          try simp only [decide_eq_true_eq, decide_eq_false_iff_not, Bool.not_eq_true', Bool.not_eq_false', ne_eq, Int.not_lt, Int.not_le, Bool.true_eq_false, Bool.false_eq_true] at c4
          all_goals
           refine AWP_skip ?_
           simp only [go_sem]
           refine hK19 _ ?_
           refine AWP_seq_k fun K21 hK21 => ?_
           refine AWP_region (G := G) (T := T_mHx103) T_mHx103_ok ?_
           simp only [hU, eqD_rfl, hn1, hU, go_sem]
           repeat (with_reducible refine And.intro (by first | omega | exact ⟨rfl, by omega, by omega, by omega⟩ | assumption | exact ⟨by omega, by omega⟩ | (refine ⟨by omega, ?_⟩; simp only [ctP] at *; omega)) ?_)
           refine hK21 _ ?_
           refine AWP_ret ?_
           simp only [hres, go_sem]
           first
             | exact finOk_mk (by rfl) (by decide)
             | refine ⟨?_, finOk_mk (by rfl) (by decide)⟩
               rfl

theorem lawSameO_fn : FnOk Try.prog 7 := fnOk_of Try.func7 rfl (by decide)

def T_lawSameO : Tab := fun f => if f = 7 then some (.p K_lawSameO) else T_mHx103 f
theorem T_lawSameO_ok : TabOk Try.prog T_lawSameO := fun f k h => by
  unfold T_lawSameO at h
  split at h
  · rename_i e; cases h; subst e; exact ⟨lawSameO_ok, lawSameO_fn⟩
  · exact T_mHx103_ok f k h
attribute [go_sem] T_lawSameO K_lawSameO

end Go.Proofs.Ythfopaimihmgiaa
