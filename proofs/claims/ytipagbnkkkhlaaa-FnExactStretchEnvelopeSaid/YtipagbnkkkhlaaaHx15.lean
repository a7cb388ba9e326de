/-
  Contracts of functions: FnExactStretchEnvelope.
-/
import Derived.Test.YtipagbnkkkhlaaaHu2
import Derived.Test.YtipagbnkkkhlaaaHu3
import Derived.Test.YtipagbnkkkhlaaaHu4
import Derived.Test.YtipagbnkkkhlaaaGp
namespace Go.Proofs.Ytipagbnkkkhlaaa
open Go.RowKit
set_option linter.unusedSimpArgs false
set_option linter.unusedVariables false

def T_mHx150 : Tab := fun f => match T_implStr f with
  | some k => some k
  | none => T_specStr f
theorem T_mHx150_ok : TabOk Try.prog T_mHx150 := fun f k h => by
  unfold T_mHx150 at h
  split at h
  · rename_i e; cases h; exact T_implStr_ok f _ e
  · exact T_specStr_ok f k h
attribute [go_sem] T_mHx150 T0


def T_mHx151 : Tab := fun f => match T_mHx150 f with
  | some k => some k
  | none => T_heldE f
theorem T_mHx151_ok : TabOk Try.prog T_mHx151 := fun f k h => by
  unfold T_mHx151 at h
  split at h
  · rename_i e; cases h; exact T_mHx150_ok f _ e
  · exact T_heldE_ok f k h
attribute [go_sem] T_mHx151 T0


def K_lawStr : Con := ⟨[.val ((.prod (.int .i64) (.prod (.row 57 (.prod (.int .i64) (.int .i64))) (.int .i64)))), .val ((.prod (.int .i64) (.int .i64)))], [⟨.bool, true⟩], fun _ => True, fun _ => true⟩
set_option maxRecDepth 100000 in
set_option maxHeartbeats 16000000 in
theorem lawStr_ok : PureT Try.prog 3 K_lawStr := by
  refine pure_of_body Try.func3 rfl ?_
  have hres : Try.f3.results.toList = [.tmp 4] := rfl
  rintro ⟨⟨(st : Int), (sg : List (Int × Int)), (rl : Int)⟩, ⟨(fn : Int), (fd : Int)⟩, _⟩ hc hL
  simp only [K_lawStr, lensOk, PK.lenOk, glensOk, GP.lenOk, flensOk, GO.lenOk, olensOk, Ty.lenOk, Ty.flat, Bool.and_true, Bool.true_and, Bool.and_false, Bool.false_and, true_and, and_true, implies_true, forall_const] at hL
  simp only [K_lawStr, St.init, St.initG, Try.ntmps3, go_sem] 
  obtain ⟨U, hU⟩ : ∃ U, strR (st, sg, rl) (fn, fd) = U := ⟨_, rfl⟩
  have hUb0 : U.1.2.1.length ≤ 1000000 := by rw [← hU]; exact strR_bd _ _
  have hUh0 : heldA mkSg ctSg (1) (markSg (1) U.1.2.1) = 1 + ((2 * U.1.2.1.length : Nat) : Int) := heldSg_mark _ _
  have hUm0 : mkOk (1) (2 * (markSg (1) U.1.2.1).length) := by rw [markA_len]; exact ⟨by omega, by omega⟩
  have hUn0 : decide (1 + ((2 * U.1.2.1.length : Nat) : Int) < 0) = false := decide_eq_false (by omega)
  refine AWP_seq_k fun K1 hK1 => ?_
  refine AWP_wk (Wk_keep _ [0, 1] []) ?_
  simp (maxSteps := 2000000) only [go_sem]
  refine AWP_region (G := G) (T := T_mHx151) T_mHx151_ok ?_
  simp only [go_sem]
  repeat (with_reducible refine And.intro (by first | omega | exact ⟨rfl, by omega, by omega, by omega⟩ | assumption | exact ⟨by omega, by omega⟩ | (refine ⟨by omega, ?_⟩; simp only [ctP] at *; omega)) ?_)
  refine hK1 _ ?_
  refine AWP_seq_k fun K2 hK2 => ?_
  refine AWP_region (G := G) (T := T_mHx151) T_mHx151_ok ?_
  simp only [go_sem]
  repeat (with_reducible refine And.intro (by first | omega | exact ⟨rfl, by omega, by omega, by omega⟩ | assumption | exact ⟨by omega, by omega⟩ | (refine ⟨by omega, ?_⟩; simp only [ctP] at *; omega)) ?_)
  refine hK2 _ ?_
  refine AWP_seq_k fun K3 hK3 => ?_
  refine AWP_wk (Wk_keep _ [2, 3, 5] [132, 148]) ?_
  simp (maxSteps := 2000000) only [go_sem]
  refine AWP_region (G := G) (T := T_mHx151) T_mHx151_ok ?_
  simp only [go_sem]
  repeat (with_reducible refine And.intro (by first | omega | exact ⟨rfl, by omega, by omega, by omega⟩ | assumption | exact ⟨by omega, by omega⟩ | (refine ⟨by omega, ?_⟩; simp only [ctP] at *; omega)) ?_)
  refine hK3 _ ?_
  refine AWP_seq_k fun K4 hK4 => ?_
  refine AWP_seq_k fun K5 hK5 => ?_
  refine AWP_region (G := G) (T := T_mHx151) T_mHx151_ok ?_
  simp only [go_sem]
  repeat (with_reducible refine And.intro (by first | omega | exact ⟨rfl, by omega, by omega, by omega⟩ | assumption | exact ⟨by omega, by omega⟩ | (refine ⟨by omega, ?_⟩; simp only [ctP] at *; omega)) ?_)
  refine hK5 _ ?_
  refine AWP_cond rfl ?_ ?_
  ·
   intro c0
   try simp only [decide_eq_true_eq, decide_eq_false_iff_not, Bool.not_eq_true', Bool.not_eq_false', ne_eq, Int.not_lt, Int.not_le] at c0
   refine AWP_seq_k fun K6 hK6 => ?_
   refine AWP_region (G := G) (T := T_mHx151) T_mHx151_ok ?_
   simp only [go_sem]
   repeat (with_reducible refine And.intro (by first | omega | exact ⟨rfl, by omega, by omega, by omega⟩ | assumption | exact ⟨by omega, by omega⟩ | (refine ⟨by omega, ?_⟩; simp only [ctP] at *; omega)) ?_)
   refine hK6 _ ?_
   refine AWP_ret ?_
   simp only [hres, go_sem]
   first
     | exact finOk_mk (by rfl) (by decide)
     | refine ⟨?_, finOk_mk (by rfl) (by decide)⟩
       rfl
  ·
   intro c0
   try simp only [decide_eq_true_eq, decide_eq_false_iff_not, Bool.not_eq_true', Bool.not_eq_false', ne_eq, Int.not_lt, Int.not_le] at c0
   obtain ⟨e0, e0'⟩ := szR_ge' c0
   have hn1 : decide (1 + ((2 * sg.length : Nat) : Int) < 0) = false := decide_eq_false (by omega)
   refine AWP_skip ?_
   simp only [go_sem]
   refine hK4 _ ?_
   refine AWP_seq_k fun K7 hK7 => ?_
   refine AWP_wk (Wk_keep _ [2, 3] [132, 148]) ?_
   simp (maxSteps := 2000000) only [go_sem]
   refine AWP_draw (G := G) (T := T_mHx151) T_mHx151_ok mixed
     [[], [0], [], [0, 1, 2], [0, 1, 2, 3], [0, 1, 2, 3, 4], [0, 1, 2, 3, 4, 5], [0, 1, 2, 3, 4, 5], [], [0, 1, 2, 3, 4, 5, 6, 8], [0, 1, 2, 3, 4, 5, 6, 7, 8, 9]]
     [[196], [196], [196, 468, 469, 470, 471, 472, 473, 474, 475, 476, 477, 478, 479, 480, 481, 482, 483], [196], [196], [196], [196], [196], [468, 469, 470, 471, 472, 473, 474, 475, 476, 477, 478, 479, 480, 481, 482, 483, 500, 501, 502, 503, 504, 505, 506, 507, 508, 509, 510, 511, 512, 513, 514, 515, 516, 517, 518, 519, 520, 521, 522, 523, 524, 525, 526, 527, 528, 529, 530, 531], [], []]
     [[], [468, 469, 470, 471, 472, 473, 474, 475, 476, 477, 478, 479, 480, 481, 482, 483], [], [500, 501, 502, 503, 504, 505, 506, 507, 508, 509, 510, 511, 512, 513, 514, 515], [516, 517, 518, 519, 520, 521, 522, 523, 524, 525, 526, 527, 528, 529, 530, 531], [], [], [], [196], [196], []] (by kernel_rfl) (by kernel_rfl) (adrawR_ok (acc := []) ?_)
   simp (maxSteps := 2000000) only [hU, eqD_rfl, hn1, hUh0, hUn0, go_sem]
   repeat (with_reducible refine And.intro (by first | exact chk_leaf (by kernel_rfl) | omega | exact ⟨rfl, by omega, by omega, by omega⟩ | assumption | exact ⟨by omega, by omega⟩ | (refine ⟨by omega, ?_⟩; simp only [ctP] at *; omega)) ?_)
   refine hK7 _ ?_
   refine AWP_seq_k fun K8 hK8 => ?_
   refine AWP_wk (Wk_keep _ [2, 3, 6, 7] [132, 148, 196, 516, 517, 518, 519, 520, 521, 522, 523]) ?_
   simp (maxSteps := 2000000) only [go_sem]
   refine AWP_region (G := G) (T := T_mHx151) T_mHx151_ok ?_
   simp only [hU, eqD_rfl, hn1, hUh0, hUn0, go_sem]
   repeat (with_reducible refine And.intro (by first | omega | exact ⟨rfl, by omega, by omega, by omega⟩ | assumption | exact ⟨by omega, by omega⟩ | (refine ⟨by omega, ?_⟩; simp only [ctP] at *; omega)) ?_)
   refine hK8 _ ?_
   refine AWP_seq_k fun K9 hK9 => ?_
   refine AWP_wk (Wk_keep _ [2, 3, 6, 7, 8] [132, 148, 196, 228, 516, 517, 518, 519, 520, 521, 522, 523, 580, 581, 582, 583, 584, 585, 586, 587]) ?_
   simp (maxSteps := 2000000) only [go_sem]
   refine AWP_draw (G := G) (T := T_mHx151) T_mHx151_ok mixed
     [[], [], [1], [0, 1, 2], [0, 1, 2, 3], [0, 1, 2, 3, 4], [0, 1, 2, 3, 4], [], [0, 1, 2, 3, 4, 5, 7], [0, 1, 2, 3, 4, 5, 6, 7, 8]]
     [[244, 644, 645, 646, 647, 648, 649, 650, 651, 652, 653, 654, 655, 656, 657, 658, 659], [244], [244], [244], [244], [244], [244], [644, 645, 646, 647, 648, 649, 650, 651, 652, 653, 654, 655, 656, 657, 658, 659, 660, 661, 662, 663, 664, 665, 666, 667, 668, 669, 670, 671, 672, 673, 674, 675], [], []]
     [[], [], [644, 645, 646, 647, 648, 649, 650, 651, 652, 653, 654, 655, 656, 657, 658, 659], [660, 661, 662, 663, 664, 665, 666, 667, 668, 669, 670, 671, 672, 673, 674, 675], [], [], [], [244], [244], []] (by kernel_rfl) (by kernel_rfl) (adrawR_ok (acc := []) ?_)
   simp (maxSteps := 2000000) only [hU, eqD_rfl, hn1, hUh0, hUn0, go_sem]
   repeat (with_reducible refine And.intro (by first | exact chk_leaf (by kernel_rfl) | omega | exact ⟨rfl, by omega, by omega, by omega⟩ | assumption | exact ⟨by omega, by omega⟩ | (refine ⟨by omega, ?_⟩; simp only [ctP] at *; omega)) ?_)
   refine hK9 _ ?_
   refine AWP_seq_k fun K10 hK10 => ?_
   refine AWP_seq_k fun K11 hK11 => ?_
   refine AWP_wk (Wk_keep _ [2, 3, 6, 7, 8, 9, 10] [132, 148, 196, 228, 244, 516, 517, 518, 519, 520, 521, 522, 523, 580, 581, 582, 583, 584, 585, 586, 587, 660, 661, 662, 663, 664, 665, 666, 667]) ?_
   simp (maxSteps := 2000000) only [go_sem]
   refine AWP_region (G := G) (T := T_mHx151) T_mHx151_ok ?_
   simp (maxSteps := 2000000) only [hU, eqD_rfl, hn1, hUh0, hUn0, go_sem]
   repeat' (first | (with_reducible refine And.intro (by first | omega | exact ⟨rfl, by omega, by omega, by omega⟩ | assumption | exact ⟨by omega, by omega⟩ | (refine ⟨by omega, ?_⟩; simp only [ctP] at *; omega)) ?_) | (with_reducible refine gcase_dt (fun g8 => ?_) (fun g8 => ?_)) | (with_reducible refine gcase_df (fun g8 => ?_) (fun g8 => ?_)) | (with_reducible refine gcase_ndt (fun g8 => ?_) (fun g8 => ?_)) | (with_reducible refine gcase_ndf (fun g8 => ?_) (fun g8 => ?_)) | (with_reducible refine gcase_nt (fun g8 => ?_) (fun g8 => ?_)) | (with_reducible refine gcase_nf (fun g8 => ?_) (fun g8 => ?_)) | (with_reducible refine gcase_mk (fun g8 => ?_) (fun g8 => ?_)))
   all_goals
    refine hK11 _ ?_
    refine AWP_cond rfl ?_ ?_
    ·
     intro c1
     try simp only [decide_eq_true_eq, decide_eq_false_iff_not, Bool.not_eq_true', Bool.not_eq_false', ne_eq, Int.not_lt, Int.not_le, Bool.true_eq_false, Bool.false_eq_true] at c1
     all_goals
      all_goals first | (cases c1; done) | (simp at c1; done) | omega
    ·
     intro c1
     try simp only [decide_eq_true_eq, decide_eq_false_iff_not, Bool.not_eq_true', Bool.not_eq_false', ne_eq, Int.not_lt, Int.not_le, Bool.true_eq_false, Bool.false_eq_true] at c1
     all_goals
      refine AWP_skip ?_
      simp only [go_sem]
      refine hK10 _ ?_
      refine AWP_seq_k fun K12 hK12 => ?_
      refine AWP_seq_k fun K13 hK13 => ?_
      refine AWP_wk (Wk_keep _ [2, 3, 6, 7, 8, 9, 10] [132, 148, 196, 228, 244, 516, 517, 518, 519, 520, 521, 522, 523, 580, 581, 582, 583, 584, 585, 586, 587, 660, 661, 662, 663, 664, 665, 666, 667]) ?_
      simp (maxSteps := 2000000) only [go_sem]
      refine AWP_draw (G := G) (T := T_mHx151) T_mHx151_ok mixed
        [[], [], [1], [0, 1, 2], [0, 1, 2, 3]]
        [[884, 885, 886, 887, 888, 889, 890, 891, 892, 893, 894, 895, 896, 897, 898, 899], [], [], [], []]
        [[], [], [884, 885, 886, 887, 888, 889, 890, 891, 892, 893, 894, 895, 896, 897, 898, 899], [], []] (by kernel_rfl) (by kernel_rfl) (adrawR_ok (acc := []) ?_)
      simp (maxSteps := 2000000) only [hU, eqD_rfl, hn1, hUh0, hUn0, go_sem]
      repeat (with_reducible refine And.intro (by first | exact chk_leaf (by kernel_rfl) | omega | exact ⟨rfl, by omega, by omega, by omega⟩ | assumption | exact ⟨by omega, by omega⟩ | (refine ⟨by omega, ?_⟩; simp only [ctP] at *; omega)) ?_)
      refine hK13 _ ?_
      refine AWP_cond rfl ?_ ?_
      ·
       intro c2
       try simp only [decide_eq_true_eq, decide_eq_false_iff_not, Bool.not_eq_true', Bool.not_eq_false', ne_eq, Int.not_lt, Int.not_le, Bool.true_eq_false, Bool.false_eq_true] at c2
       all_goals
        all_goals first | (cases c2; done) | (simp at c2; done) | omega
      ·
       intro c2
       try simp only [decide_eq_true_eq, decide_eq_false_iff_not, Bool.not_eq_true', Bool.not_eq_false', ne_eq, Int.not_lt, Int.not_le, Bool.true_eq_false, Bool.false_eq_true] at c2
       all_goals
        refine AWP_skip ?_
        simp only [go_sem]
        refine hK12 _ ?_
        refine AWP_seq_k fun K14 hK14 => ?_
        refine AWP_region (G := G) (T := T_mHx151) T_mHx151_ok ?_
        simp only [hU, eqD_rfl, hn1, hUh0, hUn0, go_sem]
        repeat (with_reducible refine And.intro (by first | omega | exact ⟨rfl, by omega, by omega, by omega⟩ | assumption | exact ⟨by omega, by omega⟩ | (refine ⟨by omega, ?_⟩; simp only [ctP] at *; omega)) ?_)
        refine hK14 _ ?_
        refine AWP_seq_k fun K15 hK15 => ?_
        refine AWP_wk (Wk_keep _ [2, 3, 6, 7, 8, 9, 10, 11] [132, 148, 196, 228, 244, 516, 517, 518, 519, 520, 521, 522, 523, 580, 581, 582, 583, 584, 585, 586, 587, 660, 661, 662, 663, 664, 665, 666, 667]) ?_
        simp (maxSteps := 2000000) only [go_sem]
        refine AWP_region (G := G) (T := T_mHx151) T_mHx151_ok ?_
        simp only [hU, eqD_rfl, hn1, hUh0, hUn0, go_sem]
        repeat (with_reducible refine And.intro (by first | omega | exact ⟨rfl, by omega, by omega, by omega⟩ | assumption | exact ⟨by omega, by omega⟩ | (refine ⟨by omega, ?_⟩; simp only [ctP] at *; omega)) ?_)
        refine hK15 _ ?_
        refine AWP_seq_k fun K16 hK16 => ?_
        refine AWP_seq_k fun K17 hK17 => ?_
        refine AWP_wk (Wk_keep _ [2, 3, 6, 7, 9, 10, 11] [132, 148, 196, 244, 516, 517, 518, 519, 520, 521, 522, 523, 660, 661, 662, 663, 664, 665, 666, 667, 964, 965, 966, 967, 968, 969, 970, 971]) ?_
        simp (maxSteps := 2000000) only [go_sem]
        refine AWP_region (G := G) (T := T_mHx151) T_mHx151_ok ?_
        simp (maxSteps := 2000000) only [hU, eqD_rfl, hn1, hUh0, hUn0, go_sem]
        repeat' (first | (with_reducible refine And.intro (by first | omega | exact ⟨rfl, by omega, by omega, by omega⟩ | assumption | exact ⟨by omega, by omega⟩ | (refine ⟨by omega, ?_⟩; simp only [ctP] at *; omega)) ?_) | (with_reducible refine gcase_dt (fun g14 => ?_) (fun g14 => ?_)) | (with_reducible refine gcase_df (fun g14 => ?_) (fun g14 => ?_)) | (with_reducible refine gcase_ndt (fun g14 => ?_) (fun g14 => ?_)) | (with_reducible refine gcase_ndf (fun g14 => ?_) (fun g14 => ?_)) | (with_reducible refine gcase_nt (fun g14 => ?_) (fun g14 => ?_)) | (with_reducible refine gcase_nf (fun g14 => ?_) (fun g14 => ?_)) | (with_reducible refine gcase_mk (fun g14 => ?_) (fun g14 => ?_)))
        all_goals
         refine hK17 _ ?_
         refine AWP_cond rfl ?_ ?_
         ·
          intro c3
          try simp only [decide_eq_true_eq, decide_eq_false_iff_not, Bool.not_eq_true', Bool.not_eq_false', ne_eq, Int.not_lt, Int.not_le, Bool.true_eq_false, Bool.false_eq_true] at c3
          all_goals
           all_goals first | (cases c3; done) | (simp at c3; done) | omega
         ·
          intro c3
          try simp only [decide_eq_true_eq, decide_eq_false_iff_not, Bool.not_eq_true', Bool.not_eq_false', ne_eq, Int.not_lt, Int.not_le, Bool.true_eq_false, Bool.false_eq_true] at c3
          all_goals
           refine AWP_skip ?_
           simp only [go_sem]
           refine hK16 _ ?_
           refine AWP_seq_k fun K18 hK18 => ?_
           refine AWP_region (G := G) (T := T_mHx151) T_mHx151_ok ?_
           simp only [hU, eqD_rfl, hn1, hUh0, hUn0, go_sem]
           repeat (with_reducible refine And.intro (by first | omega | exact ⟨rfl, by omega, by omega, by omega⟩ | assumption | exact ⟨by omega, by omega⟩ | (refine ⟨by omega, ?_⟩; simp only [ctP] at *; omega)) ?_)
           refine hK18 _ ?_
           refine AWP_seq_k fun K19 hK19 => ?_
           refine AWP_wk (Wk_keep _ [2, 3, 6, 7, 9, 12] [132, 148, 196, 244, 516, 517, 518, 519, 520, 521, 522, 523, 660, 661, 662, 663, 664, 665, 666, 667]) ?_
           simp (maxSteps := 2000000) only [go_sem]
           refine AWP_region (G := G) (T := T_mHx151) T_mHx151_ok ?_
           simp only [hU, eqD_rfl, hn1, hUh0, hUn0, go_sem]
           repeat (with_reducible refine And.intro (by first | omega | exact ⟨rfl, by omega, by omega, by omega⟩ | assumption | exact ⟨by omega, by omega⟩ | (refine ⟨by omega, ?_⟩; simp only [ctP] at *; omega)) ?_)
           refine hK19 _ ?_
           refine AWP_seq_k fun K20 hK20 => ?_
           refine AWP_region (G := G) (T := T_mHx151) T_mHx151_ok ?_
           simp only [hU, eqD_rfl, hn1, hUh0, hUn0, go_sem]
           repeat (with_reducible refine And.intro (by first | omega | exact ⟨rfl, by omega, by omega, by omega⟩ | assumption | exact ⟨by omega, by omega⟩ | (refine ⟨by omega, ?_⟩; simp only [ctP] at *; omega)) ?_)
           refine hK20 _ ?_
           refine AWP_seq_k fun K21 hK21 => ?_
           refine AWP_wk (Wk_keep _ [2, 3, 6, 7, 9, 12, 13] [132, 148, 196, 244, 516, 517, 518, 519, 520, 521, 522, 523, 660, 661, 662, 663, 664, 665, 666, 667, 1220, 1221, 1222, 1223, 1224, 1225, 1226, 1227]) ?_
           simp (maxSteps := 2000000) only [go_sem]
           refine AWP_region (G := G) (T := T_mHx151) T_mHx151_ok ?_
           simp only [hU, eqD_rfl, hn1, hUh0, hUn0, go_sem]
           repeat (with_reducible refine And.intro (by first | omega | exact ⟨rfl, by omega, by omega, by omega⟩ | assumption | exact ⟨by omega, by omega⟩ | (refine ⟨by omega, ?_⟩; simp only [ctP] at *; omega)) ?_)
           refine hK21 _ ?_
           refine AWP_seq_k fun K22 hK22 => ?_
           refine AWP_seq_k fun K23 hK23 => ?_
           refine AWP_region (G := G) (T := T_mHx151) T_mHx151_ok ?_
           simp only [hU, eqD_rfl, hn1, hUh0, hUn0, go_sem]
           repeat (with_reducible refine And.intro (by first | omega | exact ⟨rfl, by omega, by omega, by omega⟩ | assumption | exact ⟨by omega, by omega⟩ | (refine ⟨by omega, ?_⟩; simp only [ctP] at *; omega)) ?_)
           refine hK23 _ ?_
           refine AWP_cond rfl ?_ ?_
           ·
            intro c4
            try simp only [decide_eq_true_eq, decide_eq_false_iff_not, Bool.not_eq_true', Bool.not_eq_false', ne_eq, Int.not_lt, Int.not_le, Bool.true_eq_false, Bool.false_eq_true] at c4
            all_goals
             all_goals first | (cases c4; done) | (simp at c4; done) | omega
           ·
            intro c4
            try simp only [decide_eq_true_eq, decide_eq_false_iff_not, Bool.not_eq_true', Bool.not_eq_false', ne_eq, Int.not_lt, Int.not_le, Bool.true_eq_false, Bool.false_eq_true] at c4
            all_goals
             refine AWP_skip ?_
             simp only [go_sem]
             refine hK22 _ ?_
             refine AWP_seq_k fun K24 hK24 => ?_
             refine AWP_seq_k fun K25 hK25 => ?_
             refine AWP_region (G := G) (T := T_mHx151) T_mHx151_ok ?_
             simp only [hU, eqD_rfl, hn1, hUh0, hUn0, go_sem]
             repeat (with_reducible refine And.intro (by first | omega | exact ⟨rfl, by omega, by omega, by omega⟩ | assumption | exact ⟨by omega, by omega⟩ | (refine ⟨by omega, ?_⟩; simp only [ctP] at *; omega)) ?_)
             refine hK25 _ ?_
             refine AWP_cond rfl ?_ ?_
             ·
              intro c5
              try simp only [decide_eq_true_eq, decide_eq_false_iff_not, Bool.not_eq_true', Bool.not_eq_false', ne_eq, Int.not_lt, Int.not_le, Bool.true_eq_false, Bool.false_eq_true] at c5
              all_goals
               all_goals first | (cases c5; done) | (simp at c5; done) | omega
             ·
              intro c5
              try simp only [decide_eq_true_eq, decide_eq_false_iff_not, Bool.not_eq_true', Bool.not_eq_false', ne_eq, Int.not_lt, Int.not_le, Bool.true_eq_false, Bool.false_eq_true] at c5
              all_goals
               refine AWP_skip ?_
               simp only [go_sem]
               refine hK24 _ ?_
               refine AWP_seq_k fun K26 hK26 => ?_
               refine AWP_wk (Wk_keep _ [2, 3, 6, 7, 9, 12] [132, 148, 196, 244, 516, 517, 518, 519, 520, 521, 522, 523, 660, 661, 662, 663, 664, 665, 666, 667, 1220, 1221, 1222, 1223, 1224, 1225, 1226, 1227]) ?_
               simp (maxSteps := 2000000) only [go_sem]
               refine AWP_draw (G := G) (T := T_mHx151) T_mHx151_ok mixed
                 [[], [0], [], [0, 1, 2], [0, 1, 2, 3], [0, 1, 2, 3, 4], [0, 1, 2, 3, 4, 5], [0, 1, 2, 3, 4, 5], [], [0, 1, 2, 3, 4, 5, 6, 8], [0, 1, 2, 3, 4, 5, 6, 7, 8, 9]]
                 [[324], [324], [324, 1396, 1397, 1398, 1399, 1400, 1401, 1402, 1403, 1404, 1405, 1406, 1407, 1408, 1409, 1410, 1411], [324], [324], [324], [324], [324], [1396, 1397, 1398, 1399, 1400, 1401, 1402, 1403, 1404, 1405, 1406, 1407, 1408, 1409, 1410, 1411, 1428, 1429, 1430, 1431, 1432, 1433, 1434, 1435, 1436, 1437, 1438, 1439, 1440, 1441, 1442, 1443, 1444, 1445, 1446, 1447, 1448, 1449, 1450, 1451, 1452, 1453, 1454, 1455, 1456, 1457, 1458, 1459], [], []]
                 [[], [1396, 1397, 1398, 1399, 1400, 1401, 1402, 1403, 1404, 1405, 1406, 1407, 1408, 1409, 1410, 1411], [], [1428, 1429, 1430, 1431, 1432, 1433, 1434, 1435, 1436, 1437, 1438, 1439, 1440, 1441, 1442, 1443], [1444, 1445, 1446, 1447, 1448, 1449, 1450, 1451, 1452, 1453, 1454, 1455, 1456, 1457, 1458, 1459], [], [], [], [324], [324], []] (by kernel_rfl) (by kernel_rfl) (adrawR_ok (acc := []) ?_)
               simp (maxSteps := 2000000) only [hU, eqD_rfl, hn1, hUh0, hUn0, go_sem]
               repeat (with_reducible refine And.intro (by first | exact chk_leaf (by kernel_rfl) | omega | exact ⟨rfl, by omega, by omega, by omega⟩ | assumption | exact ⟨by omega, by omega⟩ | (refine ⟨by omega, ?_⟩; simp only [ctP] at *; omega)) ?_)
               refine hK26 _ ?_
               refine AWP_seq_k fun K27 hK27 => ?_
               refine AWP_seq_k fun K28 hK28 => ?_
               refine AWP_wk (Wk_keep _ [6, 7, 9, 12, 14, 15] [196, 244, 324, 516, 517, 518, 519, 520, 521, 522, 523, 660, 661, 662, 663, 664, 665, 666, 667, 1220, 1221, 1222, 1223, 1224, 1225, 1226, 1227, 1444, 1445, 1446, 1447, 1448, 1449, 1450, 1451]) ?_
               simp (maxSteps := 2000000) only [go_sem]
               refine AWP_region (G := G) (T := T_mHx151) T_mHx151_ok ?_
               simp (maxSteps := 2000000) only [hU, eqD_rfl, hn1, hUh0, hUn0, go_sem]
               repeat' (first | (with_reducible refine And.intro (by first | omega | exact ⟨rfl, by omega, by omega, by omega⟩ | assumption | exact ⟨by omega, by omega⟩ | (refine ⟨by omega, ?_⟩; simp only [ctP] at *; omega)) ?_) | (with_reducible refine gcase_dt (fun g25 => ?_) (fun g25 => ?_)) | (with_reducible refine gcase_df (fun g25 => ?_) (fun g25 => ?_)) | (with_reducible refine gcase_ndt (fun g25 => ?_) (fun g25 => ?_)) | (with_reducible refine gcase_ndf (fun g25 => ?_) (fun g25 => ?_)) | (with_reducible refine gcase_nt (fun g25 => ?_) (fun g25 => ?_)) | (with_reducible refine gcase_nf (fun g25 => ?_) (fun g25 => ?_)) | (with_reducible refine gcase_mk (fun g25 => ?_) (fun g25 => ?_)))
               all_goals
                refine hK28 _ ?_
                refine AWP_cond rfl ?_ ?_
                ·
                 intro c6
                 try simp only [decide_eq_true_eq, decide_eq_false_iff_not, Bool.not_eq_true', Bool.not_eq_false', ne_eq, Int.not_lt, Int.not_le, Bool.true_eq_false, Bool.false_eq_true] at c6
                 all_goals
                  all_goals first | (cases c6; done) | (simp at c6; done) | omega
                ·
                 intro c6
                 try simp only [decide_eq_true_eq, decide_eq_false_iff_not, Bool.not_eq_true', Bool.not_eq_false', ne_eq, Int.not_lt, Int.not_le, Bool.true_eq_false, Bool.false_eq_true] at c6
                 all_goals
                  refine AWP_skip ?_
                  simp only [go_sem]
                  refine hK27 _ ?_
                  refine AWP_seq_k fun K29 hK29 => ?_
                  refine AWP_region (G := G) (T := T_mHx151) T_mHx151_ok ?_
                  simp only [hU, eqD_rfl, hn1, hUh0, hUn0, go_sem]
                  repeat (with_reducible refine And.intro (by first | omega | exact ⟨rfl, by omega, by omega, by omega⟩ | assumption | exact ⟨by omega, by omega⟩ | (refine ⟨by omega, ?_⟩; simp only [ctP] at *; omega)) ?_)
                  refine hK29 _ ?_
                  refine AWP_seq_k fun K30 hK30 => ?_
                  refine AWP_wk (Wk_keep _ [9, 12, 13] [244, 660, 661, 662, 663, 664, 665, 666, 667, 1220, 1221, 1222, 1223, 1224, 1225, 1226, 1227]) ?_
                  simp (maxSteps := 2000000) only [go_sem]
                  refine AWP_region (G := G) (T := T_mHx151) T_mHx151_ok ?_
                  simp only [hU, eqD_rfl, hn1, hUh0, hUn0, go_sem]
                  repeat (with_reducible refine And.intro (by first | omega | exact ⟨rfl, by omega, by omega, by omega⟩ | assumption | exact ⟨by omega, by omega⟩ | (refine ⟨by omega, ?_⟩; simp only [ctP] at *; omega)) ?_)
                  refine hK30 _ ?_
                  refine AWP_seq_k fun K31 hK31 => ?_
                  refine AWP_seq_k fun K32 hK32 => ?_
                  refine AWP_region (G := G) (T := T_mHx151) T_mHx151_ok ?_
                  simp only [hU, eqD_rfl, hn1, hUh0, hUn0, go_sem]
                  repeat (with_reducible refine And.intro (by first | omega | exact ⟨rfl, by omega, by omega, by omega⟩ | assumption | exact ⟨by omega, by omega⟩ | (refine ⟨by omega, ?_⟩; simp only [ctP] at *; omega)) ?_)
                  refine hK32 _ ?_
                  refine AWP_cond rfl ?_ ?_
                  ·
                   intro c7
                   try simp only [decide_eq_true_eq, decide_eq_false_iff_not, Bool.not_eq_true', Bool.not_eq_false', ne_eq, Int.not_lt, Int.not_le, Bool.true_eq_false, Bool.false_eq_true] at c7
                   all_goals
                    all_goals first | (cases c7; done) | (simp at c7; done) | omega
                  ·
                   intro c7
                   try simp only [decide_eq_true_eq, decide_eq_false_iff_not, Bool.not_eq_true', Bool.not_eq_false', ne_eq, Int.not_lt, Int.not_le, Bool.true_eq_false, Bool.false_eq_true] at c7
                   all_goals
                    refine AWP_skip ?_
                    simp only [go_sem]
                    refine hK31 _ ?_
                    refine AWP_seq_k fun K33 hK33 => ?_
                    refine AWP_seq_k fun K34 hK34 => ?_
                    refine AWP_region (G := G) (T := T_mHx151) T_mHx151_ok ?_
                    simp only [hU, eqD_rfl, hn1, hUh0, hUn0, go_sem]
                    repeat (with_reducible refine And.intro (by first | omega | exact ⟨rfl, by omega, by omega, by omega⟩ | assumption | exact ⟨by omega, by omega⟩ | (refine ⟨by omega, ?_⟩; simp only [ctP] at *; omega)) ?_)
                    refine hK34 _ ?_
                    refine AWP_cond rfl ?_ ?_
                    ·
                     intro c8
                     try simp only [decide_eq_true_eq, decide_eq_false_iff_not, Bool.not_eq_true', Bool.not_eq_false', ne_eq, Int.not_lt, Int.not_le, Bool.true_eq_false, Bool.false_eq_true] at c8
                     all_goals
                      all_goals first | (cases c8; done) | (simp at c8; done) | omega
                    ·
                     intro c8
                     try simp only [decide_eq_true_eq, decide_eq_false_iff_not, Bool.not_eq_true', Bool.not_eq_false', ne_eq, Int.not_lt, Int.not_le, Bool.true_eq_false, Bool.false_eq_true] at c8
                     all_goals
                      refine AWP_skip ?_
                      simp only [go_sem]
                      refine hK33 _ ?_
                      refine AWP_seq_k fun K35 hK35 => ?_
                      refine AWP_region (G := G) (T := T_mHx151) T_mHx151_ok ?_
                      simp only [hU, eqD_rfl, hn1, hUh0, hUn0, go_sem]
                      repeat (with_reducible refine And.intro (by first | omega | exact ⟨rfl, by omega, by omega, by omega⟩ | assumption | exact ⟨by omega, by omega⟩ | (refine ⟨by omega, ?_⟩; simp only [ctP] at *; omega)) ?_)
                      refine hK35 _ ?_
                      refine AWP_ret ?_
                      simp only [hres, go_sem]
                      first
                        | exact finOk_mk (by rfl) (by decide)
                        | refine ⟨?_, finOk_mk (by rfl) (by decide)⟩
                          rfl

theorem lawStr_fn : FnOk Try.prog 3 := fnOk_of Try.func3 rfl (by decide)

def T_lawStr : Tab := fun f => if f = 3 then some (.p K_lawStr) else T_mHx151 f
theorem T_lawStr_ok : TabOk Try.prog T_lawStr := fun f k h => by
  unfold T_lawStr at h
  split at h
  · rename_i e; cases h; subst e; exact ⟨lawStr_ok, lawStr_fn⟩
  · exact T_mHx151_ok f k h
attribute [go_sem] T_lawStr K_lawStr

end Go.Proofs.Ytipagbnkkkhlaaa
