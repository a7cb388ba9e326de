/-
  Contracts of functions: FnExactMakeProgram.
-/
import Derived.Test.YthglggjgjlmhlaaHl1
import Derived.Test.YthglggjgjlmhlaaHl4
import Derived.Test.YthglggjgjlmhlaaHp5
import Derived.Test.YthglggjgjlmhlaaHp6
import Derived.Test.YthglggjgjlmhlaaHp2
import Derived.Test.YthglggjgjlmhlaaHp4
import Derived.Test.YthglggjgjlmhlaaGp
namespace Go.Proofs.Ythglggjgjlmhlaa
open Go.RowKit
set_option linter.unusedSimpArgs false
set_option linter.unusedVariables false

def T_mHx60 : Tab := fun f => match T_toP f with
  | some k => some k
  | none => T_markP f
theorem T_mHx60_ok : TabOk Try.prog T_mHx60 := fun f k h => by
  unfold T_mHx60 at h
  split at h
  · rename_i e; cases h; exact T_toP_ok f _ e
  · exact T_markP_ok f k h
attribute [go_sem] T_mHx60 T0


def T_mHx61 : Tab := fun f => match T_mHx60 f with
  | some k => some k
  | none => T_eqG f
theorem T_mHx61_ok : TabOk Try.prog T_mHx61 := fun f k h => by
  unfold T_mHx61 at h
  split at h
  · rename_i e; cases h; exact T_mHx60_ok f _ e
  · exact T_eqG_ok f k h
attribute [go_sem] T_mHx61 T0


def T_mHx62 : Tab := fun f => match T_mHx61 f with
  | some k => some k
  | none => T_markG f
theorem T_mHx62_ok : TabOk Try.prog T_mHx62 := fun f k h => by
  unfold T_mHx62 at h
  split at h
  · rename_i e; cases h; exact T_mHx61_ok f _ e
  · exact T_markG_ok f k h
attribute [go_sem] T_mHx62 T0


def T_mHx63 : Tab := fun f => match T_mHx62 f with
  | some k => some k
  | none => T_implMakeP f
theorem T_mHx63_ok : TabOk Try.prog T_mHx63 := fun f k h => by
  unfold T_mHx63 at h
  split at h
  · rename_i e; cases h; exact T_mHx62_ok f _ e
  · exact T_implMakeP_ok f k h
attribute [go_sem] T_mHx63 T0


def T_mHx64 : Tab := fun f => match T_mHx63 f with
  | some k => some k
  | none => T_specMakeP f
theorem T_mHx64_ok : TabOk Try.prog T_mHx64 := fun f k h => by
  unfold T_mHx64 at h
  split at h
  · rename_i e; cases h; exact T_mHx63_ok f _ e
  · exact T_specMakeP_ok f k h
attribute [go_sem] T_mHx64 T0


def K_lawMakeP : Con := ⟨[.val ((.prod (.int .i64) (.prod (.row 24 (.row 2 (.int .i64))) (.prod (.row 136 (.prod (.int .i64) (.prod (.int .i64) (.prod (.int .i64) (.row 2 (.int .i64)))))) (.row 2 (.int .i64))))))], [⟨.bool, true⟩], fun _ => True, fun _ => true⟩
set_option maxRecDepth 100000 in
set_option maxHeartbeats 16000000 in
theorem lawMakeP_ok : PureT Try.prog 10 K_lawMakeP := by
  refine pure_of_body Try.func10 rfl ?_
  have hres : Try.f10.results.toList = [.tmp 2] := rfl
  rintro ⟨⟨(pi : Int), (ts : List (List Int)), (ns : List NodeD), (os : List Int)⟩, _⟩ hc hL
  simp only [K_lawMakeP, lensOk, PK.lenOk, glensOk, GP.lenOk, flensOk, GO.lenOk, olensOk, Ty.lenOk, Ty.flat, Bool.and_true, Bool.true_and, Bool.and_false, Bool.false_and, true_and, and_true, implies_true, forall_const] at hL
  simp only [K_lawMakeP, St.init, St.initG, Try.ntmps10, go_sem] 
  obtain ⟨U, hU⟩ : ∃ U, progR (pi, ts, ns, os) = U := ⟨_, rfl⟩
  have hUb0 : ctG (0, 0, U.1.2.2.1, U.1.2.2.2.1, U.1.2.2.2.2) ≤ 1000000 := by rw [← hU]; exact progR_bd _
  have hUh0 : heldG (1) (U.1.1, U.1.2.1, markLL (1) U.1.2.2.1, markXs (1 + (cntA List.length U.1.2.2.1 : Nat)) U.1.2.2.2.1, markL (1 + (cntA List.length U.1.2.2.1 : Nat) + (cntA ctX U.1.2.2.2.1 : Nat)) U.1.2.2.2.2) = 1 + (ctG (0, 0, U.1.2.2.1, U.1.2.2.2.1, U.1.2.2.2.2) : Int) := heldG_mark' _ _ _ _ _ _
  have hUm0 : mkOk (1) (ctG (U.1.1, U.1.2.1, markLL (1) U.1.2.2.1, markXs (1 + (cntA List.length U.1.2.2.1 : Nat)) U.1.2.2.2.1, markL (1 + (cntA List.length U.1.2.2.1 : Nat) + (cntA ctX U.1.2.2.2.1 : Nat)) U.1.2.2.2.2)) := by
    rw [show ctG (U.1.1, U.1.2.1, markLL (1) U.1.2.2.1, markXs (1 + (cntA List.length U.1.2.2.1 : Nat)) U.1.2.2.2.1, markL (1 + (cntA List.length U.1.2.2.1 : Nat) + (cntA ctX U.1.2.2.2.1 : Nat)) U.1.2.2.2.2) = ctG (0, 0, U.1.2.2.1, U.1.2.2.2.1, U.1.2.2.2.2) from ctG_mk (1) U.1]
    exact ⟨by omega, by omega⟩
  have hUn0 : decide (1 + (ctG (0, 0, U.1.2.2.1, U.1.2.2.2.1, U.1.2.2.2.2) : Int) < 0) = false := decide_eq_false (by omega)
  refine AWP_seq_k fun K1 hK1 => ?_
  refine AWP_wk (Wk_keep _ [0] []) ?_
  simp (maxSteps := 2000000) only [go_sem]
  refine AWP_region (G := G) (T := T_mHx64) T_mHx64_ok ?_
  simp only [go_sem]
  repeat (with_reducible refine And.intro (by first | omega | exact ⟨rfl, by omega, by omega, by omega⟩ | assumption | exact ⟨by omega, by omega⟩ | (refine ⟨by omega, ?_⟩; simp only [ctP, ctG] at *; omega)) ?_)
  refine hK1 _ ?_
  refine AWP_seq_k fun K2 hK2 => ?_
  refine AWP_region (G := G) (T := T_mHx64) T_mHx64_ok ?_
  simp only [go_sem]
  repeat (with_reducible refine And.intro (by first | omega | exact ⟨rfl, by omega, by omega, by omega⟩ | assumption | exact ⟨by omega, by omega⟩ | (refine ⟨by omega, ?_⟩; simp only [ctP, ctG] at *; omega)) ?_)
  refine hK2 _ ?_
  refine AWP_seq_k fun K3 hK3 => ?_
  refine AWP_wk (Wk_keep _ [1, 3] [116]) ?_
  simp (maxSteps := 2000000) only [go_sem]
  refine AWP_region (G := G) (T := T_mHx64) T_mHx64_ok ?_
  simp only [go_sem]
  repeat (with_reducible refine And.intro (by first | omega | exact ⟨rfl, by omega, by omega, by omega⟩ | assumption | exact ⟨by omega, by omega⟩ | (refine ⟨by omega, ?_⟩; simp only [ctP, ctG] at *; omega)) ?_)
  refine hK3 _ ?_
  refine AWP_seq_k fun K4 hK4 => ?_
  refine AWP_seq_k fun K5 hK5 => ?_
  refine AWP_region (G := G) (T := T_mHx64) T_mHx64_ok ?_
  simp only [go_sem]
  repeat (with_reducible refine And.intro (by first | omega | exact ⟨rfl, by omega, by omega, by omega⟩ | assumption | exact ⟨by omega, by omega⟩ | (refine ⟨by omega, ?_⟩; simp only [ctP, ctG] at *; omega)) ?_)
  refine hK5 _ ?_
  refine AWP_cond rfl ?_ ?_
  ·
   intro c0
   try simp only [decide_eq_true_eq, decide_eq_false_iff_not, Bool.not_eq_true', Bool.not_eq_false', ne_eq, Int.not_lt, Int.not_le] at c0
   refine AWP_seq_k fun K6 hK6 => ?_
   refine AWP_region (G := G) (T := T_mHx64) T_mHx64_ok ?_
   simp only [go_sem]
   repeat (with_reducible refine And.intro (by first | omega | exact ⟨rfl, by omega, by omega, by omega⟩ | assumption | exact ⟨by omega, by omega⟩ | (refine ⟨by omega, ?_⟩; simp only [ctP, ctG] at *; omega)) ?_)
   refine hK6 _ ?_
   refine AWP_ret ?_
   simp only [hres, go_sem]
   first
     | exact finOk_mk (by rfl) (by decide)
     | refine ⟨?_, finOk_mk (by rfl) (by decide)⟩
       rfl
  ·
   intro c0
   try simp only [decide_eq_true_eq, decide_eq_false_iff_not, Bool.not_eq_true', Bool.not_eq_false', ne_eq, Int.not_lt, Int.not_le] at c0
   obtain ⟨e0, e0'⟩ := szR_ge' c0
   have f0 : fitsP (pi, ts, ns, os) := fitsP_sz (by omega)
   have g0 := ctP_le (pi, ts, ns, os)
   have hz0 : ctP (0, ts, ns, os) = ctP (pi, ts, ns, os) := rfl
   have hn1 : decide (1 + (ctP (0, ts, ns, os) : Int) < 0) = false := decide_eq_false (by omega)
   refine AWP_skip ?_
   simp only [go_sem]
   refine hK4 _ ?_
   refine AWP_seq_k fun K7 hK7 => ?_
   refine AWP_wk (Wk_keep _ [1] [116]) ?_
   simp (maxSteps := 2000000) only [go_sem]
   refine AWP_region (G := G) (T := T_mHx64) T_mHx64_ok ?_
   simp (maxSteps := 2000000) only [hU, eqD_rfl, hn1, hUh0, hUn0, go_sem]
   repeat (with_reducible refine And.intro (by first | omega | exact ⟨rfl, by omega, by omega, by omega⟩ | assumption | exact ⟨by omega, by omega⟩ | (refine ⟨by omega, ?_⟩; simp only [ctP, ctG] at *; omega)) ?_)
   refine hK7 _ ?_
   refine AWP_seq_k fun K8 hK8 => ?_
   refine AWP_wk (Wk_keep _ [1, 4, 5] [116, 164, 452, 453, 454, 455, 456, 457, 458, 459]) ?_
   simp (maxSteps := 2000000) only [go_sem]
   refine AWP_region (G := G) (T := T_mHx64) T_mHx64_ok ?_
   simp only [hU, eqD_rfl, hn1, hUh0, hUn0, go_sem]
   repeat (with_reducible refine And.intro (by first | omega | exact ⟨rfl, by omega, by omega, by omega⟩ | assumption | exact ⟨by omega, by omega⟩ | (refine ⟨by omega, ?_⟩; simp only [ctP, ctG] at *; omega)) ?_)
   refine hK8 _ ?_
   refine AWP_seq_k fun K9 hK9 => ?_
   refine AWP_wk (Wk_keep _ [1, 4, 5, 6] [116, 164, 196, 452, 453, 454, 455, 456, 457, 458, 459, 516, 517, 518, 519, 520, 521, 522, 523]) ?_
   simp (maxSteps := 2000000) only [go_sem]
   refine AWP_region (G := G) (T := T_mHx64) T_mHx64_ok ?_
   simp (maxSteps := 2000000) only [hU, eqD_rfl, hn1, hUh0, hUn0, go_sem]
   repeat (with_reducible refine And.intro (by first | omega | exact ⟨rfl, by omega, by omega, by omega⟩ | assumption | exact ⟨by omega, by omega⟩ | (refine ⟨by omega, ?_⟩; simp only [ctP, ctG] at *; omega)) ?_)
   refine hK9 _ ?_
   refine AWP_seq_k fun K10 hK10 => ?_
   refine AWP_seq_k fun K11 hK11 => ?_
   refine AWP_wk (Wk_keep _ [1, 4, 5, 6, 7, 8] [116, 164, 196, 212, 452, 453, 454, 455, 456, 457, 458, 459, 516, 517, 518, 519, 520, 521, 522, 523, 564, 565, 566, 567, 568, 569, 570, 571]) ?_
   simp (maxSteps := 2000000) only [go_sem]
   refine AWP_region (G := G) (T := T_mHx64) T_mHx64_ok ?_
   simp (maxSteps := 2000000) only [hU, eqD_rfl, hn1, hUh0, hUn0, go_sem]
   repeat' (first | (with_reducible refine And.intro (by first | omega | exact ⟨rfl, by omega, by omega, by omega⟩ | assumption | exact ⟨by omega, by omega⟩ | (refine ⟨by omega, ?_⟩; simp only [ctP, ctG] at *; omega)) ?_) | (with_reducible refine gcase_dt (fun g8 => ?_) (fun g8 => ?_)) | (with_reducible refine gcase_df (fun g8 => ?_) (fun g8 => ?_)) | (with_reducible refine gcase_ndt (fun g8 => ?_) (fun g8 => ?_)) | (with_reducible refine gcase_ndf (fun g8 => ?_) (fun g8 => ?_)) | (with_reducible refine gcase_nt (fun g8 => ?_) (fun g8 => ?_)) | (with_reducible refine gcase_nf (fun g8 => ?_) (fun g8 => ?_)) | (with_reducible refine gcase_mk (fun g8 => ?_) (fun g8 => ?_)))
   all_goals
    refine hK11 _ ?_
    refine AWP_cond rfl ?_ ?_
    ·
     intro c1
     try simp only [decide_eq_true_eq, decide_eq_false_iff_not, Bool.not_eq_true', Bool.not_eq_false', ne_eq, Int.not_lt, Int.not_le, Bool.true_eq_false, Bool.false_eq_true] at c1
     all_goals
      all_goals first | (cases c1; done) | (simp at c1; done) | omega
    ·
     intro c1
     try simp only [decide_eq_true_eq, decide_eq_false_iff_not, Bool.not_eq_true', Bool.not_eq_false', ne_eq, Int.not_lt, Int.not_le, Bool.true_eq_false, Bool.false_eq_true] at c1
     all_goals
      refine AWP_skip ?_
      simp only [go_sem]
      refine hK10 _ ?_
      refine AWP_seq_k fun K12 hK12 => ?_
      refine AWP_seq_k fun K13 hK13 => ?_
      refine AWP_wk (Wk_keep _ [1, 4, 5, 6, 7, 8] [116, 164, 196, 212, 452, 453, 454, 455, 456, 457, 458, 459, 516, 517, 518, 519, 520, 521, 522, 523, 564, 565, 566, 567, 568, 569, 570, 571]) ?_
      simp (maxSteps := 2000000) only [go_sem]
      refine AWP_draw (G := G) (T := T_mHx64) T_mHx64_ok mixed
        [[], [], [1], [0, 1, 2], [0, 1, 2, 3]]
        [[788, 789, 790, 791, 792, 793, 794, 795, 796, 797, 798, 799, 800, 801, 802, 803], [], [], [], []]
        [[], [], [788, 789, 790, 791, 792, 793, 794, 795, 796, 797, 798, 799, 800, 801, 802, 803], [], []] (by kernel_rfl) (by kernel_rfl) (adrawR_ok (acc := []) ?_)
      simp (maxSteps := 2000000) only [hU, eqD_rfl, hn1, hUh0, hUn0, go_sem]
      repeat (with_reducible refine And.intro (by first | exact chk_leaf (by kernel_rfl) | omega | exact ⟨rfl, by omega, by omega, by omega⟩ | assumption | exact ⟨by omega, by omega⟩ | (refine ⟨by omega, ?_⟩; simp only [ctP, ctG] at *; omega)) ?_)
      refine hK13 _ ?_
      refine AWP_cond rfl ?_ ?_
      ·
       intro c2
       try simp only [decide_eq_true_eq, decide_eq_false_iff_not, Bool.not_eq_true', Bool.not_eq_false', ne_eq, Int.not_lt, Int.not_le, Bool.true_eq_false, Bool.false_eq_true] at c2
       all_goals
        all_goals first | (cases c2; done) | (simp at c2; done) | omega
      ·
       intro c2
       try simp only [decide_eq_true_eq, decide_eq_false_iff_not, Bool.not_eq_true', Bool.not_eq_false', ne_eq, Int.not_lt, Int.not_le, Bool.true_eq_false, Bool.false_eq_true] at c2
       all_goals
        refine AWP_skip ?_
        simp only [go_sem]
        refine hK12 _ ?_
        refine AWP_seq_k fun K14 hK14 => ?_
        refine AWP_region (G := G) (T := T_mHx64) T_mHx64_ok ?_
        simp only [hU, eqD_rfl, hn1, hUh0, hUn0, go_sem]
        repeat (with_reducible refine And.intro (by first | omega | exact ⟨rfl, by omega, by omega, by omega⟩ | assumption | exact ⟨by omega, by omega⟩ | (refine ⟨by omega, ?_⟩; simp only [ctP, ctG] at *; omega)) ?_)
        refine hK14 _ ?_
        refine AWP_seq_k fun K15 hK15 => ?_
        refine AWP_wk (Wk_keep _ [1, 4, 5, 6, 7, 8, 9] [116, 164, 196, 212, 452, 453, 454, 455, 456, 457, 458, 459, 516, 517, 518, 519, 520, 521, 522, 523, 564, 565, 566, 567, 568, 569, 570, 571]) ?_
        simp (maxSteps := 2000000) only [go_sem]
        refine AWP_region (G := G) (T := T_mHx64) T_mHx64_ok ?_
        simp only [hU, eqD_rfl, hn1, hUh0, hUn0, go_sem]
        repeat (with_reducible refine And.intro (by first | omega | exact ⟨rfl, by omega, by omega, by omega⟩ | assumption | exact ⟨by omega, by omega⟩ | (refine ⟨by omega, ?_⟩; simp only [ctP, ctG] at *; omega)) ?_)
        refine hK15 _ ?_
        refine AWP_seq_k fun K16 hK16 => ?_
        refine AWP_seq_k fun K17 hK17 => ?_
        refine AWP_wk (Wk_keep _ [1, 4, 5, 7, 8, 9] [116, 164, 212, 452, 453, 454, 455, 456, 457, 458, 459, 564, 565, 566, 567, 568, 569, 570, 571, 868, 869, 870, 871, 872, 873, 874, 875]) ?_
        simp (maxSteps := 2000000) only [go_sem]
        refine AWP_region (G := G) (T := T_mHx64) T_mHx64_ok ?_
        simp (maxSteps := 2000000) only [hU, eqD_rfl, hn1, hUh0, hUn0, go_sem]
        repeat' (first | (with_reducible refine And.intro (by first | omega | exact ⟨rfl, by omega, by omega, by omega⟩ | assumption | exact ⟨by omega, by omega⟩ | (refine ⟨by omega, ?_⟩; simp only [ctP, ctG] at *; omega)) ?_) | (with_reducible refine gcase_dt (fun g14 => ?_) (fun g14 => ?_)) | (with_reducible refine gcase_df (fun g14 => ?_) (fun g14 => ?_)) | (with_reducible refine gcase_ndt (fun g14 => ?_) (fun g14 => ?_)) | (with_reducible refine gcase_ndf (fun g14 => ?_) (fun g14 => ?_)) | (with_reducible refine gcase_nt (fun g14 => ?_) (fun g14 => ?_)) | (with_reducible refine gcase_nf (fun g14 => ?_) (fun g14 => ?_)) | (with_reducible refine gcase_mk (fun g14 => ?_) (fun g14 => ?_)))
        all_goals
         refine hK17 _ ?_
         refine AWP_cond rfl ?_ ?_
         ·
          intro c3
          try simp only [decide_eq_true_eq, decide_eq_false_iff_not, Bool.not_eq_true', Bool.not_eq_false', ne_eq, Int.not_lt, Int.not_le, Bool.true_eq_false, Bool.false_eq_true] at c3
          all_goals
           all_goals first | (cases c3; done) | (simp at c3; done) | omega
         ·
          intro c3
          try simp only [decide_eq_true_eq, decide_eq_false_iff_not, Bool.not_eq_true', Bool.not_eq_false', ne_eq, Int.not_lt, Int.not_le, Bool.true_eq_false, Bool.false_eq_true] at c3
          all_goals
           refine AWP_skip ?_
           simp only [go_sem]
           refine hK16 _ ?_
           refine AWP_seq_k fun K18 hK18 => ?_
           refine AWP_region (G := G) (T := T_mHx64) T_mHx64_ok ?_
           simp only [hU, eqD_rfl, hn1, hUh0, hUn0, go_sem]
           repeat (with_reducible refine And.intro (by first | omega | exact ⟨rfl, by omega, by omega, by omega⟩ | assumption | exact ⟨by omega, by omega⟩ | (refine ⟨by omega, ?_⟩; simp only [ctP, ctG] at *; omega)) ?_)
           refine hK18 _ ?_
           refine AWP_seq_k fun K19 hK19 => ?_
           refine AWP_wk (Wk_keep _ [1, 4, 5, 7, 10] [116, 164, 212, 452, 453, 454, 455, 456, 457, 458, 459, 564, 565, 566, 567, 568, 569, 570, 571]) ?_
           simp (maxSteps := 2000000) only [go_sem]
           refine AWP_region (G := G) (T := T_mHx64) T_mHx64_ok ?_
           simp only [hU, eqD_rfl, hn1, hUh0, hUn0, go_sem]
           repeat (with_reducible refine And.intro (by first | omega | exact ⟨rfl, by omega, by omega, by omega⟩ | assumption | exact ⟨by omega, by omega⟩ | (refine ⟨by omega, ?_⟩; simp only [ctP, ctG] at *; omega)) ?_)
           refine hK19 _ ?_
           refine AWP_seq_k fun K20 hK20 => ?_
           refine AWP_region (G := G) (T := T_mHx64) T_mHx64_ok ?_
           simp only [hU, eqD_rfl, hn1, hUh0, hUn0, go_sem]
           repeat (with_reducible refine And.intro (by first | omega | exact ⟨rfl, by omega, by omega, by omega⟩ | assumption | exact ⟨by omega, by omega⟩ | (refine ⟨by omega, ?_⟩; simp only [ctP, ctG] at *; omega)) ?_)
           refine hK20 _ ?_
           refine AWP_seq_k fun K21 hK21 => ?_
           refine AWP_wk (Wk_keep _ [1, 4, 5, 7, 10, 11] [116, 164, 212, 452, 453, 454, 455, 456, 457, 458, 459, 564, 565, 566, 567, 568, 569, 570, 571, 1124, 1125, 1126, 1127, 1128, 1129, 1130, 1131]) ?_
           simp (maxSteps := 2000000) only [go_sem]
           refine AWP_region (G := G) (T := T_mHx64) T_mHx64_ok ?_
           simp only [hU, eqD_rfl, hn1, hUh0, hUn0, go_sem]
           repeat (with_reducible refine And.intro (by first | omega | exact ⟨rfl, by omega, by omega, by omega⟩ | assumption | exact ⟨by omega, by omega⟩ | (refine ⟨by omega, ?_⟩; simp only [ctP, ctG] at *; omega)) ?_)
           refine hK21 _ ?_
           refine AWP_seq_k fun K22 hK22 => ?_
           refine AWP_seq_k fun K23 hK23 => ?_
           refine AWP_region (G := G) (T := T_mHx64) T_mHx64_ok ?_
           simp only [hU, eqD_rfl, hn1, hUh0, hUn0, go_sem]
           repeat (with_reducible refine And.intro (by first | omega | exact ⟨rfl, by omega, by omega, by omega⟩ | assumption | exact ⟨by omega, by omega⟩ | (refine ⟨by omega, ?_⟩; simp only [ctP, ctG] at *; omega)) ?_)
           refine hK23 _ ?_
           refine AWP_cond rfl ?_ ?_
           ·
            intro c4
            try simp only [decide_eq_true_eq, decide_eq_false_iff_not, Bool.not_eq_true', Bool.not_eq_false', ne_eq, Int.not_lt, Int.not_le, Bool.true_eq_false, Bool.false_eq_true] at c4
            all_goals
             all_goals first | (cases c4; done) | (simp at c4; done) | omega
           ·
            intro c4
            try simp only [decide_eq_true_eq, decide_eq_false_iff_not, Bool.not_eq_true', Bool.not_eq_false', ne_eq, Int.not_lt, Int.not_le, Bool.true_eq_false, Bool.false_eq_true] at c4
            all_goals
             refine AWP_skip ?_
             simp only [go_sem]
             refine hK22 _ ?_
             refine AWP_seq_k fun K24 hK24 => ?_
             refine AWP_seq_k fun K25 hK25 => ?_
             refine AWP_region (G := G) (T := T_mHx64) T_mHx64_ok ?_
             simp only [hU, eqD_rfl, hn1, hUh0, hUn0, go_sem]
             repeat (with_reducible refine And.intro (by first | omega | exact ⟨rfl, by omega, by omega, by omega⟩ | assumption | exact ⟨by omega, by omega⟩ | (refine ⟨by omega, ?_⟩; simp only [ctP, ctG] at *; omega)) ?_)
             refine hK25 _ ?_
             refine AWP_cond rfl ?_ ?_
             ·
              intro c5
              try simp only [decide_eq_true_eq, decide_eq_false_iff_not, Bool.not_eq_true', Bool.not_eq_false', ne_eq, Int.not_lt, Int.not_le, Bool.true_eq_false, Bool.false_eq_true] at c5
              all_goals
               all_goals first | (cases c5; done) | (simp at c5; done) | omega
             ·
              intro c5
              try simp only [decide_eq_true_eq, decide_eq_false_iff_not, Bool.not_eq_true', Bool.not_eq_false', ne_eq, Int.not_lt, Int.not_le, Bool.true_eq_false, Bool.false_eq_true] at c5
              all_goals
               refine AWP_skip ?_
               simp only [go_sem]
               refine hK24 _ ?_
               refine AWP_seq_k fun K26 hK26 => ?_
               refine AWP_wk (Wk_keep _ [1, 4, 5, 7, 10] [116, 164, 212, 452, 453, 454, 455, 456, 457, 458, 459, 564, 565, 566, 567, 568, 569, 570, 571, 1124, 1125, 1126, 1127, 1128, 1129, 1130, 1131]) ?_
               simp (maxSteps := 2000000) only [go_sem]
               refine AWP_region (G := G) (T := T_mHx64) T_mHx64_ok ?_
               simp (maxSteps := 2000000) only [hU, eqD_rfl, hn1, hUh0, hUn0, go_sem]
               repeat (with_reducible refine And.intro (by first | omega | exact ⟨rfl, by omega, by omega, by omega⟩ | assumption | exact ⟨by omega, by omega⟩ | (refine ⟨by omega, ?_⟩; simp only [ctP, ctG] at *; omega)) ?_)
               refine hK26 _ ?_
               refine AWP_seq_k fun K27 hK27 => ?_
               refine AWP_seq_k fun K28 hK28 => ?_
               refine AWP_wk (Wk_keep _ [4, 5, 7, 10, 12, 13] [164, 212, 292, 452, 453, 454, 455, 456, 457, 458, 459, 564, 565, 566, 567, 568, 569, 570, 571, 1124, 1125, 1126, 1127, 1128, 1129, 1130, 1131, 1316, 1317, 1318, 1319, 1320, 1321, 1322, 1323]) ?_
               simp (maxSteps := 2000000) only [go_sem]
               refine AWP_region (G := G) (T := T_mHx64) T_mHx64_ok ?_
               simp (maxSteps := 2000000) only [hU, eqD_rfl, hn1, hUh0, hUn0, go_sem]
               repeat' (first | (with_reducible refine And.intro (by first | omega | exact ⟨rfl, by omega, by omega, by omega⟩ | assumption | exact ⟨by omega, by omega⟩ | (refine ⟨by omega, ?_⟩; simp only [ctP, ctG] at *; omega)) ?_) | (with_reducible refine gcase_dt (fun g25 => ?_) (fun g25 => ?_)) | (with_reducible refine gcase_df (fun g25 => ?_) (fun g25 => ?_)) | (with_reducible refine gcase_ndt (fun g25 => ?_) (fun g25 => ?_)) | (with_reducible refine gcase_ndf (fun g25 => ?_) (fun g25 => ?_)) | (with_reducible refine gcase_nt (fun g25 => ?_) (fun g25 => ?_)) | (with_reducible refine gcase_nf (fun g25 => ?_) (fun g25 => ?_)) | (with_reducible refine gcase_mk (fun g25 => ?_) (fun g25 => ?_)))
               all_goals
                refine hK28 _ ?_
                refine AWP_cond rfl ?_ ?_
                ·
                 intro c6
                 try simp only [decide_eq_true_eq, decide_eq_false_iff_not, Bool.not_eq_true', Bool.not_eq_false', ne_eq, Int.not_lt, Int.not_le, Bool.true_eq_false, Bool.false_eq_true] at c6
                 all_goals
                  all_goals first | (cases c6; done) | (simp at c6; done) | omega
                ·
                 intro c6
                 try simp only [decide_eq_true_eq, decide_eq_false_iff_not, Bool.not_eq_true', Bool.not_eq_false', ne_eq, Int.not_lt, Int.not_le, Bool.true_eq_false, Bool.false_eq_true] at c6
                 all_goals
                  refine AWP_skip ?_
                  simp only [go_sem]
                  refine hK27 _ ?_
                  refine AWP_seq_k fun K29 hK29 => ?_
                  refine AWP_region (G := G) (T := T_mHx64) T_mHx64_ok ?_
                  simp only [hU, eqD_rfl, hn1, hUh0, hUn0, go_sem]
                  repeat (with_reducible refine And.intro (by first | omega | exact ⟨rfl, by omega, by omega, by omega⟩ | assumption | exact ⟨by omega, by omega⟩ | (refine ⟨by omega, ?_⟩; simp only [ctP, ctG] at *; omega)) ?_)
                  refine hK29 _ ?_
                  refine AWP_seq_k fun K30 hK30 => ?_
                  refine AWP_wk (Wk_keep _ [7, 10, 11] [212, 564, 565, 566, 567, 568, 569, 570, 571, 1124, 1125, 1126, 1127, 1128, 1129, 1130, 1131]) ?_
                  simp (maxSteps := 2000000) only [go_sem]
                  refine AWP_region (G := G) (T := T_mHx64) T_mHx64_ok ?_
                  simp only [hU, eqD_rfl, hn1, hUh0, hUn0, go_sem]
                  repeat (with_reducible refine And.intro (by first | omega | exact ⟨rfl, by omega, by omega, by omega⟩ | assumption | exact ⟨by omega, by omega⟩ | (refine ⟨by omega, ?_⟩; simp only [ctP, ctG] at *; omega)) ?_)
                  refine hK30 _ ?_
                  refine AWP_seq_k fun K31 hK31 => ?_
                  refine AWP_seq_k fun K32 hK32 => ?_
                  refine AWP_region (G := G) (T := T_mHx64) T_mHx64_ok ?_
                  simp only [hU, eqD_rfl, hn1, hUh0, hUn0, go_sem]
                  repeat (with_reducible refine And.intro (by first | omega | exact ⟨rfl, by omega, by omega, by omega⟩ | assumption | exact ⟨by omega, by omega⟩ | (refine ⟨by omega, ?_⟩; simp only [ctP, ctG] at *; omega)) ?_)
                  refine hK32 _ ?_
                  refine AWP_cond rfl ?_ ?_
                  ·
                   intro c7
                   try simp only [decide_eq_true_eq, decide_eq_false_iff_not, Bool.not_eq_true', Bool.not_eq_false', ne_eq, Int.not_lt, Int.not_le, Bool.true_eq_false, Bool.false_eq_true] at c7
                   all_goals
                    all_goals first | (cases c7; done) | (simp at c7; done) | omega
                  ·
                   intro c7
                   try simp only [decide_eq_true_eq, decide_eq_false_iff_not, Bool.not_eq_true', Bool.not_eq_false', ne_eq, Int.not_lt, Int.not_le, Bool.true_eq_false, Bool.false_eq_true] at c7
                   all_goals
                    refine AWP_skip ?_
                    simp only [go_sem]
                    refine hK31 _ ?_
                    refine AWP_seq_k fun K33 hK33 => ?_
                    refine AWP_seq_k fun K34 hK34 => ?_
                    refine AWP_region (G := G) (T := T_mHx64) T_mHx64_ok ?_
                    simp only [hU, eqD_rfl, hn1, hUh0, hUn0, go_sem]
                    repeat (with_reducible refine And.intro (by first | omega | exact ⟨rfl, by omega, by omega, by omega⟩ | assumption | exact ⟨by omega, by omega⟩ | (refine ⟨by omega, ?_⟩; simp only [ctP, ctG] at *; omega)) ?_)
                    refine hK34 _ ?_
                    refine AWP_cond rfl ?_ ?_
                    ·
                     intro c8
                     try simp only [decide_eq_true_eq, decide_eq_false_iff_not, Bool.not_eq_true', Bool.not_eq_false', ne_eq, Int.not_lt, Int.not_le, Bool.true_eq_false, Bool.false_eq_true] at c8
                     all_goals
                      all_goals first | (cases c8; done) | (simp at c8; done) | omega
                    ·
                     intro c8
                     try simp only [decide_eq_true_eq, decide_eq_false_iff_not, Bool.not_eq_true', Bool.not_eq_false', ne_eq, Int.not_lt, Int.not_le, Bool.true_eq_false, Bool.false_eq_true] at c8
                     all_goals
                      refine AWP_skip ?_
                      simp only [go_sem]
                      refine hK33 _ ?_
                      refine AWP_seq_k fun K35 hK35 => ?_
                      refine AWP_region (G := G) (T := T_mHx64) T_mHx64_ok ?_
                      simp only [hU, eqD_rfl, hn1, hUh0, hUn0, go_sem]
                      repeat (with_reducible refine And.intro (by first | omega | exact ⟨rfl, by omega, by omega, by omega⟩ | assumption | exact ⟨by omega, by omega⟩ | (refine ⟨by omega, ?_⟩; simp only [ctP, ctG] at *; omega)) ?_)
                      refine hK35 _ ?_
                      refine AWP_ret ?_
                      simp only [hres, go_sem]
                      first
                        | exact finOk_mk (by rfl) (by decide)
                        | refine ⟨?_, finOk_mk (by rfl) (by decide)⟩
                          rfl

theorem lawMakeP_fn : FnOk Try.prog 10 := fnOk_of Try.func10 rfl (by decide)

def T_lawMakeP : Tab := fun f => if f = 10 then some (.p K_lawMakeP) else T_mHx64 f
theorem T_lawMakeP_ok : TabOk Try.prog T_lawMakeP := fun f k h => by
  unfold T_lawMakeP at h
  split at h
  · rename_i e; cases h; subst e; exact ⟨lawMakeP_ok, lawMakeP_fn⟩
  · exact T_mHx64_ok f k h
attribute [go_sem] T_lawMakeP K_lawMakeP

end Go.Proofs.Ythglggjgjlmhlaa
