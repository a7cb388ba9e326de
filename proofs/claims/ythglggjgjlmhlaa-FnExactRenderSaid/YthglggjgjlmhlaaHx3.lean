/-
  Contracts of functions: FnExactRender.
-/
import Derived.Test.YthglggjgjlmhlaaHl1
import Derived.Test.YthglggjgjlmhlaaHl2
import Derived.Test.YthglggjgjlmhlaaHl4
import Derived.Test.YthglggjgjlmhlaaHb15
import Derived.Test.YthglggjgjlmhlaaHb16
import Derived.Test.YthglggjgjlmhlaaPi
import Derived.Test.YthglggjgjlmhlaaGp
namespace Go.Proofs.Ythglggjgjlmhlaa
open Go.RowKit
set_option linter.unusedSimpArgs false
set_option linter.unusedVariables false

def T_mHx30 : Tab := fun f => match T_toP f with
  | some k => some k
  | none => T_eqP f
theorem T_mHx30_ok : TabOk Try.prog T_mHx30 := fun f k h => by
  unfold T_mHx30 at h
  split at h
  · rename_i e; cases h; exact T_toP_ok f _ e
  · exact T_eqP_ok f k h
attribute [go_sem] T_mHx30 T0


def T_mHx31 : Tab := fun f => match T_mHx30 f with
  | some k => some k
  | none => T_markP f
theorem T_mHx31_ok : TabOk Try.prog T_mHx31 := fun f k h => by
  unfold T_mHx31 at h
  split at h
  · rename_i e; cases h; exact T_mHx30_ok f _ e
  · exact T_markP_ok f k h
attribute [go_sem] T_mHx31 T0


def T_mHx32 : Tab := fun f => match T_mHx31 f with
  | some k => some k
  | none => T_implRender f
theorem T_mHx32_ok : TabOk Try.prog T_mHx32 := fun f k h => by
  unfold T_mHx32 at h
  split at h
  · rename_i e; cases h; exact T_mHx31_ok f _ e
  · exact T_implRender_ok f k h
attribute [go_sem] T_mHx32 T0


def T_mHx33 : Tab := fun f => match T_mHx32 f with
  | some k => some k
  | none => T_specRender f
theorem T_mHx33_ok : TabOk Try.prog T_mHx33 := fun f k h => by
  unfold T_mHx33 at h
  split at h
  · rename_i e; cases h; exact T_mHx32_ok f _ e
  · exact T_specRender_ok f k h
attribute [go_sem] T_mHx33 T0


def K_lawRender : Con := ⟨[.val ((.prod (.int .i64) (.prod (.row 24 (.row 2 (.int .i64))) (.prod (.row 136 (.prod (.int .i64) (.prod (.int .i64) (.prod (.int .i64) (.row 2 (.int .i64)))))) (.row 2 (.int .i64)))))), .val ((.row 24 (.row 2 (.int .i64)))), .val (.int .i64)], [⟨.bool, true⟩], fun _ => True, fun _ => true⟩
set_option maxRecDepth 100000 in
set_option maxHeartbeats 16000000 in
theorem lawRender_ok : PureT Try.prog 4 K_lawRender := by
  refine pure_of_body Try.func4 rfl ?_
  have hres : Try.f4.results.toList = [.tmp 6] := rfl
  rintro ⟨⟨(pi : Int), (ts : List (List Int)), (ns : List NodeD), (os : List Int)⟩, (ins : List (List Int)), (nn : Int), _⟩ hc hL
  simp only [K_lawRender, lensOk, PK.lenOk, glensOk, GP.lenOk, flensOk, GO.lenOk, olensOk, Ty.lenOk, Ty.flat, Bool.and_true, Bool.true_and, Bool.and_false, Bool.false_and, true_and, and_true, implies_true, forall_const] at hL
  simp only [K_lawRender, St.init, St.initG, Try.ntmps4, go_sem] 
  obtain ⟨U, hU⟩ : ∃ U, renderR (pi, ts, ns, os) ins nn = U := ⟨_, rfl⟩
  have hUb0 : cntA List.length U.1 ≤ 1000000 := by rw [← hU]; exact renderR_bd _ _ _
  have hUh0 : heldA markL List.length (1) (markLL (1) U.1) = 1 + ((cntA List.length U.1 : Nat) : Int) := heldA_mark (fun _ _ => markA_len) markL_idem
  have hUm0 : mkOk (1) (cntA List.length (markLL (1) U.1)) := by rw [markA_cnt (fun (_ : Int) (_ : List Int) => (markA_len : (markL _ _).length = _))]; exact ⟨by omega, by omega⟩
  have hUn0 : decide (1 + ((cntA List.length U.1 : Nat) : Int) < 0) = false := decide_eq_false (by omega)
  refine AWP_seq_k fun K1 hK1 => ?_
  refine AWP_wk (Wk_keep _ [0, 1, 2] []) ?_
  simp (maxSteps := 2000000) only [go_sem]
  refine AWP_region (G := G) (T := T_mHx33) T_mHx33_ok ?_
  simp only [go_sem]
  repeat (with_reducible refine And.intro (by first | omega | exact ⟨rfl, by omega, by omega, by omega⟩ | assumption | exact ⟨by omega, by omega⟩ | (refine ⟨by omega, ?_⟩; simp only [ctP] at *; omega)) ?_)
  refine hK1 _ ?_
  refine AWP_seq_k fun K2 hK2 => ?_
  refine AWP_region (G := G) (T := T_mHx33) T_mHx33_ok ?_
  simp only [go_sem]
  repeat (with_reducible refine And.intro (by first | omega | exact ⟨rfl, by omega, by omega, by omega⟩ | assumption | exact ⟨by omega, by omega⟩ | (refine ⟨by omega, ?_⟩; simp only [ctP] at *; omega)) ?_)
  refine hK2 _ ?_
  refine AWP_seq_k fun K3 hK3 => ?_
  refine AWP_wk (Wk_keep _ [1, 2, 3, 7] [148]) ?_
  simp (maxSteps := 2000000) only [go_sem]
  refine AWP_region (G := G) (T := T_mHx33) T_mHx33_ok ?_
  simp only [go_sem]
  repeat (with_reducible refine And.intro (by first | omega | exact ⟨rfl, by omega, by omega, by omega⟩ | assumption | exact ⟨by omega, by omega⟩ | (refine ⟨by omega, ?_⟩; simp only [ctP] at *; omega)) ?_)
  refine hK3 _ ?_
  refine AWP_seq_k fun K4 hK4 => ?_
  refine AWP_seq_k fun K5 hK5 => ?_
  refine AWP_region (G := G) (T := T_mHx33) T_mHx33_ok ?_
  simp only [go_sem]
  repeat (with_reducible refine And.intro (by first | omega | exact ⟨rfl, by omega, by omega, by omega⟩ | assumption | exact ⟨by omega, by omega⟩ | (refine ⟨by omega, ?_⟩; simp only [ctP] at *; omega)) ?_)
  refine hK5 _ ?_
  refine AWP_cond rfl ?_ ?_
  ·
   intro c0
   try simp only [decide_eq_true_eq, decide_eq_false_iff_not, Bool.not_eq_true', Bool.not_eq_false', ne_eq, Int.not_lt, Int.not_le] at c0
   refine AWP_seq_k fun K6 hK6 => ?_
   refine AWP_region (G := G) (T := T_mHx33) T_mHx33_ok ?_
   simp only [go_sem]
   repeat (with_reducible refine And.intro (by first | omega | exact ⟨rfl, by omega, by omega, by omega⟩ | assumption | exact ⟨by omega, by omega⟩ | (refine ⟨by omega, ?_⟩; simp only [ctP] at *; omega)) ?_)
   refine hK6 _ ?_
   refine AWP_ret ?_
   simp only [hres, go_sem]
   first
     | exact finOk_mk (by rfl) (by decide)
     | refine ⟨?_, finOk_mk (by rfl) (by decide)⟩
       rfl
  ·
   intro c0
   try simp only [decide_eq_true_eq, decide_eq_false_iff_not, Bool.not_eq_true', Bool.not_eq_false', ne_eq, Int.not_lt, Int.not_le] at c0
   obtain ⟨e0, e0'⟩ := szR_ge' c0
   have f0 : fitsP (pi, ts, ns, os) := fitsP_sz (by omega)
   have g0 := ctP_le (pi, ts, ns, os)
   have hz0 : ctP (0, ts, ns, os) = ctP (pi, ts, ns, os) := rfl
   refine AWP_skip ?_
   simp only [go_sem]
   refine hK4 _ ?_
   refine AWP_seq_k fun K7 hK7 => ?_
   refine AWP_wk (Wk_keep _ [1, 2, 3, 7] [148, 436, 437, 438, 439, 440, 441, 442, 443]) ?_
   simp (maxSteps := 2000000) only [go_sem]
   refine AWP_region (G := G) (T := T_mHx33) T_mHx33_ok ?_
   simp only [go_sem]
   repeat (with_reducible refine And.intro (by first | omega | exact ⟨rfl, by omega, by omega, by omega⟩ | assumption | exact ⟨by omega, by omega⟩ | (refine ⟨by omega, ?_⟩; simp only [ctP] at *; omega)) ?_)
   refine hK7 _ ?_
   refine AWP_seq_k fun K8 hK8 => ?_
   refine AWP_seq_k fun K9 hK9 => ?_
   refine AWP_region (G := G) (T := T_mHx33) T_mHx33_ok ?_
   simp only [go_sem]
   repeat (with_reducible refine And.intro (by first | omega | exact ⟨rfl, by omega, by omega, by omega⟩ | assumption | exact ⟨by omega, by omega⟩ | (refine ⟨by omega, ?_⟩; simp only [ctP] at *; omega)) ?_)
   refine hK9 _ ?_
   refine AWP_cond rfl ?_ ?_
   ·
    intro c1
    try simp only [decide_eq_true_eq, decide_eq_false_iff_not, Bool.not_eq_true', Bool.not_eq_false', ne_eq, Int.not_lt, Int.not_le] at c1
    refine AWP_seq_k fun K10 hK10 => ?_
    refine AWP_region (G := G) (T := T_mHx33) T_mHx33_ok ?_
    simp only [go_sem]
    repeat (with_reducible refine And.intro (by first | omega | exact ⟨rfl, by omega, by omega, by omega⟩ | assumption | exact ⟨by omega, by omega⟩ | (refine ⟨by omega, ?_⟩; simp only [ctP] at *; omega)) ?_)
    refine hK10 _ ?_
    refine AWP_ret ?_
    simp only [hres, go_sem]
    first
      | exact finOk_mk (by rfl) (by decide)
      | refine ⟨?_, finOk_mk (by rfl) (by decide)⟩
        rfl
   ·
    intro c1
    try simp only [decide_eq_true_eq, decide_eq_false_iff_not, Bool.not_eq_true', Bool.not_eq_false', ne_eq, Int.not_lt, Int.not_le] at c1
    obtain ⟨e1, e1'⟩ := szR_ge' c1
    have f1 : fitsL ins := fitsL_sz (by omega)
    have g1 := cnt_sz ins
    have hn1 : decide (1 + (ctP (0, ts, ns, os) : Int) + ((cntA List.length ins : Nat) : Int) < 0) = false := decide_eq_false (by omega)
    refine AWP_skip ?_
    simp only [go_sem]
    refine hK8 _ ?_
    refine AWP_seq_k fun K11 hK11 => ?_
    refine AWP_wk (Wk_keep _ [1, 2, 3] [148]) ?_
    simp (maxSteps := 2000000) only [go_sem]
    refine AWP_region (G := G) (T := T_mHx33) T_mHx33_ok ?_
    simp (maxSteps := 2000000) only [hU, eqD_rfl, hn1, hUh0, hUn0, go_sem]
    repeat (with_reducible refine And.intro (by first | omega | exact ⟨rfl, by omega, by omega, by omega⟩ | assumption | exact ⟨by omega, by omega⟩ | (refine ⟨by omega, ?_⟩; simp only [ctP] at *; omega)) ?_)
    refine hK11 _ ?_
    refine AWP_seq_k fun K12 hK12 => ?_
    refine AWP_wk (Wk_keep _ [1, 2, 3, 8, 9] [148, 660, 661, 662, 663, 664, 665, 666, 667]) ?_
    simp (maxSteps := 2000000) only [go_sem]
    refine AWP_region (G := G) (T := T_mHx33) T_mHx33_ok ?_
    simp only [hU, eqD_rfl, hn1, hUh0, hUn0, go_sem]
    repeat (with_reducible refine And.intro (by first | omega | exact ⟨rfl, by omega, by omega, by omega⟩ | assumption | exact ⟨by omega, by omega⟩ | (refine ⟨by omega, ?_⟩; simp only [ctP] at *; omega)) ?_)
    refine hK12 _ ?_
    refine AWP_seq_k fun K13 hK13 => ?_
    refine AWP_wk (Wk_keep _ [1, 2, 3, 8, 9, 10] [148, 260, 660, 661, 662, 663, 664, 665, 666, 667, 724, 725, 726, 727, 728, 729, 730, 731]) ?_
    simp (maxSteps := 2000000) only [go_sem]
    refine AWP_region (G := G) (T := T_mHx33) T_mHx33_ok ?_
    simp only [hU, eqD_rfl, hn1, hUh0, hUn0, go_sem]
    repeat (with_reducible refine And.intro (by first | omega | exact ⟨rfl, by omega, by omega, by omega⟩ | assumption | exact ⟨by omega, by omega⟩ | (refine ⟨by omega, ?_⟩; simp only [ctP] at *; omega)) ?_)
    refine hK13 _ ?_
    refine AWP_seq_k fun K14 hK14 => ?_
    refine AWP_wk (Wk_keep _ [1, 2, 3, 8, 9, 10, 11] [148, 260, 660, 661, 662, 663, 664, 665, 666, 667, 724, 725, 726, 727, 728, 729, 730, 731, 756, 757, 758, 759, 760, 761, 762, 763]) ?_
    simp (maxSteps := 2000000) only [go_sem]
    refine AWP_region (G := G) (T := T_mHx33) T_mHx33_ok ?_
    simp (maxSteps := 2000000) only [hU, eqD_rfl, hn1, hUh0, hUn0, go_sem]
    repeat (with_reducible refine And.intro (by first | omega | exact ⟨rfl, by omega, by omega, by omega⟩ | assumption | exact ⟨by omega, by omega⟩ | (refine ⟨by omega, ?_⟩; simp only [ctP] at *; omega)) ?_)
    refine hK14 _ ?_
    refine AWP_seq_k fun K15 hK15 => ?_
    refine AWP_seq_k fun K16 hK16 => ?_
    refine AWP_wk (Wk_keep _ [1, 2, 3, 8, 9, 10, 11, 12, 13] [148, 260, 660, 661, 662, 663, 664, 665, 666, 667, 724, 725, 726, 727, 728, 729, 730, 731, 756, 757, 758, 759, 760, 761, 762, 763, 836, 837, 838, 839, 840, 841, 842, 843]) ?_
    simp (maxSteps := 2000000) only [go_sem]
    refine AWP_region (G := G) (T := T_mHx33) T_mHx33_ok ?_
    simp (maxSteps := 2000000) only [hU, eqD_rfl, hn1, hUh0, hUn0, go_sem]
    repeat' (first | (with_reducible refine And.intro (by first | omega | exact ⟨rfl, by omega, by omega, by omega⟩ | assumption | exact ⟨by omega, by omega⟩ | (refine ⟨by omega, ?_⟩; simp only [ctP] at *; omega)) ?_) | (with_reducible refine gcase_dt (fun g12 => ?_) (fun g12 => ?_)) | (with_reducible refine gcase_df (fun g12 => ?_) (fun g12 => ?_)) | (with_reducible refine gcase_ndt (fun g12 => ?_) (fun g12 => ?_)) | (with_reducible refine gcase_ndf (fun g12 => ?_) (fun g12 => ?_)) | (with_reducible refine gcase_nt (fun g12 => ?_) (fun g12 => ?_)) | (with_reducible refine gcase_nf (fun g12 => ?_) (fun g12 => ?_)) | (with_reducible refine gcase_mk (fun g12 => ?_) (fun g12 => ?_)))
    all_goals
     refine hK16 _ ?_
     refine AWP_cond rfl ?_ ?_
     ·
      intro c2
      try simp only [decide_eq_true_eq, decide_eq_false_iff_not, Bool.not_eq_true', Bool.not_eq_false', ne_eq, Int.not_lt, Int.not_le, Bool.true_eq_false, Bool.false_eq_true] at c2
      all_goals
       all_goals first | (cases c2; done) | (simp at c2; done) | omega
     ·
      intro c2
      try simp only [decide_eq_true_eq, decide_eq_false_iff_not, Bool.not_eq_true', Bool.not_eq_false', ne_eq, Int.not_lt, Int.not_le, Bool.true_eq_false, Bool.false_eq_true] at c2
      all_goals
       refine AWP_skip ?_
       simp only [go_sem]
       refine hK15 _ ?_
       refine AWP_seq_k fun K17 hK17 => ?_
       refine AWP_seq_k fun K18 hK18 => ?_
       refine AWP_wk (Wk_keep _ [1, 2, 3, 8, 9, 10, 11, 12, 13] [148, 260, 660, 661, 662, 663, 664, 665, 666, 667, 724, 725, 726, 727, 728, 729, 730, 731, 756, 757, 758, 759, 760, 761, 762, 763, 836, 837, 838, 839, 840, 841, 842, 843]) ?_
       simp (maxSteps := 2000000) only [go_sem]
       refine AWP_draw (G := G) (T := T_mHx33) T_mHx33_ok mixed
         [[], [], [1], [0, 1, 2], [0, 1, 2, 3]]
         [[1060, 1061, 1062, 1063, 1064, 1065, 1066, 1067, 1068, 1069, 1070, 1071, 1072, 1073, 1074, 1075], [], [], [], []]
         [[], [], [1060, 1061, 1062, 1063, 1064, 1065, 1066, 1067, 1068, 1069, 1070, 1071, 1072, 1073, 1074, 1075], [], []] (by kernel_rfl) (by kernel_rfl) (adrawR_ok (acc := []) ?_)
       simp (maxSteps := 2000000) only [hU, eqD_rfl, hn1, hUh0, hUn0, go_sem]
       repeat (with_reducible refine And.intro (by first | exact chk_leaf (by kernel_rfl) | omega | exact ⟨rfl, by omega, by omega, by omega⟩ | assumption | exact ⟨by omega, by omega⟩ | (refine ⟨by omega, ?_⟩; simp only [ctP] at *; omega)) ?_)
       refine hK18 _ ?_
       refine AWP_cond rfl ?_ ?_
       ·
        intro c3
        try simp only [decide_eq_true_eq, decide_eq_false_iff_not, Bool.not_eq_true', Bool.not_eq_false', ne_eq, Int.not_lt, Int.not_le, Bool.true_eq_false, Bool.false_eq_true] at c3
        all_goals
         all_goals first | (cases c3; done) | (simp at c3; done) | omega
       ·
        intro c3
        try simp only [decide_eq_true_eq, decide_eq_false_iff_not, Bool.not_eq_true', Bool.not_eq_false', ne_eq, Int.not_lt, Int.not_le, Bool.true_eq_false, Bool.false_eq_true] at c3
        all_goals
         refine AWP_skip ?_
         simp only [go_sem]
         refine hK17 _ ?_
         refine AWP_seq_k fun K19 hK19 => ?_
         refine AWP_seq_k fun K20 hK20 => ?_
         refine AWP_wk (Wk_keep _ [1, 2, 3, 8, 9, 10, 11, 12, 13] [148, 260, 660, 661, 662, 663, 664, 665, 666, 667, 724, 725, 726, 727, 728, 729, 730, 731, 756, 757, 758, 759, 760, 761, 762, 763, 836, 837, 838, 839, 840, 841, 842, 843]) ?_
         simp (maxSteps := 2000000) only [go_sem]
         refine AWP_region (G := G) (T := T_mHx33) T_mHx33_ok ?_
         simp (maxSteps := 2000000) only [hU, eqD_rfl, hn1, hUh0, hUn0, go_sem]
         repeat (with_reducible refine And.intro (by first | omega | exact ⟨rfl, by omega, by omega, by omega⟩ | assumption | exact ⟨by omega, by omega⟩ | (refine ⟨by omega, ?_⟩; simp only [ctP] at *; omega)) ?_)
         refine hK20 _ ?_
         refine AWP_cond rfl ?_ ?_
         ·
          intro c4
          try simp only [decide_eq_true_eq, decide_eq_false_iff_not, Bool.not_eq_true', Bool.not_eq_false', ne_eq, Int.not_lt, Int.not_le, Bool.true_eq_false, Bool.false_eq_true] at c4
          all_goals
           all_goals first | (cases c4; done) | (simp at c4; done) | omega
         ·
          intro c4
          try simp only [decide_eq_true_eq, decide_eq_false_iff_not, Bool.not_eq_true', Bool.not_eq_false', ne_eq, Int.not_lt, Int.not_le, Bool.true_eq_false, Bool.false_eq_true] at c4
          all_goals
           refine AWP_skip ?_
           simp only [go_sem]
           refine hK19 _ ?_
           refine AWP_seq_k fun K21 hK21 => ?_
           refine AWP_region (G := G) (T := T_mHx33) T_mHx33_ok ?_
           simp only [hU, eqD_rfl, hn1, hUh0, hUn0, go_sem]
           repeat (with_reducible refine And.intro (by first | omega | exact ⟨rfl, by omega, by omega, by omega⟩ | assumption | exact ⟨by omega, by omega⟩ | (refine ⟨by omega, ?_⟩; simp only [ctP] at *; omega)) ?_)
           refine hK21 _ ?_
           refine AWP_seq_k fun K22 hK22 => ?_
           refine AWP_wk (Wk_keep _ [1, 2, 3, 8, 9, 10, 11, 12, 13, 14] [148, 260, 660, 661, 662, 663, 664, 665, 666, 667, 724, 725, 726, 727, 728, 729, 730, 731, 756, 757, 758, 759, 760, 761, 762, 763, 836, 837, 838, 839, 840, 841, 842, 843]) ?_
           simp (maxSteps := 2000000) only [go_sem]
           refine AWP_region (G := G) (T := T_mHx33) T_mHx33_ok ?_
           simp only [hU, eqD_rfl, hn1, hUh0, hUn0, go_sem]
           repeat (with_reducible refine And.intro (by first | omega | exact ⟨rfl, by omega, by omega, by omega⟩ | assumption | exact ⟨by omega, by omega⟩ | (refine ⟨by omega, ?_⟩; simp only [ctP] at *; omega)) ?_)
           refine hK22 _ ?_
           refine AWP_seq_k fun K23 hK23 => ?_
           refine AWP_wk (Wk_keep _ [1, 2, 3, 8, 9, 11, 12, 13, 14] [148, 660, 661, 662, 663, 664, 665, 666, 667, 756, 757, 758, 759, 760, 761, 762, 763, 836, 837, 838, 839, 840, 841, 842, 843, 1220, 1221, 1222, 1223, 1224, 1225, 1226, 1227]) ?_
           simp (maxSteps := 2000000) only [go_sem]
           refine AWP_region (G := G) (T := T_mHx33) T_mHx33_ok ?_
           simp only [hU, eqD_rfl, hn1, hUh0, hUn0, go_sem]
           repeat (with_reducible refine And.intro (by first | omega | exact ⟨rfl, by omega, by omega, by omega⟩ | assumption | exact ⟨by omega, by omega⟩ | (refine ⟨by omega, ?_⟩; simp only [ctP] at *; omega)) ?_)
           refine hK23 _ ?_
           refine AWP_seq_k fun K24 hK24 => ?_
           refine AWP_seq_k fun K25 hK25 => ?_
           refine AWP_wk (Wk_keep _ [1, 2, 3, 8, 9, 12, 13, 14] [148, 660, 661, 662, 663, 664, 665, 666, 667, 836, 837, 838, 839, 840, 841, 842, 843, 1268, 1269, 1270, 1271, 1272, 1273, 1274, 1275]) ?_
           simp (maxSteps := 2000000) only [go_sem]
           refine AWP_region (G := G) (T := T_mHx33) T_mHx33_ok ?_
           simp (maxSteps := 2000000) only [hU, eqD_rfl, hn1, hUh0, hUn0, go_sem]
           repeat' (first | (with_reducible refine And.intro (by first | omega | exact ⟨rfl, by omega, by omega, by omega⟩ | assumption | exact ⟨by omega, by omega⟩ | (refine ⟨by omega, ?_⟩; simp only [ctP] at *; omega)) ?_) | (with_reducible refine gcase_dt (fun g21 => ?_) (fun g21 => ?_)) | (with_reducible refine gcase_df (fun g21 => ?_) (fun g21 => ?_)) | (with_reducible refine gcase_ndt (fun g21 => ?_) (fun g21 => ?_)) | (with_reducible refine gcase_ndf (fun g21 => ?_) (fun g21 => ?_)) | (with_reducible refine gcase_nt (fun g21 => ?_) (fun g21 => ?_)) | (with_reducible refine gcase_nf (fun g21 => ?_) (fun g21 => ?_)) | (with_reducible refine gcase_mk (fun g21 => ?_) (fun g21 => ?_)))
           all_goals
            refine hK25 _ ?_
            refine AWP_cond rfl ?_ ?_
            ·
             intro c5
             try simp only [decide_eq_true_eq, decide_eq_false_iff_not, Bool.not_eq_true', Bool.not_eq_false', ne_eq, Int.not_lt, Int.not_le, Bool.true_eq_false, Bool.false_eq_true] at c5
             all_goals
              all_goals first | (cases c5; done) | (simp at c5; done) | omega
            ·
             intro c5
             try simp only [decide_eq_true_eq, decide_eq_false_iff_not, Bool.not_eq_true', Bool.not_eq_false', ne_eq, Int.not_lt, Int.not_le, Bool.true_eq_false, Bool.false_eq_true] at c5
             all_goals
              refine AWP_skip ?_
              simp only [go_sem]
              refine hK24 _ ?_
              refine AWP_seq_k fun K26 hK26 => ?_
              refine AWP_region (G := G) (T := T_mHx33) T_mHx33_ok ?_
              simp only [hU, eqD_rfl, hn1, hUh0, hUn0, go_sem]
              repeat (with_reducible refine And.intro (by first | omega | exact ⟨rfl, by omega, by omega, by omega⟩ | assumption | exact ⟨by omega, by omega⟩ | (refine ⟨by omega, ?_⟩; simp only [ctP] at *; omega)) ?_)
              refine hK26 _ ?_
              refine AWP_seq_k fun K27 hK27 => ?_
              refine AWP_wk (Wk_keep _ [1, 2, 3, 8, 9, 12, 15] [148, 660, 661, 662, 663, 664, 665, 666, 667, 836, 837, 838, 839, 840, 841, 842, 843]) ?_
              simp (maxSteps := 2000000) only [go_sem]
              refine AWP_region (G := G) (T := T_mHx33) T_mHx33_ok ?_
              simp only [hU, eqD_rfl, hn1, hUh0, hUn0, go_sem]
              repeat (with_reducible refine And.intro (by first | omega | exact ⟨rfl, by omega, by omega, by omega⟩ | assumption | exact ⟨by omega, by omega⟩ | (refine ⟨by omega, ?_⟩; simp only [ctP] at *; omega)) ?_)
              refine hK27 _ ?_
              refine AWP_seq_k fun K28 hK28 => ?_
              refine AWP_region (G := G) (T := T_mHx33) T_mHx33_ok ?_
              simp only [hU, eqD_rfl, hn1, hUh0, hUn0, go_sem]
              repeat (with_reducible refine And.intro (by first | omega | exact ⟨rfl, by omega, by omega, by omega⟩ | assumption | exact ⟨by omega, by omega⟩ | (refine ⟨by omega, ?_⟩; simp only [ctP] at *; omega)) ?_)
              refine hK28 _ ?_
              refine AWP_seq_k fun K29 hK29 => ?_
              refine AWP_wk (Wk_keep _ [1, 2, 3, 8, 9, 12, 15, 16] [148, 660, 661, 662, 663, 664, 665, 666, 667, 836, 837, 838, 839, 840, 841, 842, 843, 1524, 1525, 1526, 1527, 1528, 1529, 1530, 1531]) ?_
              simp (maxSteps := 2000000) only [go_sem]
              refine AWP_region (G := G) (T := T_mHx33) T_mHx33_ok ?_
              simp only [hU, eqD_rfl, hn1, hUh0, hUn0, go_sem]
              repeat (with_reducible refine And.intro (by first | omega | exact ⟨rfl, by omega, by omega, by omega⟩ | assumption | exact ⟨by omega, by omega⟩ | (refine ⟨by omega, ?_⟩; simp only [ctP] at *; omega)) ?_)
              refine hK29 _ ?_
              refine AWP_seq_k fun K30 hK30 => ?_
              refine AWP_seq_k fun K31 hK31 => ?_
              refine AWP_region (G := G) (T := T_mHx33) T_mHx33_ok ?_
              simp only [hU, eqD_rfl, hn1, hUh0, hUn0, go_sem]
              repeat (with_reducible refine And.intro (by first | omega | exact ⟨rfl, by omega, by omega, by omega⟩ | assumption | exact ⟨by omega, by omega⟩ | (refine ⟨by omega, ?_⟩; simp only [ctP] at *; omega)) ?_)
              refine hK31 _ ?_
              refine AWP_cond rfl ?_ ?_
              ·
               intro c6
               try simp only [decide_eq_true_eq, decide_eq_false_iff_not, Bool.not_eq_true', Bool.not_eq_false', ne_eq, Int.not_lt, Int.not_le, Bool.true_eq_false, Bool.false_eq_true] at c6
               all_goals
                all_goals first | (cases c6; done) | (simp at c6; done) | omega
              ·
               intro c6
               try simp only [decide_eq_true_eq, decide_eq_false_iff_not, Bool.not_eq_true', Bool.not_eq_false', ne_eq, Int.not_lt, Int.not_le, Bool.true_eq_false, Bool.false_eq_true] at c6
               all_goals
                refine AWP_skip ?_
                simp only [go_sem]
                refine hK30 _ ?_
                refine AWP_seq_k fun K32 hK32 => ?_
                refine AWP_seq_k fun K33 hK33 => ?_
                refine AWP_region (G := G) (T := T_mHx33) T_mHx33_ok ?_
                simp only [hU, eqD_rfl, hn1, hUh0, hUn0, go_sem]
                repeat (with_reducible refine And.intro (by first | omega | exact ⟨rfl, by omega, by omega, by omega⟩ | assumption | exact ⟨by omega, by omega⟩ | (refine ⟨by omega, ?_⟩; simp only [ctP] at *; omega)) ?_)
                refine hK33 _ ?_
                refine AWP_cond rfl ?_ ?_
                ·
                 intro c7
                 try simp only [decide_eq_true_eq, decide_eq_false_iff_not, Bool.not_eq_true', Bool.not_eq_false', ne_eq, Int.not_lt, Int.not_le, Bool.true_eq_false, Bool.false_eq_true] at c7
                 all_goals
                  all_goals first | (cases c7; done) | (simp at c7; done) | omega
                ·
                 intro c7
                 try simp only [decide_eq_true_eq, decide_eq_false_iff_not, Bool.not_eq_true', Bool.not_eq_false', ne_eq, Int.not_lt, Int.not_le, Bool.true_eq_false, Bool.false_eq_true] at c7
                 all_goals
                  refine AWP_skip ?_
                  simp only [go_sem]
                  refine hK32 _ ?_
                  refine AWP_seq_k fun K34 hK34 => ?_
                  refine AWP_wk (Wk_keep _ [1, 2, 3, 8, 9, 12, 15] [148, 660, 661, 662, 663, 664, 665, 666, 667, 836, 837, 838, 839, 840, 841, 842, 843, 1524, 1525, 1526, 1527, 1528, 1529, 1530, 1531]) ?_
                  simp (maxSteps := 2000000) only [go_sem]
                  refine AWP_region (G := G) (T := T_mHx33) T_mHx33_ok ?_
                  simp (maxSteps := 2000000) only [hU, eqD_rfl, hn1, hUh0, hUn0, go_sem]
                  repeat (with_reducible refine And.intro (by first | omega | exact ⟨rfl, by omega, by omega, by omega⟩ | assumption | exact ⟨by omega, by omega⟩ | (refine ⟨by omega, ?_⟩; simp only [ctP] at *; omega)) ?_)
                  refine hK34 _ ?_
                  refine AWP_seq_k fun K35 hK35 => ?_
                  refine AWP_seq_k fun K36 hK36 => ?_
                  refine AWP_wk (Wk_keep _ [8, 9, 12, 15, 17, 18] [660, 661, 662, 663, 664, 665, 666, 667, 836, 837, 838, 839, 840, 841, 842, 843, 1524, 1525, 1526, 1527, 1528, 1529, 1530, 1531, 1764, 1765, 1766, 1767, 1768, 1769, 1770, 1771]) ?_
                  simp (maxSteps := 2000000) only [go_sem]
                  refine AWP_region (G := G) (T := T_mHx33) T_mHx33_ok ?_
                  simp (maxSteps := 2000000) only [hU, eqD_rfl, hn1, hUh0, hUn0, go_sem]
                  repeat' (first | (with_reducible refine And.intro (by first | omega | exact ⟨rfl, by omega, by omega, by omega⟩ | assumption | exact ⟨by omega, by omega⟩ | (refine ⟨by omega, ?_⟩; simp only [ctP] at *; omega)) ?_) | (with_reducible refine gcase_dt (fun g32 => ?_) (fun g32 => ?_)) | (with_reducible refine gcase_df (fun g32 => ?_) (fun g32 => ?_)) | (with_reducible refine gcase_ndt (fun g32 => ?_) (fun g32 => ?_)) | (with_reducible refine gcase_ndf (fun g32 => ?_) (fun g32 => ?_)) | (with_reducible refine gcase_nt (fun g32 => ?_) (fun g32 => ?_)) | (with_reducible refine gcase_nf (fun g32 => ?_) (fun g32 => ?_)) | (with_reducible refine gcase_mk (fun g32 => ?_) (fun g32 => ?_)))
                  all_goals
                   refine hK36 _ ?_
                   refine AWP_cond rfl ?_ ?_
                   ·
                    intro c8
                    try simp only [decide_eq_true_eq, decide_eq_false_iff_not, Bool.not_eq_true', Bool.not_eq_false', ne_eq, Int.not_lt, Int.not_le, Bool.true_eq_false, Bool.false_eq_true] at c8
                    all_goals
                     all_goals first | (cases c8; done) | (simp at c8; done) | omega
                   ·
                    intro c8
                    try simp only [decide_eq_true_eq, decide_eq_false_iff_not, Bool.not_eq_true', Bool.not_eq_false', ne_eq, Int.not_lt, Int.not_le, Bool.true_eq_false, Bool.false_eq_true] at c8
                    all_goals
                     refine AWP_skip ?_
                     simp only [go_sem]
                     refine hK35 _ ?_
                     refine AWP_seq_k fun K37 hK37 => ?_
                     refine AWP_region (G := G) (T := T_mHx33) T_mHx33_ok ?_
                     simp only [hU, eqD_rfl, hn1, hUh0, hUn0, go_sem]
                     repeat (with_reducible refine And.intro (by first | omega | exact ⟨rfl, by omega, by omega, by omega⟩ | assumption | exact ⟨by omega, by omega⟩ | (refine ⟨by omega, ?_⟩; simp only [ctP] at *; omega)) ?_)
                     refine hK37 _ ?_
                     refine AWP_seq_k fun K38 hK38 => ?_
                     refine AWP_wk (Wk_keep _ [12, 15, 16] [836, 837, 838, 839, 840, 841, 842, 843, 1524, 1525, 1526, 1527, 1528, 1529, 1530, 1531]) ?_
                     simp (maxSteps := 2000000) only [go_sem]
                     refine AWP_region (G := G) (T := T_mHx33) T_mHx33_ok ?_
                     simp only [hU, eqD_rfl, hn1, hUh0, hUn0, go_sem]
                     repeat (with_reducible refine And.intro (by first | omega | exact ⟨rfl, by omega, by omega, by omega⟩ | assumption | exact ⟨by omega, by omega⟩ | (refine ⟨by omega, ?_⟩; simp only [ctP] at *; omega)) ?_)
                     refine hK38 _ ?_
                     refine AWP_seq_k fun K39 hK39 => ?_
                     refine AWP_seq_k fun K40 hK40 => ?_
                     refine AWP_region (G := G) (T := T_mHx33) T_mHx33_ok ?_
                     simp only [hU, eqD_rfl, hn1, hUh0, hUn0, go_sem]
                     repeat (with_reducible refine And.intro (by first | omega | exact ⟨rfl, by omega, by omega, by omega⟩ | assumption | exact ⟨by omega, by omega⟩ | (refine ⟨by omega, ?_⟩; simp only [ctP] at *; omega)) ?_)
                     refine hK40 _ ?_
                     refine AWP_cond rfl ?_ ?_
                     ·
                      intro c9
                      try simp only [decide_eq_true_eq, decide_eq_false_iff_not, Bool.not_eq_true', Bool.not_eq_false', ne_eq, Int.not_lt, Int.not_le, Bool.true_eq_false, Bool.false_eq_true] at c9
                      all_goals
                       all_goals first | (cases c9; done) | (simp at c9; done) | omega
                     ·
                      intro c9
                      try simp only [decide_eq_true_eq, decide_eq_false_iff_not, Bool.not_eq_true', Bool.not_eq_false', ne_eq, Int.not_lt, Int.not_le, Bool.true_eq_false, Bool.false_eq_true] at c9
                      all_goals
                       refine AWP_skip ?_
                       simp only [go_sem]
                       refine hK39 _ ?_
                       refine AWP_seq_k fun K41 hK41 => ?_
                       refine AWP_seq_k fun K42 hK42 => ?_
                       refine AWP_region (G := G) (T := T_mHx33) T_mHx33_ok ?_
                       simp only [hU, eqD_rfl, hn1, hUh0, hUn0, go_sem]
                       repeat (with_reducible refine And.intro (by first | omega | exact ⟨rfl, by omega, by omega, by omega⟩ | assumption | exact ⟨by omega, by omega⟩ | (refine ⟨by omega, ?_⟩; simp only [ctP] at *; omega)) ?_)
                       refine hK42 _ ?_
                       refine AWP_cond rfl ?_ ?_
                       ·
                        intro c10
                        try simp only [decide_eq_true_eq, decide_eq_false_iff_not, Bool.not_eq_true', Bool.not_eq_false', ne_eq, Int.not_lt, Int.not_le, Bool.true_eq_false, Bool.false_eq_true] at c10
                        all_goals
                         all_goals first | (cases c10; done) | (simp at c10; done) | omega
                       ·
                        intro c10
                        try simp only [decide_eq_true_eq, decide_eq_false_iff_not, Bool.not_eq_true', Bool.not_eq_false', ne_eq, Int.not_lt, Int.not_le, Bool.true_eq_false, Bool.false_eq_true] at c10
                        all_goals
                         refine AWP_skip ?_
                         simp only [go_sem]
                         refine hK41 _ ?_
                         refine AWP_seq_k fun K43 hK43 => ?_
                         refine AWP_region (G := G) (T := T_mHx33) T_mHx33_ok ?_
                         simp only [hU, eqD_rfl, hn1, hUh0, hUn0, go_sem]
                         repeat (with_reducible refine And.intro (by first | omega | exact ⟨rfl, by omega, by omega, by omega⟩ | assumption | exact ⟨by omega, by omega⟩ | (refine ⟨by omega, ?_⟩; simp only [ctP] at *; omega)) ?_)
                         refine hK43 _ ?_
                         refine AWP_ret ?_
                         simp only [hres, go_sem]
                         first
                           | exact finOk_mk (by rfl) (by decide)
                           | refine ⟨?_, finOk_mk (by rfl) (by decide)⟩
                             rfl

theorem lawRender_fn : FnOk Try.prog 4 := fnOk_of Try.func4 rfl (by decide)

def T_lawRender : Tab := fun f => if f = 4 then some (.p K_lawRender) else T_mHx33 f
theorem T_lawRender_ok : TabOk Try.prog T_lawRender := fun f k h => by
  unfold T_lawRender at h
  split at h
  · rename_i e; cases h; subst e; exact ⟨lawRender_ok, lawRender_fn⟩
  · exact T_mHx33_ok f k h
attribute [go_sem] T_lawRender K_lawRender

end Go.Proofs.Ythglggjgjlmhlaa
