/-
  Contracts of functions: FnExactRenderInBlocks.
-/
import Derived.Test.YthglggjgjlmhlaaHl1
import Derived.Test.YthglggjgjlmhlaaHl2
import Derived.Test.YthglggjgjlmhlaaHl4
import Derived.Test.YthglggjgjlmhlaaHb18
import Derived.Test.YthglggjgjlmhlaaHb19
import Derived.Test.YthglggjgjlmhlaaGp
namespace Go.Proofs.Ythglggjgjlmhlaa
open Go.RowKit
set_option linter.unusedSimpArgs false
set_option linter.unusedVariables false

def T_mHx50 : Tab := fun f => match T_toP f with
  | some k => some k
  | none => T_eqP f
theorem T_mHx50_ok : TabOk Try.prog T_mHx50 := fun f k h => by
  unfold T_mHx50 at h
  split at h
  · rename_i e; cases h; exact T_toP_ok f _ e
  · exact T_eqP_ok f k h
attribute [go_sem] T_mHx50 T0


def T_mHx51 : Tab := fun f => match T_mHx50 f with
  | some k => some k
  | none => T_markP f
theorem T_mHx51_ok : TabOk Try.prog T_mHx51 := fun f k h => by
  unfold T_mHx51 at h
  split at h
  · rename_i e; cases h; exact T_mHx50_ok f _ e
  · exact T_markP_ok f k h
attribute [go_sem] T_mHx51 T0


def T_mHx52 : Tab := fun f => match T_mHx51 f with
  | some k => some k
  | none => T_implRib f
theorem T_mHx52_ok : TabOk Try.prog T_mHx52 := fun f k h => by
  unfold T_mHx52 at h
  split at h
  · rename_i e; cases h; exact T_mHx51_ok f _ e
  · exact T_implRib_ok f k h
attribute [go_sem] T_mHx52 T0


def T_mHx53 : Tab := fun f => match T_mHx52 f with
  | some k => some k
  | none => T_specRib f
theorem T_mHx53_ok : TabOk Try.prog T_mHx53 := fun f k h => by
  unfold T_mHx53 at h
  split at h
  · rename_i e; cases h; exact T_mHx52_ok f _ e
  · exact T_specRib_ok f k h
attribute [go_sem] T_mHx53 T0


def K_lawRib : Con := ⟨[.val ((.prod (.int .i64) (.prod (.row 24 (.row 2 (.int .i64))) (.prod (.row 136 (.prod (.int .i64) (.prod (.int .i64) (.prod (.int .i64) (.row 2 (.int .i64)))))) (.row 2 (.int .i64)))))), .val ((.row 24 (.row 2 (.int .i64)))), .val ((.row 2 (.int .i64)))], [⟨.bool, true⟩], fun _ => True, fun _ => true⟩
set_option maxRecDepth 100000 in
set_option maxHeartbeats 16000000 in
theorem lawRib_ok : PureT Try.prog 6 K_lawRib := by
  refine pure_of_body Try.func6 rfl ?_
  have hres : Try.f6.results.toList = [.tmp 6] := rfl
  rintro ⟨⟨(pi : Int), (ts : List (List Int)), (ns : List NodeD), (os : List Int)⟩, (ins : List (List Int)), (sz : List Int), _⟩ hc hL
  simp only [K_lawRib, lensOk, PK.lenOk, glensOk, GP.lenOk, flensOk, GO.lenOk, olensOk, Ty.lenOk, Ty.flat, Bool.and_true, Bool.true_and, Bool.and_false, Bool.false_and, true_and, and_true, implies_true, forall_const] at hL
  simp only [K_lawRib, St.init, St.initG, Try.ntmps6, go_sem] 
  obtain ⟨U, hU⟩ : ∃ U, ribR (pi, ts, ns, os) ins sz = U := ⟨_, rfl⟩
  have hUb0 : cntA List.length U.1 ≤ 1000000 := by rw [← hU]; exact ribR_bd _ _ _
  have hUh0 : heldA markL List.length (1) (markLL (1) U.1) = 1 + ((cntA List.length U.1 : Nat) : Int) := heldA_mark (fun _ _ => markA_len) markL_idem
  have hUm0 : mkOk (1) (cntA List.length (markLL (1) U.1)) := by rw [markA_cnt (fun (_ : Int) (_ : List Int) => (markA_len : (markL _ _).length = _))]; exact ⟨by omega, by omega⟩
  have hUn0 : decide (1 + ((cntA List.length U.1 : Nat) : Int) < 0) = false := decide_eq_false (by omega)
  refine AWP_seq_k fun K1 hK1 => ?_
  refine AWP_wk (Wk_keep _ [0, 1, 2] []) ?_
  simp (maxSteps := 2000000) only [go_sem]
  refine AWP_region (G := G) (T := T_mHx53) T_mHx53_ok ?_
  simp only [go_sem]
  repeat (with_reducible refine And.intro (by first | omega | exact ⟨rfl, by omega, by omega, by omega⟩ | assumption | exact ⟨by omega, by omega⟩ | (refine ⟨by omega, ?_⟩; simp only [ctP] at *; omega)) ?_)
  refine hK1 _ ?_
  refine AWP_seq_k fun K2 hK2 => ?_
  refine AWP_seq_k fun K3 hK3 => ?_
  refine AWP_wk (Wk_keep _ [1, 2, 3] [148]) ?_
  simp (maxSteps := 2000000) only [go_sem]
  refine AWP_region (G := G) (T := T_mHx53) T_mHx53_ok ?_
  simp only [go_sem]
  repeat (with_reducible refine And.intro (by first | omega | exact ⟨rfl, by omega, by omega, by omega⟩ | assumption | exact ⟨by omega, by omega⟩ | (refine ⟨by omega, ?_⟩; simp only [ctP] at *; omega)) ?_)
  refine hK3 _ ?_
  refine AWP_cond rfl ?_ ?_
  ·
   intro c0
   try simp only [decide_eq_true_eq, decide_eq_false_iff_not, Bool.not_eq_true', Bool.not_eq_false', ne_eq, Int.not_lt, Int.not_le] at c0
   refine AWP_seq_k fun K4 hK4 => ?_
   refine AWP_region (G := G) (T := T_mHx53) T_mHx53_ok ?_
   simp only [go_sem]
   repeat (with_reducible refine And.intro (by first | omega | exact ⟨rfl, by omega, by omega, by omega⟩ | assumption | exact ⟨by omega, by omega⟩ | (refine ⟨by omega, ?_⟩; simp only [ctP] at *; omega)) ?_)
   refine hK4 _ ?_
   refine AWP_ret ?_
   simp only [hres, go_sem]
   first
     | exact finOk_mk (by rfl) (by decide)
     | refine ⟨?_, finOk_mk (by rfl) (by decide)⟩
       rfl
  ·
   intro c0
   try simp only [decide_eq_true_eq, decide_eq_false_iff_not, Bool.not_eq_true', Bool.not_eq_false', ne_eq, Int.not_lt, Int.not_le] at c0
   refine AWP_skip ?_
   simp only [go_sem]
   refine hK2 _ ?_
   refine AWP_seq_k fun K5 hK5 => ?_
   refine AWP_region (G := G) (T := T_mHx53) T_mHx53_ok ?_
   simp only [go_sem]
   repeat (with_reducible refine And.intro (by first | omega | exact ⟨rfl, by omega, by omega, by omega⟩ | assumption | exact ⟨by omega, by omega⟩ | (refine ⟨by omega, ?_⟩; simp only [ctP] at *; omega)) ?_)
   refine hK5 _ ?_
   refine AWP_seq_k fun K6 hK6 => ?_
   refine AWP_wk (Wk_keep _ [1, 2, 3, 7] [148]) ?_
   simp (maxSteps := 2000000) only [go_sem]
   refine AWP_region (G := G) (T := T_mHx53) T_mHx53_ok ?_
   simp only [go_sem]
   repeat (with_reducible refine And.intro (by first | omega | exact ⟨rfl, by omega, by omega, by omega⟩ | assumption | exact ⟨by omega, by omega⟩ | (refine ⟨by omega, ?_⟩; simp only [ctP] at *; omega)) ?_)
   refine hK6 _ ?_
   refine AWP_seq_k fun K7 hK7 => ?_
   refine AWP_seq_k fun K8 hK8 => ?_
   refine AWP_region (G := G) (T := T_mHx53) T_mHx53_ok ?_
   simp only [go_sem]
   repeat (with_reducible refine And.intro (by first | omega | exact ⟨rfl, by omega, by omega, by omega⟩ | assumption | exact ⟨by omega, by omega⟩ | (refine ⟨by omega, ?_⟩; simp only [ctP] at *; omega)) ?_)
   refine hK8 _ ?_
   refine AWP_cond rfl ?_ ?_
   ·
    intro c1
    try simp only [decide_eq_true_eq, decide_eq_false_iff_not, Bool.not_eq_true', Bool.not_eq_false', ne_eq, Int.not_lt, Int.not_le] at c1
    refine AWP_seq_k fun K9 hK9 => ?_
    refine AWP_region (G := G) (T := T_mHx53) T_mHx53_ok ?_
    simp only [go_sem]
    repeat (with_reducible refine And.intro (by first | omega | exact ⟨rfl, by omega, by omega, by omega⟩ | assumption | exact ⟨by omega, by omega⟩ | (refine ⟨by omega, ?_⟩; simp only [ctP] at *; omega)) ?_)
    refine hK9 _ ?_
    refine AWP_ret ?_
    simp only [hres, go_sem]
    first
      | exact finOk_mk (by rfl) (by decide)
      | refine ⟨?_, finOk_mk (by rfl) (by decide)⟩
        rfl
   ·
    intro c1
    try simp only [decide_eq_true_eq, decide_eq_false_iff_not, Bool.not_eq_true', Bool.not_eq_false', ne_eq, Int.not_lt, Int.not_le] at c1
    obtain ⟨e1, e1'⟩ := szR_ge' c1
    have f1 : fitsP (pi, ts, ns, os) := fitsP_sz (by omega)
    have g1 := ctP_le (pi, ts, ns, os)
    have hz1 : ctP (0, ts, ns, os) = ctP (pi, ts, ns, os) := rfl
    refine AWP_skip ?_
    simp only [go_sem]
    refine hK7 _ ?_
    refine AWP_seq_k fun K10 hK10 => ?_
    refine AWP_wk (Wk_keep _ [1, 2, 3, 7] [148, 500, 501, 502, 503, 504, 505, 506, 507]) ?_
    simp (maxSteps := 2000000) only [go_sem]
    refine AWP_region (G := G) (T := T_mHx53) T_mHx53_ok ?_
    simp only [go_sem]
    repeat (with_reducible refine And.intro (by first | omega | exact ⟨rfl, by omega, by omega, by omega⟩ | assumption | exact ⟨by omega, by omega⟩ | (refine ⟨by omega, ?_⟩; simp only [ctP] at *; omega)) ?_)
    refine hK10 _ ?_
    refine AWP_seq_k fun K11 hK11 => ?_
    refine AWP_seq_k fun K12 hK12 => ?_
    refine AWP_region (G := G) (T := T_mHx53) T_mHx53_ok ?_
    simp only [go_sem]
    repeat (with_reducible refine And.intro (by first | omega | exact ⟨rfl, by omega, by omega, by omega⟩ | assumption | exact ⟨by omega, by omega⟩ | (refine ⟨by omega, ?_⟩; simp only [ctP] at *; omega)) ?_)
    refine hK12 _ ?_
    refine AWP_cond rfl ?_ ?_
    ·
     intro c2
     try simp only [decide_eq_true_eq, decide_eq_false_iff_not, Bool.not_eq_true', Bool.not_eq_false', ne_eq, Int.not_lt, Int.not_le] at c2
     refine AWP_seq_k fun K13 hK13 => ?_
     refine AWP_region (G := G) (T := T_mHx53) T_mHx53_ok ?_
     simp only [go_sem]
     repeat (with_reducible refine And.intro (by first | omega | exact ⟨rfl, by omega, by omega, by omega⟩ | assumption | exact ⟨by omega, by omega⟩ | (refine ⟨by omega, ?_⟩; simp only [ctP] at *; omega)) ?_)
     refine hK13 _ ?_
     refine AWP_ret ?_
     simp only [hres, go_sem]
     first
       | exact finOk_mk (by rfl) (by decide)
       | refine ⟨?_, finOk_mk (by rfl) (by decide)⟩
         rfl
    ·
     intro c2
     try simp only [decide_eq_true_eq, decide_eq_false_iff_not, Bool.not_eq_true', Bool.not_eq_false', ne_eq, Int.not_lt, Int.not_le] at c2
     obtain ⟨e2, e2'⟩ := szR_ge' c2
     have f2 : fitsL ins := fitsL_sz (by omega)
     have g2 := cnt_sz ins
     have hn1 : decide (1 + (ctP (0, ts, ns, os) : Int) + ((cntA List.length ins : Nat) : Int) + (sz.length : Int) < 0) = false := decide_eq_false (by omega)
     refine AWP_skip ?_
     simp only [go_sem]
     refine hK11 _ ?_
     refine AWP_seq_k fun K14 hK14 => ?_
     refine AWP_wk (Wk_keep _ [1, 2, 3] [148]) ?_
     simp (maxSteps := 2000000) only [go_sem]
     refine AWP_region (G := G) (T := T_mHx53) T_mHx53_ok ?_
     simp (maxSteps := 2000000) only [hU, eqD_rfl, hn1, hUh0, hUn0, go_sem]
     repeat (with_reducible refine And.intro (by first | omega | exact ⟨rfl, by omega, by omega, by omega⟩ | assumption | exact ⟨by omega, by omega⟩ | (refine ⟨by omega, ?_⟩; simp only [ctP] at *; omega)) ?_)
     refine hK14 _ ?_
     refine AWP_seq_k fun K15 hK15 => ?_
     refine AWP_wk (Wk_keep _ [1, 2, 3, 8, 9] [148, 740, 741, 742, 743, 744, 745, 746, 747]) ?_
     simp (maxSteps := 2000000) only [go_sem]
     refine AWP_region (G := G) (T := T_mHx53) T_mHx53_ok ?_
     simp only [hU, eqD_rfl, hn1, hUh0, hUn0, go_sem]
     repeat (with_reducible refine And.intro (by first | omega | exact ⟨rfl, by omega, by omega, by omega⟩ | assumption | exact ⟨by omega, by omega⟩ | (refine ⟨by omega, ?_⟩; simp only [ctP] at *; omega)) ?_)
     refine hK15 _ ?_
     refine AWP_seq_k fun K16 hK16 => ?_
     refine AWP_wk (Wk_keep _ [1, 2, 3, 8, 9, 10] [148, 260, 740, 741, 742, 743, 744, 745, 746, 747, 804, 805, 806, 807, 808, 809, 810, 811]) ?_
     simp (maxSteps := 2000000) only [go_sem]
     refine AWP_region (G := G) (T := T_mHx53) T_mHx53_ok ?_
     simp only [hU, eqD_rfl, hn1, hUh0, hUn0, go_sem]
     repeat (with_reducible refine And.intro (by first | omega | exact ⟨rfl, by omega, by omega, by omega⟩ | assumption | exact ⟨by omega, by omega⟩ | (refine ⟨by omega, ?_⟩; simp only [ctP] at *; omega)) ?_)
     refine hK16 _ ?_
     refine AWP_seq_k fun K17 hK17 => ?_
     refine AWP_wk (Wk_keep _ [1, 2, 3, 8, 9, 10, 11] [148, 260, 740, 741, 742, 743, 744, 745, 746, 747, 804, 805, 806, 807, 808, 809, 810, 811, 836, 837, 838, 839, 840, 841, 842, 843]) ?_
     simp (maxSteps := 2000000) only [go_sem]
     refine AWP_region (G := G) (T := T_mHx53) T_mHx53_ok ?_
     simp only [hU, eqD_rfl, hn1, hUh0, hUn0, go_sem]
     repeat (with_reducible refine And.intro (by first | omega | exact ⟨rfl, by omega, by omega, by omega⟩ | assumption | exact ⟨by omega, by omega⟩ | (refine ⟨by omega, ?_⟩; simp only [ctP] at *; omega)) ?_)
     refine hK17 _ ?_
     refine AWP_seq_k fun K18 hK18 => ?_
     refine AWP_wk (Wk_keep _ [1, 2, 3, 8, 9, 10, 11, 12] [148, 260, 740, 741, 742, 743, 744, 745, 746, 747, 804, 805, 806, 807, 808, 809, 810, 811, 836, 837, 838, 839, 840, 841, 842, 843, 868, 869, 870, 871, 872, 873, 874, 875]) ?_
     simp (maxSteps := 2000000) only [go_sem]
     refine AWP_region (G := G) (T := T_mHx53) T_mHx53_ok ?_
     simp (maxSteps := 2000000) only [hU, eqD_rfl, hn1, hUh0, hUn0, go_sem]
     repeat (with_reducible refine And.intro (by first | omega | exact ⟨rfl, by omega, by omega, by omega⟩ | assumption | exact ⟨by omega, by omega⟩ | (refine ⟨by omega, ?_⟩; simp only [ctP] at *; omega)) ?_)
     refine hK18 _ ?_
     refine AWP_seq_k fun K19 hK19 => ?_
     refine AWP_seq_k fun K20 hK20 => ?_
     refine AWP_wk (Wk_keep _ [1, 2, 3, 8, 9, 10, 11, 12, 13, 14] [148, 260, 740, 741, 742, 743, 744, 745, 746, 747, 804, 805, 806, 807, 808, 809, 810, 811, 836, 837, 838, 839, 840, 841, 842, 843, 868, 869, 870, 871, 872, 873, 874, 875, 948, 949, 950, 951, 952, 953, 954, 955]) ?_
     simp (maxSteps := 2000000) only [go_sem]
     refine AWP_region (G := G) (T := T_mHx53) T_mHx53_ok ?_
     simp (maxSteps := 2000000) only [hU, eqD_rfl, hn1, hUh0, hUn0, go_sem]
     repeat' (first | (with_reducible refine And.intro (by first | omega | exact ⟨rfl, by omega, by omega, by omega⟩ | assumption | exact ⟨by omega, by omega⟩ | (refine ⟨by omega, ?_⟩; simp only [ctP] at *; omega)) ?_) | (with_reducible refine gcase_dt (fun g15 => ?_) (fun g15 => ?_)) | (with_reducible refine gcase_df (fun g15 => ?_) (fun g15 => ?_)) | (with_reducible refine gcase_ndt (fun g15 => ?_) (fun g15 => ?_)) | (with_reducible refine gcase_ndf (fun g15 => ?_) (fun g15 => ?_)) | (with_reducible refine gcase_nt (fun g15 => ?_) (fun g15 => ?_)) | (with_reducible refine gcase_nf (fun g15 => ?_) (fun g15 => ?_)) | (with_reducible refine gcase_mk (fun g15 => ?_) (fun g15 => ?_)))
     all_goals
      refine hK20 _ ?_
      refine AWP_cond rfl ?_ ?_
      ·
       intro c3
       try simp only [decide_eq_true_eq, decide_eq_false_iff_not, Bool.not_eq_true', Bool.not_eq_false', ne_eq, Int.not_lt, Int.not_le, Bool.true_eq_false, Bool.false_eq_true] at c3
       all_goals
        all_goals first | (cases c3; done) | (simp at c3; done) | omega
      ·
       intro c3
       try simp only [decide_eq_true_eq, decide_eq_false_iff_not, Bool.not_eq_true', Bool.not_eq_false', ne_eq, Int.not_lt, Int.not_le, Bool.true_eq_false, Bool.false_eq_true] at c3
       all_goals
        refine AWP_skip ?_
        simp only [go_sem]
        refine hK19 _ ?_
        refine AWP_seq_k fun K21 hK21 => ?_
        refine AWP_seq_k fun K22 hK22 => ?_
        refine AWP_wk (Wk_keep _ [1, 2, 3, 8, 9, 10, 11, 12, 13, 14] [148, 260, 740, 741, 742, 743, 744, 745, 746, 747, 804, 805, 806, 807, 808, 809, 810, 811, 836, 837, 838, 839, 840, 841, 842, 843, 868, 869, 870, 871, 872, 873, 874, 875, 948, 949, 950, 951, 952, 953, 954, 955]) ?_
        simp (maxSteps := 2000000) only [go_sem]
        refine AWP_draw (G := G) (T := T_mHx53) T_mHx53_ok mixed
          [[], [], [1], [0, 1, 2], [0, 1, 2, 3]]
          [[1172, 1173, 1174, 1175, 1176, 1177, 1178, 1179, 1180, 1181, 1182, 1183, 1184, 1185, 1186, 1187], [], [], [], []]
          [[], [], [1172, 1173, 1174, 1175, 1176, 1177, 1178, 1179, 1180, 1181, 1182, 1183, 1184, 1185, 1186, 1187], [], []] (by kernel_rfl) (by kernel_rfl) (adrawR_ok (acc := []) ?_)
        simp (maxSteps := 2000000) only [hU, eqD_rfl, hn1, hUh0, hUn0, go_sem]
        repeat (with_reducible refine And.intro (by first | exact chk_leaf (by kernel_rfl) | omega | exact ⟨rfl, by omega, by omega, by omega⟩ | assumption | exact ⟨by omega, by omega⟩ | (refine ⟨by omega, ?_⟩; simp only [ctP] at *; omega)) ?_)
        refine hK22 _ ?_
        refine AWP_cond rfl ?_ ?_
        ·
         intro c4
         try simp only [decide_eq_true_eq, decide_eq_false_iff_not, Bool.not_eq_true', Bool.not_eq_false', ne_eq, Int.not_lt, Int.not_le, Bool.true_eq_false, Bool.false_eq_true] at c4
         all_goals
          all_goals first | (cases c4; done) | (simp at c4; done) | omega
        ·
         intro c4
         try simp only [decide_eq_true_eq, decide_eq_false_iff_not, Bool.not_eq_true', Bool.not_eq_false', ne_eq, Int.not_lt, Int.not_le, Bool.true_eq_false, Bool.false_eq_true] at c4
         all_goals
          refine AWP_skip ?_
          simp only [go_sem]
          refine hK21 _ ?_
          refine AWP_seq_k fun K23 hK23 => ?_
          refine AWP_seq_k fun K24 hK24 => ?_
          refine AWP_wk (Wk_keep _ [1, 2, 3, 8, 9, 10, 11, 12, 13, 14] [148, 260, 740, 741, 742, 743, 744, 745, 746, 747, 804, 805, 806, 807, 808, 809, 810, 811, 836, 837, 838, 839, 840, 841, 842, 843, 868, 869, 870, 871, 872, 873, 874, 875, 948, 949, 950, 951, 952, 953, 954, 955]) ?_
          simp (maxSteps := 2000000) only [go_sem]
          refine AWP_region (G := G) (T := T_mHx53) T_mHx53_ok ?_
          simp (maxSteps := 2000000) only [hU, eqD_rfl, hn1, hUh0, hUn0, go_sem]
          repeat (with_reducible refine And.intro (by first | omega | exact ⟨rfl, by omega, by omega, by omega⟩ | assumption | exact ⟨by omega, by omega⟩ | (refine ⟨by omega, ?_⟩; simp only [ctP] at *; omega)) ?_)
          refine hK24 _ ?_
          refine AWP_cond rfl ?_ ?_
          ·
           intro c5
           try simp only [decide_eq_true_eq, decide_eq_false_iff_not, Bool.not_eq_true', Bool.not_eq_false', ne_eq, Int.not_lt, Int.not_le, Bool.true_eq_false, Bool.false_eq_true] at c5
           all_goals
            all_goals first | (cases c5; done) | (simp at c5; done) | omega
          ·
           intro c5
           try simp only [decide_eq_true_eq, decide_eq_false_iff_not, Bool.not_eq_true', Bool.not_eq_false', ne_eq, Int.not_lt, Int.not_le, Bool.true_eq_false, Bool.false_eq_true] at c5
           all_goals
            refine AWP_skip ?_
            simp only [go_sem]
            refine hK23 _ ?_
            refine AWP_seq_k fun K25 hK25 => ?_
            refine AWP_seq_k fun K26 hK26 => ?_
            refine AWP_wk (Wk_keep _ [1, 2, 3, 8, 9, 10, 11, 12, 13, 14] [148, 260, 740, 741, 742, 743, 744, 745, 746, 747, 804, 805, 806, 807, 808, 809, 810, 811, 836, 837, 838, 839, 840, 841, 842, 843, 868, 869, 870, 871, 872, 873, 874, 875, 948, 949, 950, 951, 952, 953, 954, 955]) ?_
            simp (maxSteps := 2000000) only [go_sem]
            refine AWP_region (G := G) (T := T_mHx53) T_mHx53_ok ?_
            simp (maxSteps := 2000000) only [hU, eqD_rfl, hn1, hUh0, hUn0, go_sem]
            repeat (with_reducible refine And.intro (by first | omega | exact ⟨rfl, by omega, by omega, by omega⟩ | assumption | exact ⟨by omega, by omega⟩ | (refine ⟨by omega, ?_⟩; simp only [ctP] at *; omega)) ?_)
            refine hK26 _ ?_
            refine AWP_cond rfl ?_ ?_
            ·
             intro c6
             try simp only [decide_eq_true_eq, decide_eq_false_iff_not, Bool.not_eq_true', Bool.not_eq_false', ne_eq, Int.not_lt, Int.not_le, Bool.true_eq_false, Bool.false_eq_true] at c6
             all_goals
              all_goals first | (cases c6; done) | (simp at c6; done) | omega
            ·
             intro c6
             try simp only [decide_eq_true_eq, decide_eq_false_iff_not, Bool.not_eq_true', Bool.not_eq_false', ne_eq, Int.not_lt, Int.not_le, Bool.true_eq_false, Bool.false_eq_true] at c6
             all_goals
              refine AWP_skip ?_
              simp only [go_sem]
              refine hK25 _ ?_
              refine AWP_seq_k fun K27 hK27 => ?_
              refine AWP_region (G := G) (T := T_mHx53) T_mHx53_ok ?_
              simp only [hU, eqD_rfl, hn1, hUh0, hUn0, go_sem]
              repeat (with_reducible refine And.intro (by first | omega | exact ⟨rfl, by omega, by omega, by omega⟩ | assumption | exact ⟨by omega, by omega⟩ | (refine ⟨by omega, ?_⟩; simp only [ctP] at *; omega)) ?_)
              refine hK27 _ ?_
              refine AWP_seq_k fun K28 hK28 => ?_
              refine AWP_wk (Wk_keep _ [1, 2, 3, 8, 9, 10, 11, 12, 13, 14, 15] [148, 260, 740, 741, 742, 743, 744, 745, 746, 747, 804, 805, 806, 807, 808, 809, 810, 811, 836, 837, 838, 839, 840, 841, 842, 843, 868, 869, 870, 871, 872, 873, 874, 875, 948, 949, 950, 951, 952, 953, 954, 955]) ?_
              simp (maxSteps := 2000000) only [go_sem]
              refine AWP_region (G := G) (T := T_mHx53) T_mHx53_ok ?_
              simp only [hU, eqD_rfl, hn1, hUh0, hUn0, go_sem]
              repeat (with_reducible refine And.intro (by first | omega | exact ⟨rfl, by omega, by omega, by omega⟩ | assumption | exact ⟨by omega, by omega⟩ | (refine ⟨by omega, ?_⟩; simp only [ctP] at *; omega)) ?_)
              refine hK28 _ ?_
              refine AWP_seq_k fun K29 hK29 => ?_
              refine AWP_wk (Wk_keep _ [1, 2, 3, 8, 9, 11, 12, 13, 14, 15] [148, 740, 741, 742, 743, 744, 745, 746, 747, 836, 837, 838, 839, 840, 841, 842, 843, 868, 869, 870, 871, 872, 873, 874, 875, 948, 949, 950, 951, 952, 953, 954, 955, 1412, 1413, 1414, 1415, 1416, 1417, 1418, 1419]) ?_
              simp (maxSteps := 2000000) only [go_sem]
              refine AWP_region (G := G) (T := T_mHx53) T_mHx53_ok ?_
              simp only [hU, eqD_rfl, hn1, hUh0, hUn0, go_sem]
              repeat (with_reducible refine And.intro (by first | omega | exact ⟨rfl, by omega, by omega, by omega⟩ | assumption | exact ⟨by omega, by omega⟩ | (refine ⟨by omega, ?_⟩; simp only [ctP] at *; omega)) ?_)
              refine hK29 _ ?_
              refine AWP_seq_k fun K30 hK30 => ?_
              refine AWP_wk (Wk_keep _ [1, 2, 3, 8, 9, 12, 13, 14, 15] [148, 740, 741, 742, 743, 744, 745, 746, 747, 868, 869, 870, 871, 872, 873, 874, 875, 948, 949, 950, 951, 952, 953, 954, 955, 1460, 1461, 1462, 1463, 1464, 1465, 1466, 1467]) ?_
              simp (maxSteps := 2000000) only [go_sem]
              refine AWP_region (G := G) (T := T_mHx53) T_mHx53_ok ?_
              simp only [hU, eqD_rfl, hn1, hUh0, hUn0, go_sem]
              repeat (with_reducible refine And.intro (by first | omega | exact ⟨rfl, by omega, by omega, by omega⟩ | assumption | exact ⟨by omega, by omega⟩ | (refine ⟨by omega, ?_⟩; simp only [ctP] at *; omega)) ?_)
              refine hK30 _ ?_
              refine AWP_seq_k fun K31 hK31 => ?_
              refine AWP_seq_k fun K32 hK32 => ?_
              refine AWP_wk (Wk_keep _ [1, 2, 3, 8, 9, 13, 14, 15] [148, 740, 741, 742, 743, 744, 745, 746, 747, 948, 949, 950, 951, 952, 953, 954, 955, 1508, 1509, 1510, 1511, 1512, 1513, 1514, 1515]) ?_
              simp (maxSteps := 2000000) only [go_sem]
              refine AWP_region (G := G) (T := T_mHx53) T_mHx53_ok ?_
              simp (maxSteps := 2000000) only [hU, eqD_rfl, hn1, hUh0, hUn0, go_sem]
              repeat' (first | (with_reducible refine And.intro (by first | omega | exact ⟨rfl, by omega, by omega, by omega⟩ | assumption | exact ⟨by omega, by omega⟩ | (refine ⟨by omega, ?_⟩; simp only [ctP] at *; omega)) ?_) | (with_reducible refine gcase_dt (fun g27 => ?_) (fun g27 => ?_)) | (with_reducible refine gcase_df (fun g27 => ?_) (fun g27 => ?_)) | (with_reducible refine gcase_ndt (fun g27 => ?_) (fun g27 => ?_)) | (with_reducible refine gcase_ndf (fun g27 => ?_) (fun g27 => ?_)) | (with_reducible refine gcase_nt (fun g27 => ?_) (fun g27 => ?_)) | (with_reducible refine gcase_nf (fun g27 => ?_) (fun g27 => ?_)) | (with_reducible refine gcase_mk (fun g27 => ?_) (fun g27 => ?_)))
              all_goals
               refine hK32 _ ?_
               refine AWP_cond rfl ?_ ?_
               ·
                intro c7
                try simp only [decide_eq_true_eq, decide_eq_false_iff_not, Bool.not_eq_true', Bool.not_eq_false', ne_eq, Int.not_lt, Int.not_le, Bool.true_eq_false, Bool.false_eq_true] at c7
                all_goals
                 all_goals first | (cases c7; done) | (simp at c7; done) | omega
               ·
                intro c7
                try simp only [decide_eq_true_eq, decide_eq_false_iff_not, Bool.not_eq_true', Bool.not_eq_false', ne_eq, Int.not_lt, Int.not_le, Bool.true_eq_false, Bool.false_eq_true] at c7
                all_goals
                 refine AWP_skip ?_
                 simp only [go_sem]
                 refine hK31 _ ?_
                 refine AWP_seq_k fun K33 hK33 => ?_
                 refine AWP_region (G := G) (T := T_mHx53) T_mHx53_ok ?_
                 simp only [hU, eqD_rfl, hn1, hUh0, hUn0, go_sem]
                 repeat (with_reducible refine And.intro (by first | omega | exact ⟨rfl, by omega, by omega, by omega⟩ | assumption | exact ⟨by omega, by omega⟩ | (refine ⟨by omega, ?_⟩; simp only [ctP] at *; omega)) ?_)
                 refine hK33 _ ?_
                 refine AWP_seq_k fun K34 hK34 => ?_
                 refine AWP_wk (Wk_keep _ [1, 2, 3, 8, 9, 13, 16] [148, 740, 741, 742, 743, 744, 745, 746, 747, 948, 949, 950, 951, 952, 953, 954, 955]) ?_
                 simp (maxSteps := 2000000) only [go_sem]
                 refine AWP_region (G := G) (T := T_mHx53) T_mHx53_ok ?_
                 simp only [hU, eqD_rfl, hn1, hUh0, hUn0, go_sem]
                 repeat (with_reducible refine And.intro (by first | omega | exact ⟨rfl, by omega, by omega, by omega⟩ | assumption | exact ⟨by omega, by omega⟩ | (refine ⟨by omega, ?_⟩; simp only [ctP] at *; omega)) ?_)
                 refine hK34 _ ?_
                 refine AWP_seq_k fun K35 hK35 => ?_
                 refine AWP_region (G := G) (T := T_mHx53) T_mHx53_ok ?_
                 simp only [hU, eqD_rfl, hn1, hUh0, hUn0, go_sem]
                 repeat (with_reducible refine And.intro (by first | omega | exact ⟨rfl, by omega, by omega, by omega⟩ | assumption | exact ⟨by omega, by omega⟩ | (refine ⟨by omega, ?_⟩; simp only [ctP] at *; omega)) ?_)
                 refine hK35 _ ?_
                 refine AWP_seq_k fun K36 hK36 => ?_
                 refine AWP_wk (Wk_keep _ [1, 2, 3, 8, 9, 13, 16, 17] [148, 740, 741, 742, 743, 744, 745, 746, 747, 948, 949, 950, 951, 952, 953, 954, 955, 1764, 1765, 1766, 1767, 1768, 1769, 1770, 1771]) ?_
                 simp (maxSteps := 2000000) only [go_sem]
                 refine AWP_region (G := G) (T := T_mHx53) T_mHx53_ok ?_
                 simp only [hU, eqD_rfl, hn1, hUh0, hUn0, go_sem]
                 repeat (with_reducible refine And.intro (by first | omega | exact ⟨rfl, by omega, by omega, by omega⟩ | assumption | exact ⟨by omega, by omega⟩ | (refine ⟨by omega, ?_⟩; simp only [ctP] at *; omega)) ?_)
                 refine hK36 _ ?_
                 refine AWP_seq_k fun K37 hK37 => ?_
                 refine AWP_seq_k fun K38 hK38 => ?_
                 refine AWP_region (G := G) (T := T_mHx53) T_mHx53_ok ?_
                 simp only [hU, eqD_rfl, hn1, hUh0, hUn0, go_sem]
                 repeat (with_reducible refine And.intro (by first | omega | exact ⟨rfl, by omega, by omega, by omega⟩ | assumption | exact ⟨by omega, by omega⟩ | (refine ⟨by omega, ?_⟩; simp only [ctP] at *; omega)) ?_)
                 refine hK38 _ ?_
                 refine AWP_cond rfl ?_ ?_
                 ·
                  intro c8
                  try simp only [decide_eq_true_eq, decide_eq_false_iff_not, Bool.not_eq_true', Bool.not_eq_false', ne_eq, Int.not_lt, Int.not_le, Bool.true_eq_false, Bool.false_eq_true] at c8
                  all_goals
                   all_goals first | (cases c8; done) | (simp at c8; done) | omega
                 ·
                  intro c8
                  try simp only [decide_eq_true_eq, decide_eq_false_iff_not, Bool.not_eq_true', Bool.not_eq_false', ne_eq, Int.not_lt, Int.not_le, Bool.true_eq_false, Bool.false_eq_true] at c8
                  all_goals
                   refine AWP_skip ?_
                   simp only [go_sem]
                   refine hK37 _ ?_
                   refine AWP_seq_k fun K39 hK39 => ?_
                   refine AWP_seq_k fun K40 hK40 => ?_
                   refine AWP_region (G := G) (T := T_mHx53) T_mHx53_ok ?_
                   simp only [hU, eqD_rfl, hn1, hUh0, hUn0, go_sem]
                   repeat (with_reducible refine And.intro (by first | omega | exact ⟨rfl, by omega, by omega, by omega⟩ | assumption | exact ⟨by omega, by omega⟩ | (refine ⟨by omega, ?_⟩; simp only [ctP] at *; omega)) ?_)
                   refine hK40 _ ?_
                   refine AWP_cond rfl ?_ ?_
                   ·
                    intro c9
                    try simp only [decide_eq_true_eq, decide_eq_false_iff_not, Bool.not_eq_true', Bool.not_eq_false', ne_eq, Int.not_lt, Int.not_le, Bool.true_eq_false, Bool.false_eq_true] at c9
                    all_goals
                     all_goals first | (cases c9; done) | (simp at c9; done) | omega
                   ·
                    intro c9
                    try simp only [decide_eq_true_eq, decide_eq_false_iff_not, Bool.not_eq_true', Bool.not_eq_false', ne_eq, Int.not_lt, Int.not_le, Bool.true_eq_false, Bool.false_eq_true] at c9
                    all_goals
                     refine AWP_skip ?_
                     simp only [go_sem]
                     refine hK39 _ ?_
                     refine AWP_seq_k fun K41 hK41 => ?_
                     refine AWP_wk (Wk_keep _ [1, 2, 3, 8, 9, 13, 16] [148, 740, 741, 742, 743, 744, 745, 746, 747, 948, 949, 950, 951, 952, 953, 954, 955, 1764, 1765, 1766, 1767, 1768, 1769, 1770, 1771]) ?_
                     simp (maxSteps := 2000000) only [go_sem]
                     refine AWP_region (G := G) (T := T_mHx53) T_mHx53_ok ?_
                     simp (maxSteps := 2000000) only [hU, eqD_rfl, hn1, hUh0, hUn0, go_sem]
                     repeat (with_reducible refine And.intro (by first | omega | exact ⟨rfl, by omega, by omega, by omega⟩ | assumption | exact ⟨by omega, by omega⟩ | (refine ⟨by omega, ?_⟩; simp only [ctP] at *; omega)) ?_)
                     refine hK41 _ ?_
                     refine AWP_seq_k fun K42 hK42 => ?_
                     refine AWP_seq_k fun K43 hK43 => ?_
                     refine AWP_wk (Wk_keep _ [8, 9, 13, 16, 18, 19] [740, 741, 742, 743, 744, 745, 746, 747, 948, 949, 950, 951, 952, 953, 954, 955, 1764, 1765, 1766, 1767, 1768, 1769, 1770, 1771, 2020, 2021, 2022, 2023, 2024, 2025, 2026, 2027]) ?_
                     simp (maxSteps := 2000000) only [go_sem]
                     refine AWP_region (G := G) (T := T_mHx53) T_mHx53_ok ?_
                     simp (maxSteps := 2000000) only [hU, eqD_rfl, hn1, hUh0, hUn0, go_sem]
                     repeat' (first | (with_reducible refine And.intro (by first | omega | exact ⟨rfl, by omega, by omega, by omega⟩ | assumption | exact ⟨by omega, by omega⟩ | (refine ⟨by omega, ?_⟩; simp only [ctP] at *; omega)) ?_) | (with_reducible refine gcase_dt (fun g38 => ?_) (fun g38 => ?_)) | (with_reducible refine gcase_df (fun g38 => ?_) (fun g38 => ?_)) | (with_reducible refine gcase_ndt (fun g38 => ?_) (fun g38 => ?_)) | (with_reducible refine gcase_ndf (fun g38 => ?_) (fun g38 => ?_)) | (with_reducible refine gcase_nt (fun g38 => ?_) (fun g38 => ?_)) | (with_reducible refine gcase_nf (fun g38 => ?_) (fun g38 => ?_)) | (with_reducible refine gcase_mk (fun g38 => ?_) (fun g38 => ?_)))
                     all_goals
                      refine hK43 _ ?_
                      refine AWP_cond rfl ?_ ?_
                      ·
                       intro c10
                       try simp only [decide_eq_true_eq, decide_eq_false_iff_not, Bool.not_eq_true', Bool.not_eq_false', ne_eq, Int.not_lt, Int.not_le, Bool.true_eq_false, Bool.false_eq_true] at c10
                       all_goals
                        all_goals first | (cases c10; done) | (simp at c10; done) | omega
                      ·
                       intro c10
                       try simp only [decide_eq_true_eq, decide_eq_false_iff_not, Bool.not_eq_true', Bool.not_eq_false', ne_eq, Int.not_lt, Int.not_le, Bool.true_eq_false, Bool.false_eq_true] at c10
                       all_goals
                        refine AWP_skip ?_
                        simp only [go_sem]
                        refine hK42 _ ?_
                        refine AWP_seq_k fun K44 hK44 => ?_
                        refine AWP_region (G := G) (T := T_mHx53) T_mHx53_ok ?_
                        simp only [hU, eqD_rfl, hn1, hUh0, hUn0, go_sem]
                        repeat (with_reducible refine And.intro (by first | omega | exact ⟨rfl, by omega, by omega, by omega⟩ | assumption | exact ⟨by omega, by omega⟩ | (refine ⟨by omega, ?_⟩; simp only [ctP] at *; omega)) ?_)
                        refine hK44 _ ?_
                        refine AWP_seq_k fun K45 hK45 => ?_
                        refine AWP_wk (Wk_keep _ [13, 16, 17] [948, 949, 950, 951, 952, 953, 954, 955, 1764, 1765, 1766, 1767, 1768, 1769, 1770, 1771]) ?_
                        simp (maxSteps := 2000000) only [go_sem]
                        refine AWP_region (G := G) (T := T_mHx53) T_mHx53_ok ?_
                        simp only [hU, eqD_rfl, hn1, hUh0, hUn0, go_sem]
                        repeat (with_reducible refine And.intro (by first | omega | exact ⟨rfl, by omega, by omega, by omega⟩ | assumption | exact ⟨by omega, by omega⟩ | (refine ⟨by omega, ?_⟩; simp only [ctP] at *; omega)) ?_)
                        refine hK45 _ ?_
                        refine AWP_seq_k fun K46 hK46 => ?_
                        refine AWP_seq_k fun K47 hK47 => ?_
                        refine AWP_region (G := G) (T := T_mHx53) T_mHx53_ok ?_
                        simp only [hU, eqD_rfl, hn1, hUh0, hUn0, go_sem]
                        repeat (with_reducible refine And.intro (by first | omega | exact ⟨rfl, by omega, by omega, by omega⟩ | assumption | exact ⟨by omega, by omega⟩ | (refine ⟨by omega, ?_⟩; simp only [ctP] at *; omega)) ?_)
                        refine hK47 _ ?_
                        refine AWP_cond rfl ?_ ?_
                        ·
                         intro c11
                         try simp only [decide_eq_true_eq, decide_eq_false_iff_not, Bool.not_eq_true', Bool.not_eq_false', ne_eq, Int.not_lt, Int.not_le, Bool.true_eq_false, Bool.false_eq_true] at c11
                         all_goals
                          all_goals first | (cases c11; done) | (simp at c11; done) | omega
                        ·
                         intro c11
                         try simp only [decide_eq_true_eq, decide_eq_false_iff_not, Bool.not_eq_true', Bool.not_eq_false', ne_eq, Int.not_lt, Int.not_le, Bool.true_eq_false, Bool.false_eq_true] at c11
                         all_goals
                          refine AWP_skip ?_
                          simp only [go_sem]
                          refine hK46 _ ?_
                          refine AWP_seq_k fun K48 hK48 => ?_
                          refine AWP_seq_k fun K49 hK49 => ?_
                          refine AWP_region (G := G) (T := T_mHx53) T_mHx53_ok ?_
                          simp only [hU, eqD_rfl, hn1, hUh0, hUn0, go_sem]
                          repeat (with_reducible refine And.intro (by first | omega | exact ⟨rfl, by omega, by omega, by omega⟩ | assumption | exact ⟨by omega, by omega⟩ | (refine ⟨by omega, ?_⟩; simp only [ctP] at *; omega)) ?_)
                          refine hK49 _ ?_
                          refine AWP_cond rfl ?_ ?_
                          ·
                           intro c12
                           try simp only [decide_eq_true_eq, decide_eq_false_iff_not, Bool.not_eq_true', Bool.not_eq_false', ne_eq, Int.not_lt, Int.not_le, Bool.true_eq_false, Bool.false_eq_true] at c12
                           all_goals
                            all_goals first | (cases c12; done) | (simp at c12; done) | omega
                          ·
                           intro c12
                           try simp only [decide_eq_true_eq, decide_eq_false_iff_not, Bool.not_eq_true', Bool.not_eq_false', ne_eq, Int.not_lt, Int.not_le, Bool.true_eq_false, Bool.false_eq_true] at c12
                           all_goals
                            refine AWP_skip ?_
                            simp only [go_sem]
                            refine hK48 _ ?_
                            refine AWP_seq_k fun K50 hK50 => ?_
                            refine AWP_region (G := G) (T := T_mHx53) T_mHx53_ok ?_
                            simp only [hU, eqD_rfl, hn1, hUh0, hUn0, go_sem]
                            repeat (with_reducible refine And.intro (by first | omega | exact ⟨rfl, by omega, by omega, by omega⟩ | assumption | exact ⟨by omega, by omega⟩ | (refine ⟨by omega, ?_⟩; simp only [ctP] at *; omega)) ?_)
                            refine hK50 _ ?_
                            refine AWP_ret ?_
                            simp only [hres, go_sem]
                            first
                              | exact finOk_mk (by rfl) (by decide)
                              | refine ⟨?_, finOk_mk (by rfl) (by decide)⟩
                                rfl

theorem lawRib_fn : FnOk Try.prog 6 := fnOk_of Try.func6 rfl (by decide)

def T_lawRib : Tab := fun f => if f = 6 then some (.p K_lawRib) else T_mHx53 f
theorem T_lawRib_ok : TabOk Try.prog T_lawRib := fun f k h => by
  unfold T_lawRib at h
  split at h
  · rename_i e; cases h; subst e; exact ⟨lawRib_ok, lawRib_fn⟩
  · exact T_mHx53_ok f k h
attribute [go_sem] T_lawRib K_lawRib

end Go.Proofs.Ythglggjgjlmhlaa
