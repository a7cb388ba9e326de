/-
  Contracts of functions: FnExactCheckClasses.
-/
import Derived.Test.YthfopaimihmgiaaHl1
import Derived.Test.YthfopaimihmgiaaHl2
import Derived.Test.YthfopaimihmgiaaHl4
import Derived.Test.YthfopaimihmgiaaHc6
import Derived.Test.YthfopaimihmgiaaHc7
import Derived.Test.YthfopaimihmgiaaGp
namespace Go.Proofs.Ythfopaimihmgiaa
open Go.RowKit
set_option linter.unusedSimpArgs false
set_option linter.unusedVariables false

def T_mHx90 : Tab := fun f => match T_toP f with
  | some k => some k
  | none => T_eqP f
theorem T_mHx90_ok : TabOk Try.prog T_mHx90 := fun f k h => by
  unfold T_mHx90 at h
  split at h
  · rename_i e; cases h; exact T_toP_ok f _ e
  · exact T_eqP_ok f k h
attribute [go_sem] T_mHx90 T0


def T_mHx91 : Tab := fun f => match T_mHx90 f with
  | some k => some k
  | none => T_markP f
theorem T_mHx91_ok : TabOk Try.prog T_mHx91 := fun f k h => by
  unfold T_mHx91 at h
  split at h
  · rename_i e; cases h; exact T_mHx90_ok f _ e
  · exact T_markP_ok f k h
attribute [go_sem] T_mHx91 T0


def T_mHx92 : Tab := fun f => match T_mHx91 f with
  | some k => some k
  | none => T_implChk f
theorem T_mHx92_ok : TabOk Try.prog T_mHx92 := fun f k h => by
  unfold T_mHx92 at h
  split at h
  · rename_i e; cases h; exact T_mHx91_ok f _ e
  · exact T_implChk_ok f k h
attribute [go_sem] T_mHx92 T0


def T_mHx93 : Tab := fun f => match T_mHx92 f with
  | some k => some k
  | none => T_specChk f
theorem T_mHx93_ok : TabOk Try.prog T_mHx93 := fun f k h => by
  unfold T_mHx93 at h
  split at h
  · rename_i e; cases h; exact T_mHx92_ok f _ e
  · exact T_specChk_ok f k h
attribute [go_sem] T_mHx93 T0


def K_lawChk : Con := ⟨[.val ((.prod (.int .i64) (.prod (.row 24 (.row 2 (.int .i64))) (.prod (.row 76 (.prod (.int .i64) (.prod (.int .i64) (.prod (.int .i64) (.row 2 (.int .i64)))))) (.row 2 (.int .i64)))))), .val ((.row 2 (.int .i64)))], [⟨.bool, true⟩], fun _ => True, fun _ => true⟩
set_option maxRecDepth 100000 in
set_option maxHeartbeats 16000000 in
theorem lawChk_ok : PureT Try.prog 3 K_lawChk := by
  refine pure_of_body Try.func3 rfl ?_
  have hres : Try.f3.results.toList = [.tmp 4] := rfl
  rintro ⟨⟨(pi : Int), (ts : List (List Int)), (ns : List NodeD), (os : List Int)⟩, (cl : List Int), _⟩ hc hL
  simp only [K_lawChk, lensOk, PK.lenOk, glensOk, GP.lenOk, flensOk, GO.lenOk, olensOk, Ty.lenOk, Ty.flat, Bool.and_true, Bool.true_and, Bool.and_false, Bool.false_and, true_and, and_true, implies_true, forall_const] at hL
  simp only [K_lawChk, St.init, St.initG, Try.ntmps3, go_sem] 
  obtain ⟨U, hU⟩ : ∃ U, checkB (pi, ts, ns, os) cl = U := ⟨_, rfl⟩
  refine AWP_seq_k fun K1 hK1 => ?_
  refine AWP_wk (Wk_keep _ [0, 1] []) ?_
  simp (maxSteps := 2000000) only [go_sem]
  refine AWP_region (G := G) (T := T_mHx93) T_mHx93_ok ?_
  simp only [go_sem]
  repeat (with_reducible refine And.intro (by first | omega | exact ⟨rfl, by omega, by omega, by omega⟩ | assumption | exact ⟨by omega, by omega⟩ | (refine ⟨by omega, ?_⟩; simp only [ctP] at *; omega)) ?_)
  refine hK1 _ ?_
  refine AWP_seq_k fun K2 hK2 => ?_
  refine AWP_seq_k fun K3 hK3 => ?_
  refine AWP_wk (Wk_keep _ [1, 2] [132]) ?_
  simp (maxSteps := 2000000) only [go_sem]
  refine AWP_region (G := G) (T := T_mHx93) T_mHx93_ok ?_
  simp only [go_sem]
  repeat (with_reducible refine And.intro (by first | omega | exact ⟨rfl, by omega, by omega, by omega⟩ | assumption | exact ⟨by omega, by omega⟩ | (refine ⟨by omega, ?_⟩; simp only [ctP] at *; omega)) ?_)
  refine hK3 _ ?_
  refine AWP_cond rfl ?_ ?_
  ·
   intro c0
   try simp only [decide_eq_true_eq, decide_eq_false_iff_not, Bool.not_eq_true', Bool.not_eq_false', ne_eq, Int.not_lt, Int.not_le] at c0
   refine AWP_seq_k fun K4 hK4 => ?_
   refine AWP_region (G := G) (T := T_mHx93) T_mHx93_ok ?_
   simp only [go_sem]
   repeat (with_reducible refine And.intro (by first | omega | exact ⟨rfl, by omega, by omega, by omega⟩ | assumption | exact ⟨by omega, by omega⟩ | (refine ⟨by omega, ?_⟩; simp only [ctP] at *; omega)) ?_)
   refine hK4 _ ?_
   refine AWP_ret ?_
   simp only [hres, go_sem]
   first
     | exact finOk_mk (by rfl) (by decide)
     | refine ⟨?_, finOk_mk (by rfl) (by decide)⟩
       rfl
  ·
   intro c0
   try simp only [decide_eq_true_eq, decide_eq_false_iff_not, Bool.not_eq_true', Bool.not_eq_false', ne_eq, Int.not_lt, Int.not_le] at c0
   refine AWP_skip ?_
   simp only [go_sem]
   refine hK2 _ ?_
   refine AWP_seq_k fun K5 hK5 => ?_
   refine AWP_region (G := G) (T := T_mHx93) T_mHx93_ok ?_
   simp only [go_sem]
   repeat (with_reducible refine And.intro (by first | omega | exact ⟨rfl, by omega, by omega, by omega⟩ | assumption | exact ⟨by omega, by omega⟩ | (refine ⟨by omega, ?_⟩; simp only [ctP] at *; omega)) ?_)
   refine hK5 _ ?_
   refine AWP_seq_k fun K6 hK6 => ?_
   refine AWP_wk (Wk_keep _ [1, 2, 5] [132]) ?_
   simp (maxSteps := 2000000) only [go_sem]
   refine AWP_region (G := G) (T := T_mHx93) T_mHx93_ok ?_
   simp only [go_sem]
   repeat (with_reducible refine And.intro (by first | omega | exact ⟨rfl, by omega, by omega, by omega⟩ | assumption | exact ⟨by omega, by omega⟩ | (refine ⟨by omega, ?_⟩; simp only [ctP] at *; omega)) ?_)
   refine hK6 _ ?_
   refine AWP_seq_k fun K7 hK7 => ?_
   refine AWP_seq_k fun K8 hK8 => ?_
   refine AWP_region (G := G) (T := T_mHx93) T_mHx93_ok ?_
   simp only [go_sem]
   repeat (with_reducible refine And.intro (by first | omega | exact ⟨rfl, by omega, by omega, by omega⟩ | assumption | exact ⟨by omega, by omega⟩ | (refine ⟨by omega, ?_⟩; simp only [ctP] at *; omega)) ?_)
   refine hK8 _ ?_
   refine AWP_cond rfl ?_ ?_
   ·
    intro c1
    try simp only [decide_eq_true_eq, decide_eq_false_iff_not, Bool.not_eq_true', Bool.not_eq_false', ne_eq, Int.not_lt, Int.not_le] at c1
    refine AWP_seq_k fun K9 hK9 => ?_
    refine AWP_region (G := G) (T := T_mHx93) T_mHx93_ok ?_
    simp only [go_sem]
    repeat (with_reducible refine And.intro (by first | omega | exact ⟨rfl, by omega, by omega, by omega⟩ | assumption | exact ⟨by omega, by omega⟩ | (refine ⟨by omega, ?_⟩; simp only [ctP] at *; omega)) ?_)
    refine hK9 _ ?_
    refine AWP_ret ?_
    simp only [hres, go_sem]
    first
      | exact finOk_mk (by rfl) (by decide)
      | refine ⟨?_, finOk_mk (by rfl) (by decide)⟩
        rfl
   ·
    intro c1
    try simp only [decide_eq_true_eq, decide_eq_false_iff_not, Bool.not_eq_true', Bool.not_eq_false', ne_eq, Int.not_lt, Int.not_le] at c1
    obtain ⟨e1, e1'⟩ := szR_ge' c1
    have f1 : fitsP (pi, ts, ns, os) := fitsP_sz (by omega)
    have g1 := ctP_le (pi, ts, ns, os)
    have hz1 : ctP (0, ts, ns, os) = ctP (pi, ts, ns, os) := rfl
    have hn1 : decide (1 + (ctP (0, ts, ns, os) : Int) + (cl.length : Int) < 0) = false := decide_eq_false (by omega)
    refine AWP_skip ?_
    simp only [go_sem]
    refine hK7 _ ?_
    refine AWP_seq_k fun K10 hK10 => ?_
    refine AWP_wk (Wk_keep _ [1, 2] [132]) ?_
    simp (maxSteps := 2000000) only [go_sem]
    refine AWP_region (G := G) (T := T_mHx93) T_mHx93_ok ?_
    simp (maxSteps := 2000000) only [hU, eqD_rfl, hn1, hU, go_sem]
    repeat (with_reducible refine And.intro (by first | omega | exact ⟨rfl, by omega, by omega, by omega⟩ | assumption | exact ⟨by omega, by omega⟩ | (refine ⟨by omega, ?_⟩; simp only [ctP] at *; omega)) ?_)
    refine hK10 _ ?_
    refine AWP_seq_k fun K11 hK11 => ?_
    refine AWP_wk (Wk_keep _ [1, 2, 6] [132, 452, 453, 454, 455, 456, 457, 458, 459]) ?_
    simp (maxSteps := 2000000) only [go_sem]
    refine AWP_region (G := G) (T := T_mHx93) T_mHx93_ok ?_
    simp only [hU, eqD_rfl, hn1, hU, go_sem]
    repeat (with_reducible refine And.intro (by first | omega | exact ⟨rfl, by omega, by omega, by omega⟩ | assumption | exact ⟨by omega, by omega⟩ | (refine ⟨by omega, ?_⟩; simp only [ctP] at *; omega)) ?_)
    refine hK11 _ ?_
    refine AWP_seq_k fun K12 hK12 => ?_
    refine AWP_wk (Wk_keep _ [1, 2, 6, 7] [132, 212, 452, 453, 454, 455, 456, 457, 458, 459, 484, 485, 486, 487, 488, 489, 490, 491]) ?_
    simp (maxSteps := 2000000) only [go_sem]
    refine AWP_region (G := G) (T := T_mHx93) T_mHx93_ok ?_
    simp only [hU, eqD_rfl, hn1, hU, go_sem]
    repeat (with_reducible refine And.intro (by first | omega | exact ⟨rfl, by omega, by omega, by omega⟩ | assumption | exact ⟨by omega, by omega⟩ | (refine ⟨by omega, ?_⟩; simp only [ctP] at *; omega)) ?_)
    refine hK12 _ ?_
    refine AWP_seq_k fun K13 hK13 => ?_
    refine AWP_wk (Wk_keep _ [1, 2, 6, 7, 8] [132, 212, 452, 453, 454, 455, 456, 457, 458, 459, 484, 485, 486, 487, 488, 489, 490, 491, 516, 517, 518, 519, 520, 521, 522, 523]) ?_
    simp (maxSteps := 2000000) only [go_sem]
    refine AWP_region (G := G) (T := T_mHx93) T_mHx93_ok ?_
    simp only [hU, eqD_rfl, hn1, hU, go_sem]
    repeat (with_reducible refine And.intro (by first | omega | exact ⟨rfl, by omega, by omega, by omega⟩ | assumption | exact ⟨by omega, by omega⟩ | (refine ⟨by omega, ?_⟩; simp only [ctP] at *; omega)) ?_)
    refine hK13 _ ?_
    refine AWP_seq_k fun K14 hK14 => ?_
    refine AWP_seq_k fun K15 hK15 => ?_
    refine AWP_region (G := G) (T := T_mHx93) T_mHx93_ok ?_
    simp only [hU, eqD_rfl, hn1, hU, go_sem]
    repeat (with_reducible refine And.intro (by first | omega | exact ⟨rfl, by omega, by omega, by omega⟩ | assumption | exact ⟨by omega, by omega⟩ | (refine ⟨by omega, ?_⟩; simp only [ctP] at *; omega)) ?_)
    refine hK15 _ ?_
    refine AWP_cond rfl ?_ ?_
    ·
     intro c2
     try simp only [decide_eq_true_eq, decide_eq_false_iff_not, Bool.not_eq_true', Bool.not_eq_false', ne_eq, Int.not_lt, Int.not_le] at c2
     all_goals first | (cases c2; done) | (simp at c2; done) | omega
    ·
     intro c2
     try simp only [decide_eq_true_eq, decide_eq_false_iff_not, Bool.not_eq_true', Bool.not_eq_false', ne_eq, Int.not_lt, Int.not_le] at c2
     refine AWP_skip ?_
     simp only [go_sem]
     refine hK14 _ ?_
     refine AWP_seq_k fun K16 hK16 => ?_
     refine AWP_seq_k fun K17 hK17 => ?_
     refine AWP_wk (Wk_keep _ [1, 2, 7, 8] [132, 212, 484, 485, 486, 487, 488, 489, 490, 491, 516, 517, 518, 519, 520, 521, 522, 523]) ?_
     simp (maxSteps := 2000000) only [go_sem]
     refine AWP_draw (G := G) (T := T_mHx93) T_mHx93_ok mixed
       [[], [], [1], [0, 1, 2], [0, 1, 2, 3]]
       [[660, 661, 662, 663, 664, 665, 666, 667, 668, 669, 670, 671, 672, 673, 674, 675], [], [], [], []]
       [[], [], [660, 661, 662, 663, 664, 665, 666, 667, 668, 669, 670, 671, 672, 673, 674, 675], [], []] (by kernel_rfl) (by kernel_rfl) (adrawR_ok (acc := []) ?_)
     simp (maxSteps := 2000000) only [hU, eqD_rfl, hn1, hU, go_sem]
     repeat (with_reducible refine And.intro (by first | exact chk_leaf (by kernel_rfl) | omega | exact ⟨rfl, by omega, by omega, by omega⟩ | assumption | exact ⟨by omega, by omega⟩ | (refine ⟨by omega, ?_⟩; simp only [ctP] at *; omega)) ?_)
     refine hK17 _ ?_
     refine AWP_cond rfl ?_ ?_
     ·
      intro c3
      try simp only [decide_eq_true_eq, decide_eq_false_iff_not, Bool.not_eq_true', Bool.not_eq_false', ne_eq, Int.not_lt, Int.not_le] at c3
      all_goals first | (cases c3; done) | (simp at c3; done) | omega
     ·
      intro c3
      try simp only [decide_eq_true_eq, decide_eq_false_iff_not, Bool.not_eq_true', Bool.not_eq_false', ne_eq, Int.not_lt, Int.not_le] at c3
      refine AWP_skip ?_
      simp only [go_sem]
      refine hK16 _ ?_
      refine AWP_seq_k fun K18 hK18 => ?_
      refine AWP_seq_k fun K19 hK19 => ?_
      refine AWP_wk (Wk_keep _ [1, 8] [516, 517, 518, 519, 520, 521, 522, 523]) ?_
      simp (maxSteps := 2000000) only [go_sem]
      refine AWP_region (G := G) (T := T_mHx93) T_mHx93_ok ?_
      simp (maxSteps := 2000000) only [hU, eqD_rfl, hn1, hU, go_sem]
      repeat (with_reducible refine And.intro (by first | omega | exact ⟨rfl, by omega, by omega, by omega⟩ | assumption | exact ⟨by omega, by omega⟩ | (refine ⟨by omega, ?_⟩; simp only [ctP] at *; omega)) ?_)
      refine hK19 _ ?_
      refine AWP_cond rfl ?_ ?_
      ·
       intro c4
       try simp only [decide_eq_true_eq, decide_eq_false_iff_not, Bool.not_eq_true', Bool.not_eq_false', ne_eq, Int.not_lt, Int.not_le] at c4
       all_goals first | (cases c4; done) | (simp at c4; done) | omega
      ·
       intro c4
       try simp only [decide_eq_true_eq, decide_eq_false_iff_not, Bool.not_eq_true', Bool.not_eq_false', ne_eq, Int.not_lt, Int.not_le] at c4
       refine AWP_skip ?_
       simp only [go_sem]
       refine hK18 _ ?_
       refine AWP_seq_k fun K20 hK20 => ?_
       refine AWP_region (G := G) (T := T_mHx93) T_mHx93_ok ?_
       simp only [hU, eqD_rfl, hn1, hU, go_sem]
       repeat (with_reducible refine And.intro (by first | omega | exact ⟨rfl, by omega, by omega, by omega⟩ | assumption | exact ⟨by omega, by omega⟩ | (refine ⟨by omega, ?_⟩; simp only [ctP] at *; omega)) ?_)
       refine hK20 _ ?_
       refine AWP_ret ?_
       simp only [hres, go_sem]
       first
         | exact finOk_mk (by rfl) (by decide)
         | refine ⟨?_, finOk_mk (by rfl) (by decide)⟩
           rfl

theorem lawChk_fn : FnOk Try.prog 3 := fnOk_of Try.func3 rfl (by decide)

def T_lawChk : Tab := fun f => if f = 3 then some (.p K_lawChk) else T_mHx93 f
theorem T_lawChk_ok : TabOk Try.prog T_lawChk := fun f k h => by
  unfold T_lawChk at h
  split at h
  · rename_i e; cases h; subst e; exact ⟨lawChk_ok, lawChk_fn⟩
  · exact T_mHx93_ok f k h
attribute [go_sem] T_lawChk K_lawChk

end Go.Proofs.Ythfopaimihmgiaa
