/-
  Contracts of functions: FnExactIsReduced.
-/
import Derived.Test.YthfopaimihmgiaaHl1
import Derived.Test.YthfopaimihmgiaaHl2
import Derived.Test.YthfopaimihmgiaaHl4
import Derived.Test.YthfopaimihmgiaaHc6
import Derived.Test.YthfopaimihmgiaaHc7
import Derived.Test.YthfopaimihmgiaaGp
namespace Go.Proofs.Ythfopaimihmgiaa
open Go.RowKit
set_option linter.unusedSimpArgs false
set_option linter.unusedVariables false

def T_mHx110 : Tab := fun f => match T_toP f with
  | some k => some k
  | none => T_eqP f
theorem T_mHx110_ok : TabOk Try.prog T_mHx110 := fun f k h => by
  unfold T_mHx110 at h
  split at h
  · rename_i e; cases h; exact T_toP_ok f _ e
  · exact T_eqP_ok f k h
attribute [go_sem] T_mHx110 T0


def T_mHx111 : Tab := fun f => match T_mHx110 f with
  | some k => some k
  | none => T_markP f
theorem T_mHx111_ok : TabOk Try.prog T_mHx111 := fun f k h => by
  unfold T_mHx111 at h
  split at h
  · rename_i e; cases h; exact T_mHx110_ok f _ e
  · exact T_markP_ok f k h
attribute [go_sem] T_mHx111 T0


def T_mHx112 : Tab := fun f => match T_mHx111 f with
  | some k => some k
  | none => T_implChk f
theorem T_mHx112_ok : TabOk Try.prog T_mHx112 := fun f k h => by
  unfold T_mHx112 at h
  split at h
  · rename_i e; cases h; exact T_mHx111_ok f _ e
  · exact T_implChk_ok f k h
attribute [go_sem] T_mHx112 T0


def T_mHx113 : Tab := fun f => match T_mHx112 f with
  | some k => some k
  | none => T_specChk f
theorem T_mHx113_ok : TabOk Try.prog T_mHx113 := fun f k h => by
  unfold T_mHx113 at h
  split at h
  · rename_i e; cases h; exact T_mHx112_ok f _ e
  · exact T_specChk_ok f k h
attribute [go_sem] T_mHx113 T0


def K_lawRed : Con := ⟨[.val ((.prod (.int .i64) (.prod (.row 24 (.row 2 (.int .i64))) (.prod (.row 76 (.prod (.int .i64) (.prod (.int .i64) (.prod (.int .i64) (.row 2 (.int .i64)))))) (.row 2 (.int .i64))))))], [⟨.bool, true⟩], fun _ => True, fun _ => true⟩
set_option maxRecDepth 100000 in
set_option maxHeartbeats 16000000 in
theorem lawRed_ok : PureT Try.prog 6 K_lawRed := by
  refine pure_of_body Try.func6 rfl ?_
  have hres : Try.f6.results.toList = [.tmp 2] := rfl
  rintro ⟨⟨(pi : Int), (ts : List (List Int)), (ns : List NodeD), (os : List Int)⟩, _⟩ hc hL
  simp only [K_lawRed, lensOk, PK.lenOk, glensOk, GP.lenOk, flensOk, GO.lenOk, olensOk, Ty.lenOk, Ty.flat, Bool.and_true, Bool.true_and, Bool.and_false, Bool.false_and, true_and, and_true, implies_true, forall_const] at hL
  simp only [K_lawRed, St.init, St.initG, Try.ntmps6, go_sem] 
  obtain ⟨U, hU⟩ : ∃ U, redB (pi, ts, ns, os) = U := ⟨_, rfl⟩
  refine AWP_seq_k fun K1 hK1 => ?_
  refine AWP_wk (Wk_keep _ [0] []) ?_
  simp (maxSteps := 2000000) only [go_sem]
  refine AWP_region (G := G) (T := T_mHx113) T_mHx113_ok ?_
  simp only [go_sem]
  repeat (with_reducible refine And.intro (by first | omega | exact ⟨rfl, by omega, by omega, by omega⟩ | assumption | exact ⟨by omega, by omega⟩ | (refine ⟨by omega, ?_⟩; simp only [ctP] at *; omega)) ?_)
  refine hK1 _ ?_
  refine AWP_seq_k fun K2 hK2 => ?_
  refine AWP_region (G := G) (T := T_mHx113) T_mHx113_ok ?_
  simp only [go_sem]
  repeat (with_reducible refine And.intro (by first | omega | exact ⟨rfl, by omega, by omega, by omega⟩ | assumption | exact ⟨by omega, by omega⟩ | (refine ⟨by omega, ?_⟩; simp only [ctP] at *; omega)) ?_)
  refine hK2 _ ?_
  refine AWP_seq_k fun K3 hK3 => ?_
  refine AWP_wk (Wk_keep _ [1, 3] [116]) ?_
  simp (maxSteps := 2000000) only [go_sem]
  refine AWP_region (G := G) (T := T_mHx113) T_mHx113_ok ?_
  simp only [go_sem]
  repeat (with_reducible refine And.intro (by first | omega | exact ⟨rfl, by omega, by omega, by omega⟩ | assumption | exact ⟨by omega, by omega⟩ | (refine ⟨by omega, ?_⟩; simp only [ctP] at *; omega)) ?_)
  refine hK3 _ ?_
  refine AWP_seq_k fun K4 hK4 => ?_
  refine AWP_seq_k fun K5 hK5 => ?_
  refine AWP_region (G := G) (T := T_mHx113) T_mHx113_ok ?_
  simp only [go_sem]
  repeat (with_reducible refine And.intro (by first | omega | exact ⟨rfl, by omega, by omega, by omega⟩ | assumption | exact ⟨by omega, by omega⟩ | (refine ⟨by omega, ?_⟩; simp only [ctP] at *; omega)) ?_)
  refine hK5 _ ?_
  refine AWP_cond rfl ?_ ?_
  ·
   intro c0
   try simp only [decide_eq_true_eq, decide_eq_false_iff_not, Bool.not_eq_true', Bool.not_eq_false', ne_eq, Int.not_lt, Int.not_le] at c0
   refine AWP_seq_k fun K6 hK6 => ?_
   refine AWP_region (G := G) (T := T_mHx113) T_mHx113_ok ?_
   simp only [go_sem]
   repeat (with_reducible refine And.intro (by first | omega | exact ⟨rfl, by omega, by omega, by omega⟩ | assumption | exact ⟨by omega, by omega⟩ | (refine ⟨by omega, ?_⟩; simp only [ctP] at *; omega)) ?_)
   refine hK6 _ ?_
   refine AWP_ret ?_
   simp only [hres, go_sem]
   first
     | exact finOk_mk (by rfl) (by decide)
     | refine ⟨?_, finOk_mk (by rfl) (by decide)⟩
       rfl
  ·
   intro c0
   try simp only [decide_eq_true_eq, decide_eq_false_iff_not, Bool.not_eq_true', Bool.not_eq_false', ne_eq, Int.not_lt, Int.not_le] at c0
   obtain ⟨e0, e0'⟩ := szR_ge' c0
   have f0 : fitsP (pi, ts, ns, os) := fitsP_sz (by omega)
   have g0 := ctP_le (pi, ts, ns, os)
   have hz0 : ctP (0, ts, ns, os) = ctP (pi, ts, ns, os) := rfl
   have hn1 : decide (1 + (ctP (0, ts, ns, os) : Int) < 0) = false := decide_eq_false (by omega)
   refine AWP_skip ?_
   simp only [go_sem]
   refine hK4 _ ?_
   refine AWP_seq_k fun K7 hK7 => ?_
   refine AWP_wk (Wk_keep _ [1] [116]) ?_
   simp (maxSteps := 2000000) only [go_sem]
   refine AWP_region (G := G) (T := T_mHx113) T_mHx113_ok ?_
   simp only [hU, eqD_rfl, hn1, hU, go_sem]
   repeat (with_reducible refine And.intro (by first | omega | exact ⟨rfl, by omega, by omega, by omega⟩ | assumption | exact ⟨by omega, by omega⟩ | (refine ⟨by omega, ?_⟩; simp only [ctP] at *; omega)) ?_)
   refine hK7 _ ?_
   refine AWP_seq_k fun K8 hK8 => ?_
   refine AWP_wk (Wk_keep _ [1, 4] [116, 324, 325, 326, 327, 328, 329, 330, 331]) ?_
   simp (maxSteps := 2000000) only [go_sem]
   refine AWP_region (G := G) (T := T_mHx113) T_mHx113_ok ?_
   simp only [hU, eqD_rfl, hn1, hU, go_sem]
   repeat (with_reducible refine And.intro (by first | omega | exact ⟨rfl, by omega, by omega, by omega⟩ | assumption | exact ⟨by omega, by omega⟩ | (refine ⟨by omega, ?_⟩; simp only [ctP] at *; omega)) ?_)
   refine hK8 _ ?_
   refine AWP_seq_k fun K9 hK9 => ?_
   refine AWP_wk (Wk_keep _ [1, 4, 5] [116, 180, 324, 325, 326, 327, 328, 329, 330, 331, 356, 357, 358, 359, 360, 361, 362, 363]) ?_
   simp (maxSteps := 2000000) only [go_sem]
   refine AWP_region (G := G) (T := T_mHx113) T_mHx113_ok ?_
   simp only [hU, eqD_rfl, hn1, hU, go_sem]
   repeat (with_reducible refine And.intro (by first | omega | exact ⟨rfl, by omega, by omega, by omega⟩ | assumption | exact ⟨by omega, by omega⟩ | (refine ⟨by omega, ?_⟩; simp only [ctP] at *; omega)) ?_)
   refine hK9 _ ?_
   refine AWP_seq_k fun K10 hK10 => ?_
   refine AWP_seq_k fun K11 hK11 => ?_
   refine AWP_region (G := G) (T := T_mHx113) T_mHx113_ok ?_
   simp only [hU, eqD_rfl, hn1, hU, go_sem]
   repeat (with_reducible refine And.intro (by first | omega | exact ⟨rfl, by omega, by omega, by omega⟩ | assumption | exact ⟨by omega, by omega⟩ | (refine ⟨by omega, ?_⟩; simp only [ctP] at *; omega)) ?_)
   refine hK11 _ ?_
   refine AWP_cond rfl ?_ ?_
   ·
    intro c1
    try simp only [decide_eq_true_eq, decide_eq_false_iff_not, Bool.not_eq_true', Bool.not_eq_false', ne_eq, Int.not_lt, Int.not_le] at c1
    all_goals first | (cases c1; done) | (simp at c1; done) | omega
   ·
    intro c1
    try simp only [decide_eq_true_eq, decide_eq_false_iff_not, Bool.not_eq_true', Bool.not_eq_false', ne_eq, Int.not_lt, Int.not_le] at c1
    refine AWP_skip ?_
    simp only [go_sem]
    refine hK10 _ ?_
    refine AWP_seq_k fun K12 hK12 => ?_
    refine AWP_seq_k fun K13 hK13 => ?_
    refine AWP_wk (Wk_keep _ [1, 5] [116, 180, 356, 357, 358, 359, 360, 361, 362, 363]) ?_
    simp (maxSteps := 2000000) only [go_sem]
    refine AWP_draw (G := G) (T := T_mHx113) T_mHx113_ok mixed
      [[], [], [1], [0, 1, 2], [0, 1, 2, 3]]
      [[484, 485, 486, 487, 488, 489, 490, 491, 492, 493, 494, 495, 496, 497, 498, 499], [], [], [], []]
      [[], [], [484, 485, 486, 487, 488, 489, 490, 491, 492, 493, 494, 495, 496, 497, 498, 499], [], []] (by kernel_rfl) (by kernel_rfl) (adrawR_ok (acc := []) ?_)
    simp (maxSteps := 2000000) only [hU, eqD_rfl, hn1, hU, go_sem]
    repeat (with_reducible refine And.intro (by first | exact chk_leaf (by kernel_rfl) | omega | exact ⟨rfl, by omega, by omega, by omega⟩ | assumption | exact ⟨by omega, by omega⟩ | (refine ⟨by omega, ?_⟩; simp only [ctP] at *; omega)) ?_)
    refine hK13 _ ?_
    refine AWP_cond rfl ?_ ?_
    ·
     intro c2
     try simp only [decide_eq_true_eq, decide_eq_false_iff_not, Bool.not_eq_true', Bool.not_eq_false', ne_eq, Int.not_lt, Int.not_le] at c2
     all_goals first | (cases c2; done) | (simp at c2; done) | omega
    ·
     intro c2
     try simp only [decide_eq_true_eq, decide_eq_false_iff_not, Bool.not_eq_true', Bool.not_eq_false', ne_eq, Int.not_lt, Int.not_le] at c2
     refine AWP_skip ?_
     simp only [go_sem]
     refine hK12 _ ?_
     refine AWP_seq_k fun K14 hK14 => ?_
     refine AWP_region (G := G) (T := T_mHx113) T_mHx113_ok ?_
     simp only [hU, eqD_rfl, hn1, hU, go_sem]
     repeat (with_reducible refine And.intro (by first | omega | exact ⟨rfl, by omega, by omega, by omega⟩ | assumption | exact ⟨by omega, by omega⟩ | (refine ⟨by omega, ?_⟩; simp only [ctP] at *; omega)) ?_)
     refine hK14 _ ?_
     refine AWP_ret ?_
     simp only [hres, go_sem]
     first
       | exact finOk_mk (by rfl) (by decide)
       | refine ⟨?_, finOk_mk (by rfl) (by decide)⟩
         rfl

theorem lawRed_fn : FnOk Try.prog 6 := fnOk_of Try.func6 rfl (by decide)

def T_lawRed : Tab := fun f => if f = 6 then some (.p K_lawRed) else T_mHx113 f
theorem T_lawRed_ok : TabOk Try.prog T_lawRed := fun f k h => by
  unfold T_lawRed at h
  split at h
  · rename_i e; cases h; subst e; exact ⟨lawRed_ok, lawRed_fn⟩
  · exact T_mHx113_ok f k h
attribute [go_sem] T_lawRed K_lawRed

end Go.Proofs.Ythfopaimihmgiaa
