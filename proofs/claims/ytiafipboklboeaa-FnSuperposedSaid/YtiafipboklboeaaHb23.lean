/-
  Contracts of functions: b10Long, b10Nums, b10Lists, l03Add, AddSignals, DelaySignal, b10At, b10Sum, DrawLinearPatch.
-/
import Derived.Test.YtiafipboklboeaaHb10
import Derived.Test.YtiafipboklboeaaHr6
import Derived.Test.YtiafipboklboeaaHd3
import Derived.Test.YtiafipboklboeaaLc
import Derived.Test.YtiafipboklboeaaGree
namespace Go.Proofs.Ytiafipboklboeaa
open Go.RowKit
set_option linter.unusedSimpArgs false
set_option linter.unusedVariables false

set_option maxRecDepth 100000
set_option maxHeartbeats 8000000
def T_mHb230 : Tab := fun f => match T_l08Signals f with
 | some k => some k
 | none => T_l06Look f
theorem T_mHb230_ok : TabOk Try.prog T_mHb230 := tabM T_l08Signals_ok T_l06Look_ok
attribute [go_sem] T_mHb230 T0

def T_mHb231 : Tab := fun f => match T_mHb230 f with
 | some k => some k
 | none => T_l07Draw f
theorem T_mHb231_ok : TabOk Try.prog T_mHb231 := tabM T_mHb230_ok T_l07Draw_ok
attribute [go_sem] T_mHb231 T0

def K_b10Long : Con := ⟨[.val ((.row 5 (.int .u8)))], [⟨.bool, true⟩], fun _ => True, fun x => decide (1048576 < (x.1.length : Int))⟩
theorem b10Long_ok : PureT Try.prog 5 K_b10Long := by
  refine pure_of_body Try.func5 rfl ?_
  have hres : Try.f5.results.toList = [.tmp 2] := rfl
  rintro ⟨(cd : List Int), _⟩ hc hL
  simp only [K_b10Long, go_sem] at hL
  simp only [K_b10Long, St.init, St.initG, Try.ntmps5, go_sem] 
  refine oS fun K1 hK1 => ?_
  refine oW T_mHb231_ok ?_
  simp only [go_sem]
  refine hK1 _ ?_
  refine oS fun K2 hK2 => ?_
  refine oW T_mHb231_ok ?_
  simp only [go_sem]
  refine hK2 _ ?_
  refine AWP_ret ?_
  simp only [hres, go_sem]
  first | exact oF | exact oFr
def T_b10Long : Tab := fun f => if f = 5 then some (.p K_b10Long) else T_mHb231 f
theorem T_b10Long_ok : TabOk Try.prog T_b10Long := tabP b10Long_ok (fnOk_of Try.func5 rfl (by decide)) T_mHb231_ok
attribute [go_sem] T_b10Long K_b10Long

def K_b10Nums : Con := ⟨[.val ((.row 2 (.int .i64))), .val ((.row 2 (.int .i64)))], [⟨.bool, true⟩], fun _ => True, fun x => eqD (x.1 : List Int) (x.2.1 : List Int)⟩
theorem b10Nums_ok : PureT Try.prog 19 K_b10Nums := by
  refine pure_of_body Try.func19 rfl ?_
  have hres : Try.f19.results.toList = [.tmp 4] := rfl
  rintro ⟨(xs : List Int), (ys : List Int), _⟩ hc hL
  simp only [K_b10Nums, go_sem] at hL
  obtain ⟨lxs, lys⟩ := hL
  simp only [K_b10Nums, St.init, St.initG, Try.ntmps19, go_sem] 
  refine oS fun K1 hK1 => ?_
  refine oW T_b10Long_ok ?_
  simp only [go_sem]
  refine hK1 _ ?_
  refine oS fun K2 hK2 => ?_
  refine oS fun K3 hK3 => ?_
  refine oW T_b10Long_ok ?_
  simp (maxSteps := 2000000) only [go_sem]
  refine hK3 _ ?_
  refine oC rfl ?_ ?_
  ·
   intro c0
   refine oS fun K4 hK4 => ?_
   refine oW T_b10Long_ok ?_
   simp only [go_sem]
   refine hK4 _ ?_
   refine AWP_ret ?_
   simp only [hres, go_sem]
   first | exact oF | (refine ⟨?_, oF⟩; exact (eq_len (by omega)).symm)
  intro c0
  refine AWP_skip ?_
  simp only [go_sem]
  refine hK2 _ ?_
  refine oS fun K5 hK5 => ?_
  refine oS fun K6 hK6 => ?_
  refine oW T_b10Long_ok ?_
  simp only [go_sem]
  refine hK6 _ ?_
  refine AWP_block ?_
  refine AWP_loop_k (ι := { k : Nat // k ≤ xs.length ∧ xs.take k = ys.take k }) (fun k => ⟨[.c (.rd [] 2 (.int .i64) (xs)), .c (.rd [] 2 (.int .i64) (ys)), zz, zz, zz, .c (.sc (.int .i64 (k.1))), zz, zz, zz, zz, zz, zz, zz, zz, zz, zz, zz, zz, zz, zz, zz, zz, zz, zz, zz, zz], []⟩) (fun k => xs.length - k.1) ⟨0, by simp, by simp⟩ ?_ ?_
  ·
   refine oK ?_
   simp (maxSteps := 2000000) only [go_sem]
   all_goals (first | rfl | ((repeat' refine And.intro ?_ ?_) <;> first | rfl | simp))
  rintro ⟨k, hk, hp⟩ K7 hL7
  refine oS fun K8 hK8 => ?_
  refine oS fun K9 hK9 => ?_
  refine oW T_b10Long_ok ?_
  simp only [go_sem]
  refine hK9 _ ?_
  refine oC rfl ?_ ?_
  ·
   intro c1
   refine AWP_skip ?_
   simp only [go_sem]
   refine hK8 _ ?_
   refine oS fun K10 hK10 => ?_
   refine AWP_block ?_
   refine oS fun K11 hK11 => ?_
   refine oR T_b10Long_ok
     [[], [], [0, 1], [0, 1, 2], [], [], [4, 5], [4, 5, 6], [0, 1, 2, 3, 4, 5, 6, 7]]
     [[], [], [], [], [], [], [], [], []]
     [[], [], [], [], [], [], [], [], []] (by kernel_rfl) (by kernel_rfl) (adrawR_ok (acc := []) ?_)
   simp (maxSteps := 2000000) only [go_sem]
   repeat (with_reducible refine oD ?_)
   refine hK11 _ ?_
   refine oC rfl ?_ ?_
   ·
    intro c2
    refine oS fun K12 hK12 => ?_
    refine oW T_b10Long_ok ?_
    simp only [go_sem]
    refine hK12 _ ?_
    refine AWP_ret ?_
    simp only [hres, go_sem]
    first | exact oF | (refine ⟨?_, oF⟩; exact (eq_stop (0 : Int) (m := k) (by first | assumption | exact decide_eq_false (by assumption))).symm)
   intro c2
   refine AWP_skip ?_
   simp only [go_sem]
   refine hK10 _ ?_
   refine oW T_b10Long_ok ?_
   simp only [go_sem]
   refine hL7 ⟨k + 1, by omega, eq_next (d := (0 : Int)) (by omega) (by omega) hp (by first | assumption | exact decide_eq_true (by assumption))⟩ _ (oK ?_) ?_
   ·
    simp (maxSteps := 2000000) only [go_sem]
    all_goals (first | rfl | ((repeat' refine And.intro ?_ ?_) <;> first | rfl | exact wk (by omega) | simp))
   ·
    first | (simp only []; omega) | omega | (simp; omega)
  intro c1
  refine AWP_exit ?_
  simp only [go_sem]
  refine hK5 _ ?_
  refine oS fun K13 hK13 => ?_
  refine oW T_b10Long_ok ?_
  simp only [go_sem]
  refine hK13 _ ?_
  refine AWP_ret ?_
  simp only [hres, go_sem]
  first | exact oF | (refine ⟨?_, oF⟩; exact (eq_done (m := k) (by omega) (by omega) hp).symm)
def T_b10Nums : Tab := fun f => if f = 19 then some (.p K_b10Nums) else T_b10Long f
theorem T_b10Nums_ok : TabOk Try.prog T_b10Nums := tabP b10Nums_ok (fnOk_of Try.func19 rfl (by decide)) T_b10Long_ok
attribute [go_sem] T_b10Nums K_b10Nums

def K_b10Lists : Con := ⟨[.val ((.row 26 (.row 2 (.int .i64)))), .val ((.row 26 (.row 2 (.int .i64))))], [⟨.bool, true⟩], fun _ => True, fun x => eqD (x.1 : List (List Int)) (x.2.1 : List (List Int))⟩
theorem b10Lists_ok : PureT Try.prog 10 K_b10Lists := by
  refine pure_of_body Try.func10 rfl ?_
  have hres : Try.f10.results.toList = [.tmp 4] := rfl
  rintro ⟨(xs : List (List Int)), (ys : List (List Int)), _⟩ hc hL
  simp only [K_b10Lists, go_sem] at hL
  obtain ⟨lxs, lys⟩ := hL
  simp only [K_b10Lists, St.init, St.initG, Try.ntmps10, go_sem] 
  refine oS fun K1 hK1 => ?_
  refine oW T_b10Nums_ok ?_
  simp only [go_sem]
  refine hK1 _ ?_
  refine oS fun K2 hK2 => ?_
  refine oS fun K3 hK3 => ?_
  refine oW T_b10Nums_ok ?_
  simp (maxSteps := 2000000) only [go_sem]
  refine hK3 _ ?_
  refine oC rfl ?_ ?_
  ·
   intro c0
   refine oS fun K4 hK4 => ?_
   refine oW T_b10Nums_ok ?_
   simp only [go_sem]
   refine hK4 _ ?_
   refine AWP_ret ?_
   simp only [hres, go_sem]
   first | exact oF | (refine ⟨?_, oF⟩; exact (eq_len (by omega)).symm)
  intro c0
  refine AWP_skip ?_
  simp only [go_sem]
  refine hK2 _ ?_
  refine oS fun K5 hK5 => ?_
  refine oS fun K6 hK6 => ?_
  refine oW T_b10Nums_ok ?_
  simp only [go_sem]
  refine hK6 _ ?_
  refine AWP_block ?_
  refine AWP_loop_k (ι := { k : Nat // k ≤ xs.length ∧ xs.take k = ys.take k }) (fun k => ⟨[.c (.rd [] 26 (.row 2 (.int .i64)) (xs)), .c (.rd [] 26 (.row 2 (.int .i64)) (ys)), zz, zz, zz, .c (.sc (.int .i64 (k.1))), zz, zz, zz, zz, zz, zz, zz, zz, zz, zz, zz, zz, zz, zz, zz, zz, zz, zz, zz, zz, zz], []⟩) (fun k => xs.length - k.1) ⟨0, by simp, by simp⟩ ?_ ?_
  ·
   refine oK ?_
   simp (maxSteps := 2000000) only [go_sem]
   all_goals (first | rfl | ((repeat' refine And.intro ?_ ?_) <;> first | rfl | simp))
  rintro ⟨k, hk, hp⟩ K7 hL7
  refine oS fun K8 hK8 => ?_
  refine oS fun K9 hK9 => ?_
  refine oW T_b10Nums_ok ?_
  simp only [go_sem]
  refine hK9 _ ?_
  refine oC rfl ?_ ?_
  ·
   intro c1
   refine AWP_skip ?_
   simp only [go_sem]
   refine hK8 _ ?_
   refine oS fun K10 hK10 => ?_
   refine AWP_block ?_
   refine oS fun K11 hK11 => ?_
   refine oR T_b10Nums_ok
     [[], [], [0, 1], [0, 1, 2], [], [], [4, 5], [4, 5, 6], [0, 1, 2, 3, 4, 5, 6, 7], [0, 1, 2, 3, 4, 5, 6, 7, 8]]
     [[], [], [], [], [], [], [], [], [], []]
     [[], [], [], [], [], [], [], [], [], []] (by kernel_rfl) (by kernel_rfl) (adrawR_ok (acc := []) ?_)
   simp (maxSteps := 2000000) only [go_sem]
   repeat (with_reducible refine oD ?_)
   refine hK11 _ ?_
   refine oC rfl ?_ ?_
   ·
    intro c2
    refine oS fun K12 hK12 => ?_
    refine oW T_b10Nums_ok ?_
    simp only [go_sem]
    refine hK12 _ ?_
    refine AWP_ret ?_
    simp only [hres, go_sem]
    first | exact oF | (refine ⟨?_, oF⟩; exact (eq_stop ([] : List Int) (m := k) (by first | assumption | exact decide_eq_false (by assumption))).symm)
   intro c2
   refine AWP_skip ?_
   simp only [go_sem]
   refine hK10 _ ?_
   refine oW T_b10Nums_ok ?_
   simp only [go_sem]
   refine hL7 ⟨k + 1, by omega, eq_next (d := ([] : List Int)) (by omega) (by omega) hp (by first | assumption | exact decide_eq_true (by assumption))⟩ _ (oK ?_) ?_
   ·
    simp (maxSteps := 2000000) only [go_sem]
    all_goals (first | rfl | ((repeat' refine And.intro ?_ ?_) <;> first | rfl | exact wk (by omega) | simp))
   ·
    first | (simp only []; omega) | omega | (simp; omega)
  intro c1
  refine AWP_exit ?_
  simp only [go_sem]
  refine hK5 _ ?_
  refine oS fun K13 hK13 => ?_
  refine oW T_b10Nums_ok ?_
  simp only [go_sem]
  refine hK13 _ ?_
  refine AWP_ret ?_
  simp only [hres, go_sem]
  first | exact oF | (refine ⟨?_, oF⟩; exact (eq_done (m := k) (by omega) (by omega) hp).symm)
def T_b10Lists : Tab := fun f => if f = 10 then some (.p K_b10Lists) else T_b10Nums f
theorem T_b10Lists_ok : TabOk Try.prog T_b10Lists := tabP b10Lists_ok (fnOk_of Try.func10 rfl (by decide)) T_b10Nums_ok
attribute [go_sem] T_b10Lists K_b10Lists

def K_l03Add : Con := ⟨[.val ((.row 2 (.int .i64))), .val ((.row 2 (.int .i64))), .val (.int .i64)], [⟨(.row 2 (.int .i64)), true⟩], fun x => x.1.length ≤ 100000 ∧ x.2.1.length ≤ 100000, fun x => addG x.1 x.2.1 x.2.2.1⟩
theorem l03Add_ok : PureT Try.prog 72 K_l03Add := by
  refine pure_of_body Try.func72 rfl ?_
  have hres : Try.f72.results.toList = [.tmp 6] := rfl
  rintro ⟨(xs : List Int), (ys : List Int), (gg : Int), _⟩ hc hL
  simp only [K_l03Add, go_sem] at hL
  simp only [K_l03Add, St.init, St.initG, Try.ntmps72, go_sem] 
  obtain ⟨hx1, hx2⟩ := (show xs.length ≤ 100000 ∧ ys.length ≤ 100000 from hc)
  have hmx : 0 ≤ iMax (xs.length : Int) (ys.length : Int) ∧ iMax (xs.length : Int) (ys.length : Int) ≤ 100000 := by unfold iMax; omega
  obtain ⟨mx, hm⟩ : ∃ mx : Nat, iMax (xs.length : Int) (ys.length : Int) = mx := ⟨(iMax (xs.length : Int) (ys.length : Int)).toNat, by omega⟩
  have hmb : mx ≤ 100000 := by omega
  refine oS fun K1 hK1 => ?_
  refine oW T_b10Lists_ok ?_
  simp only [go_sem]
  refine hK1 _ ?_
  refine oS fun K2 hK2 => ?_
  refine oW T_b10Lists_ok ?_
  simp only [go_sem]
  repeat (with_reducible refine oA ?_)
  refine hK2 _ ?_
  refine oS fun K3 hK3 => ?_
  refine oW T_b10Lists_ok ?_
  simp (maxSteps := 2000000) only [hm, go_sem]
  repeat (with_reducible refine oA ?_)
  refine hK3 _ ?_
  refine oS fun K4 hK4 => ?_
  refine oS fun K5 hK5 => ?_
  refine oW T_b10Lists_ok ?_
  simp only [go_sem]
  refine hK5 _ ?_
  refine AWP_block ?_
  refine AWP_loop_k (ι := { k : Nat // k ≤ mx }) (fun k => ⟨[.c (.rd [] 2 (.int .i64) (xs)), .c (.rd [] 2 (.int .i64) (ys)), .c (.sc (.int .i64 (gg))), zz, zz, zz, zz, .c (.ow 9001), .c (.sc (.int .i64 ((mx : Int)))), .c (.sc (.int .i64 (k.1))), zz, zz, zz, zz, zz, zz, zz, zz, zz, zz, zz, zz, zz, zz, zz, zz, zz, zz, zz, zz, zz, zz, zz, zz], [(9001, .row 2 (.int .i64) (addN xs ys gg k.1) [])]⟩) (fun k => mx - k.1) ⟨0, by omega⟩ ?_ ?_
  ·
   refine oK ?_
   simp (maxSteps := 2000000) only [go_sem]
   all_goals ((repeat' refine And.intro ?_ ?_) <;> first | rfl | exact True.intro | exact wk (by omega) | omega | (rw [wrapI (by omega)]; omega) | (congr 1; done) | (simp; done))
  rintro ⟨k, hk⟩ K6 hL6
  have hal : (addN xs ys gg k).length = k := addN_len _ _ _ _
  have hnx := addN_next xs ys gg k
  refine oS fun K7 hK7 => ?_
  refine oS fun K8 hK8 => ?_
  refine oW T_b10Lists_ok ?_
  simp only [go_sem]
  refine hK8 _ ?_
  refine oC rfl ?_ ?_
  ·
   intro c0
   refine AWP_skip ?_
   simp only [go_sem]
   refine hK7 _ ?_
   refine oS fun K9 hK9 => ?_
   refine AWP_block ?_
   refine oW T_b10Lists_ok ?_
   simp (maxSteps := 2000000) only [hal, go_sem]
   repeat (with_reducible first | refine oA ?_ | refine And.intro (by first | exact inR_t (by omega) (by omega)) ?_)
   refine hK9 _ ?_
   refine oW T_b10Lists_ok ?_
   simp only [go_sem]
   refine hL6 ⟨k + 1, by omega⟩ _ (oK ?_) ?_
   ·
    simp (maxSteps := 2000000) only [go_sem]
    all_goals ((repeat' refine And.intro ?_ ?_) <;> first | rfl | exact wk (by omega) | exact hnx | (congr 1; done))
   ·
    first | (simp only []; omega) | omega | (simp; omega)
  intro c0
  obtain rfl : k = mx := by omega
  refine AWP_exit ?_
  simp only [go_sem]
  refine hK4 _ ?_
  refine oS fun K10 hK10 => ?_
  refine oW T_b10Lists_ok ?_
  simp only [go_sem]
  refine hK10 _ ?_
  refine AWP_ret ?_
  simp only [hres, go_sem]
  first
   | exact oF
   | refine ⟨?_, oF⟩
     show addN xs ys gg k = addG xs ys gg
     unfold addG
     rw [hm]; rfl
def T_l03Add : Tab := fun f => if f = 72 then some (.p K_l03Add) else T_b10Lists f
theorem T_l03Add_ok : TabOk Try.prog T_l03Add := tabP l03Add_ok (fnOk_of Try.func72 rfl (by decide)) T_b10Lists_ok
attribute [go_sem] T_l03Add K_l03Add

def K_AddSignals : Con := ⟨[.val ((.row 2 (.int .i64))), .val ((.row 2 (.int .i64)))], [⟨(.row 2 (.int .i64)), true⟩, ⟨.int .i64, true⟩], fun _ => True, fun x => addR x.1 x.2.1⟩
theorem AddSignals_ok : PureT Try.prog 40 K_AddSignals := by
  refine pure_of_body Try.func40 rfl ?_
  have hres : Try.f40.results.toList = [.tmp 4, .tmp 5] := rfl
  rintro ⟨(xs : List Int), (ys : List Int), _⟩ hc hL
  simp only [K_AddSignals, go_sem] at hL
  simp only [K_AddSignals, St.init, St.initG, Try.ntmps40, go_sem] 
  refine oS fun K1 hK1 => ?_
  refine oW T_l03Add_ok ?_
  simp only [go_sem]
  refine hK1 _ ?_
  refine oS fun K2 hK2 => ?_
  refine oS fun K3 hK3 => ?_
  refine oW T_l03Add_ok ?_
  simp (maxSteps := 2000000) only [go_sem]
  repeat' (with_reducible first | refine oA ?_ | refine oT (fun g1 => ?_) (fun g1 => ?_) | refine oE (fun g1 => ?_) (fun g1 => ?_))
  all_goals
   refine hK3 _ ?_
   refine AWP_cond rfl ?_ ?_
   ·
    intro c0
    try simp only [decide_eq_true_eq, decide_eq_false_iff_not, Bool.not_eq_true', Bool.not_eq_false', ne_eq, Int.not_lt, Int.not_le, Bool.true_eq_false, Bool.false_eq_true] at c0
    all_goals
     refine oS fun K4 hK4 => ?_
     refine oW T_l03Add_ok ?_
     simp only [go_sem]
     refine hK4 _ ?_
     refine AWP_ret ?_
     simp only [hres, go_sem]
     first
      | exact oF
      | refine ⟨?_, oF⟩
        have hK : (l03B xs && l03B ys) = false := by first | (rw [show l03B xs = false by assumption]; rfl) | (rw [show l03B ys = false by assumption, Bool.and_false])
        unfold addR
        rw [hK]
        try (first | exact ⟨rfl, rfl⟩ | rfl)
   ·
    intro c0
    try simp only [decide_eq_true_eq, decide_eq_false_iff_not, Bool.not_eq_true', Bool.not_eq_false', ne_eq, Int.not_lt, Int.not_le, Bool.true_eq_false, Bool.false_eq_true] at c0
    all_goals
     have hq1 : l03B xs = true := by assumption
     have hq2 : l03B ys = true := by assumption
     have hq3 : xs.length ≤ 100000 ∧ ys.length ≤ 100000 := ⟨by have := (l03B_i hq1).1; omega, by have := (l03B_i hq2).1; omega⟩
     refine AWP_skip ?_
     simp only [go_sem]
     refine hK2 _ ?_
     refine oS fun K5 hK5 => ?_
     refine oW T_l03Add_ok ?_
     simp (maxSteps := 2000000) only [go_sem]
     repeat (with_reducible first | refine oA ?_ | refine And.intro (by first | exact hq3) ?_)
     refine hK5 _ ?_
     refine AWP_ret ?_
     simp only [hres, go_sem]
     first
      | exact oF
      | refine ⟨?_, oF⟩
        rw [addR_t hq1 hq2]
        try (first | exact ⟨rfl, rfl⟩ | rfl)
def T_AddSignals : Tab := fun f => if f = 40 then some (.p K_AddSignals) else T_l03Add f
theorem T_AddSignals_ok : TabOk Try.prog T_AddSignals := tabP AddSignals_ok (fnOk_of Try.func40 rfl (by decide)) T_l03Add_ok
attribute [go_sem] T_AddSignals K_AddSignals

def K_DelaySignal : Con := ⟨[.val ((.row 2 (.int .i64))), .val (.int .i64)], [⟨(.row 2 (.int .i64)), true⟩, ⟨.int .i64, true⟩], fun _ => True, fun x => delayR x.1 x.2.1⟩
theorem DelaySignal_ok : PureT Try.prog 16 K_DelaySignal := by
  refine pure_of_body Try.func16 rfl ?_
  have hres : Try.f16.results.toList = [.tmp 4, .tmp 5] := rfl
  rintro ⟨(xs : List Int), (nn : Int), _⟩ hc hL
  simp only [K_DelaySignal, go_sem] at hL
  simp only [K_DelaySignal, St.init, St.initG, Try.ntmps16, go_sem] 
  refine oS fun K1 hK1 => ?_
  refine oW T_AddSignals_ok ?_
  simp only [go_sem]
  refine hK1 _ ?_
  refine oS fun K2 hK2 => ?_
  refine oS fun K3 hK3 => ?_
  refine oW T_AddSignals_ok ?_
  simp only [go_sem]
  repeat (with_reducible refine oA ?_)
  refine hK3 _ ?_
  refine oC rfl ?_ ?_
  ·
   intro c0
   refine oS fun K4 hK4 => ?_
   refine oW T_AddSignals_ok ?_
   simp only [go_sem]
   refine hK4 _ ?_
   refine AWP_ret ?_
   simp only [hres, go_sem]
   first
    | exact oF
    | refine ⟨?_, oF⟩
      rw [delayR_1 (by assumption)]
      try (first | exact ⟨rfl, rfl⟩ | rfl)
  intro c0
  refine AWP_skip ?_
  simp only [go_sem]
  refine hK2 _ ?_
  refine oS fun K5 hK5 => ?_
  refine oS fun K6 hK6 => ?_
  refine oW T_AddSignals_ok ?_
  simp only [go_sem]
  repeat (with_reducible refine oA ?_)
  refine hK6 _ ?_
  refine oC rfl ?_ ?_
  ·
   intro c1
   refine oS fun K7 hK7 => ?_
   refine oW T_AddSignals_ok ?_
   simp only [go_sem]
   refine hK7 _ ?_
   refine AWP_ret ?_
   simp only [hres, go_sem]
   first
    | exact oF
    | refine ⟨?_, oF⟩
      rw [delayR_2 (by assumption) (by assumption)]
      try (first | exact ⟨rfl, rfl⟩ | rfl)
  intro c1
  refine AWP_skip ?_
  simp only [go_sem]
  refine hK5 _ ?_
  refine oS fun K8 hK8 => ?_
  refine oS fun K9 hK9 => ?_
  have hq1 : l03B xs = true := by assumption
  have hq2 : inR nn 0 4000 = true := by assumption
  have hxl := (l03B_i hq1).1
  obtain ⟨hn1, hn2⟩ := inR_iff.1 hq2
  have hw : IntKind.i64.wrap ((xs.length : Int) + nn) = xs.length + nn := wrapI (by omega)
  refine oW T_AddSignals_ok ?_
  simp (maxSteps := 2000000) only [hw, go_sem]
  refine hK9 _ ?_
  refine oC rfl ?_ ?_
  ·
   intro c2
   refine oS fun K10 hK10 => ?_
   refine oW T_AddSignals_ok ?_
   simp only [go_sem]
   refine hK10 _ ?_
   refine AWP_ret ?_
   simp only [hres, go_sem]
   first
    | exact oF
    | refine ⟨?_, oF⟩
      rw [delayR_5 hq1 hq2 (by omega)]
      try (first | exact ⟨rfl, rfl⟩ | rfl)
  intro c2
  refine AWP_skip ?_
  simp only [go_sem]
  refine hK8 _ ?_
  refine oS fun K11 hK11 => ?_
  refine oW T_AddSignals_ok ?_
  simp (maxSteps := 2000000) only [List.length_replicate, go_sem]
  repeat (with_reducible first | refine oA ?_ | refine And.intro (by first | exact inR_t (by omega) (by omega)) ?_)
  refine hK11 _ ?_
  refine AWP_ret ?_
  simp only [hres, go_sem]
  first
   | exact oF
   | refine ⟨?_, oF⟩
     rw [delayR_0 hq1 hq2 (by omega)]
     try (first | exact ⟨rfl, rfl⟩ | rfl)
def T_DelaySignal : Tab := fun f => if f = 16 then some (.p K_DelaySignal) else T_AddSignals f
theorem T_DelaySignal_ok : TabOk Try.prog T_DelaySignal := tabP DelaySignal_ok (fnOk_of Try.func16 rfl (by decide)) T_AddSignals_ok
attribute [go_sem] T_DelaySignal K_DelaySignal

def K_b10At : Con := ⟨[.val ((.row 5 (.int .u8))), .val (.int .i64), .val (.int .i64)], [⟨.int .i64, true⟩], fun x => inR x.2.1 0 1000000 = true, fun x => atD x.1 x.2.1 x.2.2.1⟩
theorem b10At_ok : PureT Try.prog 15 K_b10At := by
  refine pure_of_body Try.func15 rfl ?_
  have hres : Try.f15.results.toList = [.tmp 6] := rfl
  rintro ⟨(cd : List Int), (x : Int), (nn : Int), _⟩ hc hL
  simp only [K_b10At, go_sem] at hL
  simp only [K_b10At, St.init, St.initG, Try.ntmps15, go_sem] 
  obtain ⟨hx1, hx2⟩ := inR_iff.1 (show inR x 0 1000000 = true from hc)
  have hw1 : IntKind.i64.wrap (x * 37) = x * 37 := wrapI (by omega)
  have hw2 : IntKind.i64.wrap (x * 37 + 11) = x * 37 + 11 := wrapI (by omega)
  refine oS fun K1 hK1 => ?_
  refine oW T_DelaySignal_ok ?_
  simp only [go_sem]
  repeat (with_reducible first | refine oA ?_ | refine And.intro (by first | omega) ?_)
  refine hK1 _ ?_
  refine oS fun K2 hK2 => ?_
  refine oS fun K3 hK3 => ?_
  refine oW T_DelaySignal_ok ?_
  simp only [go_sem]
  repeat (with_reducible first | refine oA ?_ | refine And.intro (by first | omega) ?_)
  refine hK3 _ ?_
  refine oC rfl ?_ ?_
  ·
   intro c0
   have k0 := decide_eq_true c0
   refine oS fun K4 hK4 => ?_
   refine oW T_DelaySignal_ok ?_
   simp only [go_sem]
   repeat (with_reducible first | refine oA ?_ | refine And.intro (by first | omega) ?_)
   refine hK4 _ ?_
   refine AWP_ret ?_
   simp only [hres, go_sem]
   first | exact oF | (refine ⟨?_, oF⟩; simp only [atD, k0])
  intro c0
  have k0 := decide_eq_false (show ¬ nn ≤ 1 by omega)
  refine AWP_skip ?_
  simp only [go_sem]
  refine hK2 _ ?_
  refine oS fun K5 hK5 => ?_
  refine oS fun K6 hK6 => ?_
  refine oW T_DelaySignal_ok ?_
  simp only [go_sem]
  repeat (with_reducible first | refine oA ?_ | refine And.intro (by first | omega) ?_)
  refine hK6 _ ?_
  refine oC rfl ?_ ?_
  ·
   intro c1
   have k1 := decide_eq_true c1
   refine oS fun K7 hK7 => ?_
   refine oW T_DelaySignal_ok ?_
   simp (maxSteps := 2000000) only [go_sem]
   repeat (with_reducible first | refine oA ?_ | refine And.intro (by first | omega) ?_)
   refine hK7 _ ?_
   refine AWP_ret ?_
   simp only [hres, go_sem]
   first | exact oF | (refine ⟨?_, oF⟩; simp only [atD, k0, k1])
  intro c1
  have k1 := decide_eq_false (show ¬ x < (cd.length : Int) by omega)
  refine AWP_skip ?_
  simp only [go_sem]
  refine hK5 _ ?_
  refine oS fun K8 hK8 => ?_
  refine oW T_DelaySignal_ok ?_
  simp (maxSteps := 2000000) only [hw1, hw2, go_sem]
  repeat (with_reducible first | refine oA ?_ | refine And.intro (by first | omega) ?_)
  refine hK8 _ ?_
  refine AWP_ret ?_
  simp only [hres, go_sem]
  first | exact oF | (refine ⟨?_, oF⟩; simp only [atD, k0, k1])
def T_b10At : Tab := fun f => if f = 15 then some (.p K_b10At) else T_DelaySignal f
theorem T_b10At_ok : TabOk Try.prog T_b10At := tabP b10At_ok (fnOk_of Try.func15 rfl (by decide)) T_DelaySignal_ok
attribute [go_sem] T_b10At K_b10At

def K_b10Sum : Con := ⟨[.val ((.row 26 (.row 2 (.int .i64)))), .val ((.row 26 (.row 2 (.int .i64))))], [⟨(.row 26 (.row 2 (.int .i64))), true⟩], fun x => x.1.length ≤ 1000, fun x => sumR x.1 x.2.1 (min x.1.length x.2.1.length)⟩
theorem b10Sum_ok : PureT Try.prog 17 K_b10Sum := by
  refine pure_of_body Try.func17 rfl ?_
  have hres : Try.f17.results.toList = [.tmp 4] := rfl
  rintro ⟨(aa : List (List Int)), (bs : List (List Int)), _⟩ hc hL
  simp only [K_b10Sum, go_sem] at hL
  simp only [K_b10Sum, St.init, St.initG, Try.ntmps17, go_sem] 
  have hx1 : aa.length ≤ 1000 := hc
  refine oS fun K1 hK1 => ?_
  refine oW T_b10At_ok ?_
  simp only [go_sem]
  refine hK1 _ ?_
  refine oS fun K2 hK2 => ?_
  refine oW T_b10At_ok ?_
  simp only [List.nodup_cons, List.nodup_nil, List.not_mem_nil, not_false_eq_true, go_sem]
  repeat (with_reducible refine oA ?_)
  refine hK2 _ ?_
  refine oS fun K3 hK3 => ?_
  refine oS fun K4 hK4 => ?_
  refine oW T_b10At_ok ?_
  simp only [go_sem]
  refine hK4 _ ?_
  refine AWP_block ?_
  refine AWP_loop_k (ι := { k : Nat // k ≤ (min aa.length bs.length) }) (fun k => ⟨[.c (.rd [] 26 (.row 2 (.int .i64)) (aa)), .c (.rd [] 26 (.row 2 (.int .i64)) (bs)), zz, zz, zz, .c (.ow 9001), .c (.sc (.int .i64 (k.1))), zz, zz, zz, zz, zz, zz, zz, zz, zz, zz, zz, zz, zz, zz, zz, zz, zz, zz, zz, zz, zz, zz, zz, zz, zz, zz, zz, zz, zz, zz, zz, zz], [(9001, .tree 26 (.row 2 (.int .i64)) (sumR aa bs k.1) none)]⟩) (fun k => (min aa.length bs.length) - k.1) ⟨0, by omega⟩ ?_ ?_
  ·
   refine oK ?_
   simp (maxSteps := 2000000) only [go_sem]
   all_goals ((repeat' refine And.intro ?_ ?_) <;> first | rfl | exact True.intro | exact wk (by omega) | omega | (rw [wrapI (by omega)]; omega) | (congr 1; done) | (simp; done))
  rintro ⟨k, hk⟩ K5 hL5
  have hal : (sumR aa bs k).length = k := sumR_len _ _ _
  have hnx := sumR_next aa bs k
  refine oS fun K6 hK6 => ?_
  refine oS fun K7 hK7 => ?_
  refine oW T_b10At_ok ?_
  simp (maxSteps := 2000000) only [go_sem]
  repeat' (with_reducible first | refine oA ?_ | refine oT (fun g3 => ?_) (fun g3 => ?_) | refine oE (fun g3 => ?_) (fun g3 => ?_))
  all_goals
   refine hK7 _ ?_
   refine AWP_cond rfl ?_ ?_
   ·
    intro c0
    try simp only [decide_eq_true_eq, decide_eq_false_iff_not, Bool.not_eq_true', Bool.not_eq_false', ne_eq, Int.not_lt, Int.not_le, Bool.true_eq_false, Bool.false_eq_true] at c0
    all_goals
     refine AWP_skip ?_
     simp only [go_sem]
     refine hK6 _ ?_
     refine oS fun K8 hK8 => ?_
     refine AWP_block ?_
     refine oS fun K9 hK9 => ?_
     refine oR T_b10At_ok
       [[], [], [0, 1], [0, 1, 2], [], [], [4, 5], [4, 5, 6], [0, 1, 2, 3, 4, 5, 6, 7], [0, 1, 2, 3, 4, 5, 6, 7, 8], [0, 1, 2, 3, 4, 5, 6, 7, 8, 9], [0, 1, 2, 3, 4, 5, 6, 7, 8, 9], [0, 1, 2, 3, 4, 5, 6, 7, 8, 9, 10], [0, 1, 2, 3, 4, 5, 6, 7, 8, 9, 10, 11, 12]]
       [[], [], [], [], [], [], [], [], [], [], [], [], [], []]
       [[], [], [], [], [], [], [], [], [], [], [], [], [], []] (by kernel_rfl) (by kernel_rfl) (adrawR_ok (acc := []) ?_)
     simp (maxSteps := 2000000) only [go_sem]
     repeat (with_reducible refine oD ?_)
     refine hK9 _ ?_
     refine oW T_b10At_ok ?_
     simp (maxSteps := 2000000) only [List.nodup_cons, List.nodup_nil, List.not_mem_nil, not_false_eq_true, hal, go_sem]
     repeat (with_reducible refine oA ?_)
     refine hK8 _ ?_
     refine oW T_b10At_ok ?_
     simp only [go_sem]
     refine hL5 ⟨k + 1, by omega⟩ _ (oK ?_) ?_
     ·
      simp (maxSteps := 2000000) only [go_sem]
      all_goals ((repeat' refine And.intro ?_ ?_) <;> first | rfl | exact wk (by omega) | exact hnx | (congr 1; exact hnx) | (congr 1; done))
     ·
      first | (simp only []; omega) | omega | (simp; omega)
   ·
    intro c0
    try simp only [decide_eq_true_eq, decide_eq_false_iff_not, Bool.not_eq_true', Bool.not_eq_false', ne_eq, Int.not_lt, Int.not_le, Bool.true_eq_false, Bool.false_eq_true] at c0
    all_goals
     refine AWP_exit ?_
     simp only [go_sem]
     refine hK3 _ ?_
     refine oS fun K10 hK10 => ?_
     refine oW T_b10At_ok ?_
     simp only [go_sem]
     refine hK10 _ ?_
     refine AWP_ret ?_
     simp only [hres, go_sem]
     first
      | exact oF
      | refine ⟨?_, oF⟩
        clear hK1 hK2 hK3 hK4 hL5 hK6 hK7 hK10
        rw [show (min aa.length bs.length) = k by omega]
def T_b10Sum : Tab := fun f => if f = 17 then some (.p K_b10Sum) else T_b10At f
theorem T_b10Sum_ok : TabOk Try.prog T_b10Sum := tabP b10Sum_ok (fnOk_of Try.func17 rfl (by decide)) T_b10At_ok
attribute [go_sem] T_b10Sum K_b10Sum

def K_drawLin : Con := ⟨[.val ((.row 5 (.int .u8)))], [⟨(.prod (.int .i64) (.prod (.row 26 (.row 2 (.int .i64))) (.prod (.row 83 (.prod (.int .i64) (.prod (.int .i64) (.prod (.int .i64) (.row 2 (.int .i64)))))) (.row 2 (.int .i64))))), false⟩], fun x => ∀ b ∈ (x.1 : List Int), 0 ≤ b ∧ b ≤ 255, fun x => linC x.1⟩
theorem drawLin_ok : PureT Try.prog 14 K_drawLin := by
  refine pure_of_body Try.func14 rfl ?_
  have hres : Try.f14.results.toList = [.cell 2 28] := rfl
  rintro ⟨(cd : List Int), _⟩ hc hL
  simp only [K_drawLin, go_sem] at hL
  simp only [K_drawLin, St.init, St.initG, Try.ntmps14, go_sem] 
  have hcd : ∀ b ∈ cd, 0 ≤ b ∧ b ≤ 255 := hc
  have hs0 : srcOk 3000 (cd, 0, 0) := ⟨hcd, by simp, by simp⟩
  rcases hr1 : pickD 2 (cd, 0, 0) with ⟨v1, u1, p1, q1⟩
  obtain ⟨hs1, hv1, hb1, hz1⟩ := pickD_at hs0 (by omega) hr1
  have hs1 : srcOk _ (u1, p1, q1) := hs1
  rcases hr2 : pickD 2 (u1, p1, q1) with ⟨v2, u2, p2, q2⟩
  obtain ⟨hs2, hv2, hb2, hz2⟩ := pickD_at hs1 (by omega) hr2
  have hs2 : srcOk _ (u2, p2, q2) := hs2
  have hb1 := hb1 (by omega)
  have hb2 := hb2 (by omega)
  have hw1 : IntKind.i64.wrap (1 + v1) = 1 + v1 := wrapI (by omega)
  have hw2 : IntKind.i64.wrap (1 + v2) = 1 + v2 := wrapI (by omega)
  rcases hr3 : l07D (1 + v1) (1 + v2) 9 true (u2, p2, q2) with ⟨⟨pi, ts, ns, os⟩, u3, p3, q3⟩
  have q1 : 0 ≤ 1 + v1 := by omega
  have q2 : 1 + v1 ≤ 4 := by omega
  have q3 : 0 ≤ 1 + v2 := by omega
  have q4 : 1 + v2 ≤ 4 := by omega
  have q5 : (1 : Int) ≤ 9 := by omega
  have q6 : (9 : Int) ≤ 20 := by omega
  refine oS fun K1 hK1 => ?_
  refine oW T_b10Sum_ok ?_
  simp only [go_sem]
  repeat (with_reducible first | refine oA ?_ | refine And.intro (by first | exact hs0.le (by omega) | exact hs0.le (by omega) | exact hs1.le (by omega) | exact hs2.le (by omega) | with_unfolding_all exact ⟨hs2.le (by omega), q1, q2, q3, q4, q5, q6⟩) ?_)
  refine hK1 _ ?_
  refine oS fun K2 hK2 => ?_
  refine oW T_b10Sum_ok ?_
  simp only [go_sem]
  repeat (with_reducible first | refine oA ?_ | refine And.intro (by first | exact hs0.le (by omega) | exact hs0.le (by omega) | exact hs1.le (by omega) | exact hs2.le (by omega) | with_unfolding_all exact ⟨hs2.le (by omega), q1, q2, q3, q4, q5, q6⟩) ?_)
  refine hK2 _ ?_
  refine oS fun K3 hK3 => ?_
  refine oW T_b10Sum_ok ?_
  simp (maxSteps := 2000000) only [List.nodup_cons, List.nodup_nil, List.not_mem_nil, not_false_eq_true, hr1, hr2, hr3, hw1, hw2, go_sem]
  repeat (with_reducible first | refine oA ?_ | refine And.intro (by first | exact hs0.le (by omega) | exact hs0.le (by omega) | exact hs1.le (by omega) | exact hs2.le (by omega) | with_unfolding_all exact ⟨hs2.le (by omega), q1, q2, q3, q4, q5, q6⟩) ?_)
  refine hK3 _ ?_
  refine AWP_wk (Wk_freeB _ 308 (by decide)) ?_
  simp (maxSteps := 2000000) only [go_sem]
  refine AWP_wk (Wk_freeB _ 309 (by decide)) ?_
  simp (maxSteps := 2000000) only [go_sem]
  refine AWP_wk (Wk_freeR _ 310 (by decide)) ?_
  simp (maxSteps := 2000000) only [go_sem]
  refine AWP_ret ?_
  simp only [hres, go_sem]
  first
   | exact oF
   | refine ⟨?_, oF⟩
     have hq : linC cd = (pi, ts, ns, os) := by simp only [linC, linD, bnd, hr1, hr2, hr3]
     simp only [hq]
     try ((repeat' refine And.intro ?_ ?_) <;> first | rfl | trivial | (congr 1; done))
def T_drawLin : Tab := fun f => if f = 14 then some (.p K_drawLin) else T_b10Sum f
theorem T_drawLin_ok : TabOk Try.prog T_drawLin := tabP drawLin_ok (fnOk_of Try.func14 rfl (by decide)) T_b10Sum_ok
attribute [go_sem] T_drawLin K_drawLin

end Go.Proofs.Ytiafipboklboeaa
