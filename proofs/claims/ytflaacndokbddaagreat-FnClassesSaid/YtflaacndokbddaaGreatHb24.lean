/-
  Contracts of functions: b10Long, b10Nums, b10Lists, b10At, ValidPatch, StartState, NodeValues.
-/
import Derived.Test.YtflaacndokbddaaGreatHb10
import Derived.Test.YtflaacndokbddaaGreatHb16
import Derived.Test.YtflaacndokbddaaGreatHs2
import Derived.Test.YtflaacndokbddaaGreatHt5
import Derived.Test.YtflaacndokbddaaGreatQe
namespace Go.Proofs.YtflaacndokbddaaGreat
open Go.RowKit
set_option linter.unusedSimpArgs false
set_option linter.unusedVariables false

set_option maxRecDepth 100000
set_option maxHeartbeats 1000000
def T_mHb240 : Tab := fun f => match T_l08Signals f with
 | some k => some k
 | none => T_l08Start f
theorem T_mHb240_ok : TabOk Tryz.prog T_mHb240 := tabM T_l08Signals_ok T_l08Start_ok
attribute [go_sem] T_mHb240 T0

def T_mHb241 : Tab := fun f => match T_mHb240 f with
 | some k => some k
 | none => T_l08Frame f
theorem T_mHb241_ok : TabOk Tryz.prog T_mHb241 := tabM T_mHb240_ok T_l08Frame_ok
attribute [go_sem] T_mHb241 T0

def T_mHb242 : Tab := fun f => match T_mHb241 f with
 | some k => some k
 | none => T_l08Values f
theorem T_mHb242_ok : TabOk Tryz.prog T_mHb242 := tabM T_mHb241_ok T_l08Values_ok
attribute [go_sem] T_mHb242 T0

def K_b10Long : Con := ⟨[.val ((.row 5 (.int .u8)))], [⟨.bool, true⟩], fun _ => True, fun x => decide (1048576 < (x.1.length : Int))⟩
theorem b10Long_ok : PureT Tryz.prog 8 K_b10Long := by
  refine pure_of_body Tryz.func8 rfl ?_
  have hres : Tryz.f8.results.toList = [.tmp 2] := rfl
  rintro ⟨(cd : List Int), _⟩ hc hL
  simp only [K_b10Long, go_sem] at hL
  simp only [K_b10Long, St.init, St.initG, Tryz.ntmps8, go_sem] 
  refine oS fun K1 hK1 => ?_
  refine oW T_mHb242_ok ?_
  simp only [go_sem]
  refine hK1 _ ?_
  refine oS fun K2 hK2 => ?_
  refine oW T_mHb242_ok ?_
  simp only [go_sem]
  refine hK2 _ ?_
  refine AWP_ret ?_
  simp only [hres, go_sem]
  first | exact oF | exact oFr
def T_b10Long : Tab := fun f => if f = 8 then some (.p K_b10Long) else T_mHb242 f
theorem T_b10Long_ok : TabOk Tryz.prog T_b10Long := tabP b10Long_ok (fnOk_of Tryz.func8 rfl (by decide)) T_mHb242_ok
attribute [go_sem] T_b10Long K_b10Long

def K_b10Nums : Con := ⟨[.val ((.row 2 (.int .i64))), .val ((.row 2 (.int .i64)))], [⟨.bool, true⟩], fun _ => True, fun x => eqD (x.1 : List Int) (x.2.1 : List Int)⟩
theorem b10Nums_ok : PureT Tryz.prog 66 K_b10Nums := by
  refine pure_of_body Tryz.func66 rfl ?_
  have hres : Tryz.f66.results.toList = [.tmp 4] := rfl
  rintro ⟨(xs : List Int), (ys : List Int), _⟩ hc hL
  simp only [K_b10Nums, go_sem] at hL
  obtain ⟨lxs, lys⟩ := hL
  simp only [K_b10Nums, St.init, St.initG, Tryz.ntmps66, go_sem] 
  refine oS fun K1 hK1 => ?_
  refine oW T_b10Long_ok ?_
  simp only [go_sem]
  refine hK1 _ ?_
  refine oS fun K2 hK2 => ?_
  refine oS fun K3 hK3 => ?_
  refine oW T_b10Long_ok ?_
  simp (maxSteps := 2000000) only [go_sem]
  refine hK3 _ ?_
  refine oC rfl ?_ ?_
  ·
   intro c0
   refine oS fun K4 hK4 => ?_
   refine oW T_b10Long_ok ?_
   simp only [go_sem]
   refine hK4 _ ?_
   refine AWP_ret ?_
   simp only [hres, go_sem]
   first | exact oF | (refine ⟨?_, oF⟩; exact (eq_len (by omega)).symm)
  intro c0
  refine AWP_skip ?_
  simp only [go_sem]
  refine hK2 _ ?_
  refine oS fun K5 hK5 => ?_
  refine oS fun K6 hK6 => ?_
  refine oW T_b10Long_ok ?_
  simp only [go_sem]
  refine hK6 _ ?_
  refine AWP_block ?_
  refine AWP_loop_k (ι := { k : Nat // k ≤ xs.length ∧ xs.take k = ys.take k }) (fun k => ⟨[.c (.rd [] 2 (.int .i64) (xs)), .c (.rd [] 2 (.int .i64) (ys)), zz, zz, zz, .c (.sc (.int .i64 (k.1))), zz, zz, zz, zz, zz, zz, zz, zz, zz, zz, zz, zz, zz, zz, zz, zz, zz, zz, zz, zz], []⟩) (fun k => xs.length - k.1) ⟨0, by simp, by simp⟩ ?_ ?_
  ·
   refine oK ?_
   simp (maxSteps := 2000000) only [go_sem]
   all_goals (first | rfl | ((repeat' refine And.intro ?_ ?_) <;> first | rfl | simp))
  rintro ⟨k, hk, hp⟩ K7 hL7
  refine oS fun K8 hK8 => ?_
  refine oS fun K9 hK9 => ?_
  refine oW T_b10Long_ok ?_
  simp only [go_sem]
  refine hK9 _ ?_
  refine oC rfl ?_ ?_
  ·
   intro c1
   refine AWP_skip ?_
   simp only [go_sem]
   refine hK8 _ ?_
   refine oS fun K10 hK10 => ?_
   refine AWP_block ?_
   refine oS fun K11 hK11 => ?_
   refine oR T_b10Long_ok
     [[], [], [0, 1], [0, 1, 2], [], [], [4, 5], [4, 5, 6], [0, 1, 2, 3, 4, 5, 6, 7]]
     [[], [], [], [], [], [], [], [], []]
     [[], [], [], [], [], [], [], [], []] (by kernel_rfl) (by kernel_rfl) (adrawR_ok (acc := []) ?_)
   simp (maxSteps := 2000000) only [go_sem]
   repeat (with_reducible refine oD ?_)
   refine hK11 _ ?_
   refine oC rfl ?_ ?_
   ·
    intro c2
    refine oS fun K12 hK12 => ?_
    refine oW T_b10Long_ok ?_
    simp only [go_sem]
    refine hK12 _ ?_
    refine AWP_ret ?_
    simp only [hres, go_sem]
    first | exact oF | (refine ⟨?_, oF⟩; exact (eq_stop (0 : Int) (m := k) (by first | assumption | exact decide_eq_false (by assumption))).symm)
   intro c2
   refine AWP_skip ?_
   simp only [go_sem]
   refine hK10 _ ?_
   refine oW T_b10Long_ok ?_
   simp only [go_sem]
   refine hL7 ⟨k + 1, by omega, eq_next (d := (0 : Int)) (by omega) (by omega) hp (by first | assumption | exact decide_eq_true (by assumption))⟩ _ (oK ?_) ?_
   ·
    simp (maxSteps := 2000000) only [go_sem]
    all_goals (first | rfl | ((repeat' refine And.intro ?_ ?_) <;> first | rfl | exact wk (by omega) | simp))
   ·
    first | (simp only []; omega) | omega | (simp; omega)
  intro c1
  refine AWP_exit ?_
  simp only [go_sem]
  refine hK5 _ ?_
  refine oS fun K13 hK13 => ?_
  refine oW T_b10Long_ok ?_
  simp only [go_sem]
  refine hK13 _ ?_
  refine AWP_ret ?_
  simp only [hres, go_sem]
  first | exact oF | (refine ⟨?_, oF⟩; exact (eq_done (m := k) (by omega) (by omega) hp).symm)
def T_b10Nums : Tab := fun f => if f = 66 then some (.p K_b10Nums) else T_b10Long f
theorem T_b10Nums_ok : TabOk Tryz.prog T_b10Nums := tabP b10Nums_ok (fnOk_of Tryz.func66 rfl (by decide)) T_b10Long_ok
attribute [go_sem] T_b10Nums K_b10Nums

def K_b10Lists : Con := ⟨[.val ((.row 26 (.row 2 (.int .i64)))), .val ((.row 26 (.row 2 (.int .i64))))], [⟨.bool, true⟩], fun _ => True, fun x => eqD (x.1 : List (List Int)) (x.2.1 : List (List Int))⟩
theorem b10Lists_ok : PureT Tryz.prog 21 K_b10Lists := by
  refine pure_of_body Tryz.func21 rfl ?_
  have hres : Tryz.f21.results.toList = [.tmp 4] := rfl
  rintro ⟨(xs : List (List Int)), (ys : List (List Int)), _⟩ hc hL
  simp only [K_b10Lists, go_sem] at hL
  obtain ⟨lxs, lys⟩ := hL
  simp only [K_b10Lists, St.init, St.initG, Tryz.ntmps21, go_sem] 
  refine oS fun K1 hK1 => ?_
  refine oW T_b10Nums_ok ?_
  simp only [go_sem]
  refine hK1 _ ?_
  refine oS fun K2 hK2 => ?_
  refine oS fun K3 hK3 => ?_
  refine oW T_b10Nums_ok ?_
  simp (maxSteps := 2000000) only [go_sem]
  refine hK3 _ ?_
  refine oC rfl ?_ ?_
  ·
   intro c0
   refine oS fun K4 hK4 => ?_
   refine oW T_b10Nums_ok ?_
   simp only [go_sem]
   refine hK4 _ ?_
   refine AWP_ret ?_
   simp only [hres, go_sem]
   first | exact oF | (refine ⟨?_, oF⟩; exact (eq_len (by omega)).symm)
  intro c0
  refine AWP_skip ?_
  simp only [go_sem]
  refine hK2 _ ?_
  refine oS fun K5 hK5 => ?_
  refine oS fun K6 hK6 => ?_
  refine oW T_b10Nums_ok ?_
  simp only [go_sem]
  refine hK6 _ ?_
  refine AWP_block ?_
  refine AWP_loop_k (ι := { k : Nat // k ≤ xs.length ∧ xs.take k = ys.take k }) (fun k => ⟨[.c (.rd [] 26 (.row 2 (.int .i64)) (xs)), .c (.rd [] 26 (.row 2 (.int .i64)) (ys)), zz, zz, zz, .c (.sc (.int .i64 (k.1))), zz, zz, zz, zz, zz, zz, zz, zz, zz, zz, zz, zz, zz, zz, zz, zz, zz, zz, zz, zz, zz], []⟩) (fun k => xs.length - k.1) ⟨0, by simp, by simp⟩ ?_ ?_
  ·
   refine oK ?_
   simp (maxSteps := 2000000) only [go_sem]
   all_goals (first | rfl | ((repeat' refine And.intro ?_ ?_) <;> first | rfl | simp))
  rintro ⟨k, hk, hp⟩ K7 hL7
  refine oS fun K8 hK8 => ?_
  refine oS fun K9 hK9 => ?_
  refine oW T_b10Nums_ok ?_
  simp only [go_sem]
  refine hK9 _ ?_
  refine oC rfl ?_ ?_
  ·
   intro c1
   refine AWP_skip ?_
   simp only [go_sem]
   refine hK8 _ ?_
   refine oS fun K10 hK10 => ?_
   refine AWP_block ?_
   refine oS fun K11 hK11 => ?_
   refine oR T_b10Nums_ok
     [[], [], [0, 1], [0, 1, 2], [], [], [4, 5], [4, 5, 6], [0, 1, 2, 3, 4, 5, 6, 7], [0, 1, 2, 3, 4, 5, 6, 7, 8]]
     [[], [], [], [], [], [], [], [], [], []]
     [[], [], [], [], [], [], [], [], [], []] (by kernel_rfl) (by kernel_rfl) (adrawR_ok (acc := []) ?_)
   simp (maxSteps := 2000000) only [go_sem]
   repeat (with_reducible refine oD ?_)
   refine hK11 _ ?_
   refine oC rfl ?_ ?_
   ·
    intro c2
    refine oS fun K12 hK12 => ?_
    refine oW T_b10Nums_ok ?_
    simp only [go_sem]
    refine hK12 _ ?_
    refine AWP_ret ?_
    simp only [hres, go_sem]
    first | exact oF | (refine ⟨?_, oF⟩; exact (eq_stop ([] : List Int) (m := k) (by first | assumption | exact decide_eq_false (by assumption))).symm)
   intro c2
   refine AWP_skip ?_
   simp only [go_sem]
   refine hK10 _ ?_
   refine oW T_b10Nums_ok ?_
   simp only [go_sem]
   refine hL7 ⟨k + 1, by omega, eq_next (d := ([] : List Int)) (by omega) (by omega) hp (by first | assumption | exact decide_eq_true (by assumption))⟩ _ (oK ?_) ?_
   ·
    simp (maxSteps := 2000000) only [go_sem]
    all_goals (first | rfl | ((repeat' refine And.intro ?_ ?_) <;> first | rfl | exact wk (by omega) | simp))
   ·
    first | (simp only []; omega) | omega | (simp; omega)
  intro c1
  refine AWP_exit ?_
  simp only [go_sem]
  refine hK5 _ ?_
  refine oS fun K13 hK13 => ?_
  refine oW T_b10Nums_ok ?_
  simp only [go_sem]
  refine hK13 _ ?_
  refine AWP_ret ?_
  simp only [hres, go_sem]
  first | exact oF | (refine ⟨?_, oF⟩; exact (eq_done (m := k) (by omega) (by omega) hp).symm)
def T_b10Lists : Tab := fun f => if f = 21 then some (.p K_b10Lists) else T_b10Nums f
theorem T_b10Lists_ok : TabOk Tryz.prog T_b10Lists := tabP b10Lists_ok (fnOk_of Tryz.func21 rfl (by decide)) T_b10Nums_ok
attribute [go_sem] T_b10Lists K_b10Lists

def K_b10At : Con := ⟨[.val ((.row 5 (.int .u8))), .val (.int .i64), .val (.int .i64)], [⟨.int .i64, true⟩], fun x => inR x.2.1 0 1000000 = true, fun x => atD x.1 x.2.1 x.2.2.1⟩
theorem b10At_ok : PureT Tryz.prog 17 K_b10At := by
  refine pure_of_body Tryz.func17 rfl ?_
  have hres : Tryz.f17.results.toList = [.tmp 6] := rfl
  rintro ⟨(cd : List Int), (x : Int), (nn : Int), _⟩ hc hL
  simp only [K_b10At, go_sem] at hL
  simp only [K_b10At, St.init, St.initG, Tryz.ntmps17, go_sem] 
  obtain ⟨hx1, hx2⟩ := inR_iff.1 (show inR x 0 1000000 = true from hc)
  have hw1 : IntKind.i64.wrap (x * 37) = x * 37 := wrapI (by omega)
  have hw2 : IntKind.i64.wrap (x * 37 + 11) = x * 37 + 11 := wrapI (by omega)
  refine oS fun K1 hK1 => ?_
  refine oW T_b10Lists_ok ?_
  simp only [go_sem]
  repeat (with_reducible first | refine oA ?_ | refine And.intro (by first | omega) ?_)
  refine hK1 _ ?_
  refine oS fun K2 hK2 => ?_
  refine oS fun K3 hK3 => ?_
  refine oW T_b10Lists_ok ?_
  simp only [go_sem]
  repeat (with_reducible first | refine oA ?_ | refine And.intro (by first | omega) ?_)
  refine hK3 _ ?_
  refine oC rfl ?_ ?_
  ·
   intro c0
   have k0 := decide_eq_true c0
   refine oS fun K4 hK4 => ?_
   refine oW T_b10Lists_ok ?_
   simp only [go_sem]
   repeat (with_reducible first | refine oA ?_ | refine And.intro (by first | omega) ?_)
   refine hK4 _ ?_
   refine AWP_ret ?_
   simp only [hres, go_sem]
   first | exact oF | (refine ⟨?_, oF⟩; simp only [atD, k0])
  intro c0
  have k0 := decide_eq_false (show ¬ nn ≤ 1 by omega)
  refine AWP_skip ?_
  simp only [go_sem]
  refine hK2 _ ?_
  refine oS fun K5 hK5 => ?_
  refine oS fun K6 hK6 => ?_
  refine oW T_b10Lists_ok ?_
  simp only [go_sem]
  repeat (with_reducible first | refine oA ?_ | refine And.intro (by first | omega) ?_)
  refine hK6 _ ?_
  refine oC rfl ?_ ?_
  ·
   intro c1
   have k1 := decide_eq_true c1
   refine oS fun K7 hK7 => ?_
   refine oW T_b10Lists_ok ?_
   simp (maxSteps := 2000000) only [go_sem]
   repeat (with_reducible first | refine oA ?_ | refine And.intro (by first | omega) ?_)
   refine hK7 _ ?_
   refine AWP_ret ?_
   simp only [hres, go_sem]
   first | exact oF | (refine ⟨?_, oF⟩; simp only [atD, k0, k1])
  intro c1
  have k1 := decide_eq_false (show ¬ x < (cd.length : Int) by omega)
  refine AWP_skip ?_
  simp only [go_sem]
  refine hK5 _ ?_
  refine oS fun K8 hK8 => ?_
  refine oW T_b10Lists_ok ?_
  simp (maxSteps := 2000000) only [hw1, hw2, go_sem]
  repeat (with_reducible first | refine oA ?_ | refine And.intro (by first | omega) ?_)
  refine hK8 _ ?_
  refine AWP_ret ?_
  simp only [hres, go_sem]
  first | exact oF | (refine ⟨?_, oF⟩; simp only [atD, k0, k1])
def T_b10At : Tab := fun f => if f = 17 then some (.p K_b10At) else T_b10Lists f
theorem T_b10At_ok : TabOk Tryz.prog T_b10At := tabP b10At_ok (fnOk_of Tryz.func17 rfl (by decide)) T_b10Lists_ok
attribute [go_sem] T_b10At K_b10At

def K_validP : Con := ⟨[.val ((.prod (.int .i64) (.prod (.row 26 (.row 2 (.int .i64))) (.prod (.row 90 (.prod (.int .i64) (.prod (.int .i64) (.prod (.int .i64) (.row 2 (.int .i64)))))) (.row 2 (.int .i64))))))], [⟨.bool, true⟩], fun _ => True, fun x => patchB x.1⟩
theorem validP_ok : PureT Tryz.prog 11 K_validP := by
  refine pure_of_body Tryz.func11 rfl ?_
  have hres : Tryz.f11.results.toList = [.tmp 2] := rfl
  rintro ⟨⟨(pi : Int), (ts : List (List Int)), (ns : List NodeD), (os : List Int)⟩, _⟩ hc hL
  simp only [K_validP, go_sem] at hL
  simp only [K_validP, St.init, St.initG, Tryz.ntmps11, go_sem] 
  refine oS fun K1 hK1 => ?_
  refine oW T_b10At_ok ?_
  simp only [go_sem]
  refine hK1 _ ?_
  refine oS fun K2 hK2 => ?_
  refine oW T_b10At_ok ?_
  simp only [go_sem]
  repeat (with_reducible refine oA ?_)
  refine hK2 _ ?_
  refine AWP_ret ?_
  simp only [hres, go_sem]
  first | exact oF | exact oFr
def T_validP : Tab := fun f => if f = 11 then some (.p K_validP) else T_b10At f
theorem T_validP_ok : TabOk Tryz.prog T_validP := tabP validP_ok (fnOk_of Tryz.func11 rfl (by decide)) T_b10At_ok
attribute [go_sem] T_validP K_validP

def K_specStart : GCon where
  ps := [.val ((.prod (.int .i64) (.prod (.row 26 (.row 2 (.int .i64))) (.prod (.row 90 (.prod (.int .i64) (.prod (.int .i64) (.prod (.int .i64) (.row 2 (.int .i64)))))) (.row 2 (.int .i64))))))]
  os := []
  c := fun _ => True
  r := fun x => .tup [.agg [.ow 10], .c (.sc (.int .i64 (startR x.1.1).2))]
  o := fun x => [(10, .tree 26 (.row 2 (.int .i64)) ((startR x.1.1).1) none)]
  ok := by
    rintro ⟨⟨⟨(pi : Int), (ts : List (List Int)), (ns : List NodeD), (os : List Int)⟩, _⟩, _⟩
    exact ⟨rfl, rfl, by decide⟩
theorem specStart_ok : GenT Tryz.prog 16 K_specStart := by
  refine gen_of_body Tryz.func16 rfl ?_
  have hres : Tryz.f16.results.toList = [.cell 2 39, .tmp 3] := rfl
  rintro ⟨⟨⟨(pi : Int), (ts : List (List Int)), (ns : List NodeD), (os : List Int)⟩, _⟩, _⟩ hc hL hO
  simp only [K_specStart, go_sem] at hL
  simp only [K_specStart, go_sem] at hO
  simp only [K_specStart, St.init, St.initG, Tryz.ntmps16, go_sem] 
  refine oS fun K1 hK1 => ?_
  refine oW T_validP_ok ?_
  simp only [go_sem]
  refine hK1 _ ?_
  refine oS fun K2 hK2 => ?_
  refine oS fun K3 hK3 => ?_
  refine oW T_validP_ok ?_
  simp only [go_sem]
  repeat (with_reducible refine oA ?_)
  refine hK3 _ ?_
  refine oC rfl ?_ ?_
  ·
   intro c0
   refine oS fun K4 hK4 => ?_
   refine oW T_validP_ok ?_
   simp only [go_sem]
   repeat (with_reducible refine oA ?_)
   refine hK4 _ ?_
   refine AWP_wk (Wk_nilBox _ 132 0 9102 26 ((.row 2 (.int .i64))) (by decide)) ?_
   simp (maxSteps := 2000000) only [go_sem]
   refine AWP_ret ?_
   simp only [hres, go_sem]
   first
    | exact oG
    | refine ⟨oG, ?_⟩
      rw [startR_f c0]
      (repeat' refine And.intro ?_ ?_) <;> first | rfl | (congr 1; done)
  intro c0
  refine AWP_skip ?_
  simp only [go_sem]
  refine hK2 _ ?_
  refine oS fun K5 hK5 => ?_
  refine oW T_validP_ok ?_
  simp only [go_sem]
  repeat (with_reducible first | refine oA ?_ | refine And.intro (by first | exact c0) ?_)
  refine hK5 _ ?_
  refine AWP_ret ?_
  simp only [hres, go_sem]
  first
   | exact oG
   | refine ⟨oG, ?_⟩
     rw [startR_t c0]
     (repeat' refine And.intro ?_ ?_) <;> first | rfl | (congr 1; done)
def T_specStart : Tab := fun f => if f = 16 then some (.g K_specStart) else T_validP f
theorem T_specStart_ok : TabOk Tryz.prog T_specStart := tabG specStart_ok (fnOk_of Tryz.func16 rfl (by decide)) T_validP_ok
attribute [go_sem] T_specStart K_specStart

def K_nodeVals : Con := ⟨[.val ((.prod (.int .i64) (.prod (.row 26 (.row 2 (.int .i64))) (.prod (.row 90 (.prod (.int .i64) (.prod (.int .i64) (.prod (.int .i64) (.row 2 (.int .i64)))))) (.row 2 (.int .i64)))))), .one (.row 26 (.row 2 (.int .i64))), .val ((.row 2 (.int .i64)))], [⟨(.row 2 (.int .i64)), true⟩, ⟨.int .i64, true⟩], fun _ => True, fun x => nvR x.1 x.2.1 x.2.2.1⟩
theorem nodeVals_ok : PureT Tryz.prog 18 K_nodeVals := by
  refine pure_of_body Tryz.func18 rfl ?_
  have hres : Tryz.f18.results.toList = [.tmp 6, .tmp 7] := rfl
  rintro ⟨⟨(pi : Int), (ts : List (List Int)), (ns : List NodeD), (os : List Int)⟩, (cc : List (List Int)), (ff : List Int), _⟩ hc hL
  simp only [K_nodeVals, go_sem] at hL
  simp only [K_nodeVals, St.init, St.initG, Tryz.ntmps18, go_sem] 
  refine oS fun K1 hK1 => ?_
  refine oW T_specStart_ok ?_
  simp only [go_sem]
  refine hK1 _ ?_
  refine oS fun K2 hK2 => ?_
  refine oS fun K3 hK3 => ?_
  refine oW T_specStart_ok ?_
  simp only [go_sem]
  repeat (with_reducible refine oA ?_)
  refine hK3 _ ?_
  refine oS fun K4 hK4 => ?_
  refine oW T_specStart_ok ?_
  simp only [go_sem]
  refine hK4 _ ?_
  refine oC rfl ?_ ?_
  ·
   intro c0
   refine oS fun K5 hK5 => ?_
   refine oW T_specStart_ok ?_
   simp only [go_sem]
   refine hK5 _ ?_
   refine AWP_ret ?_
   simp only [hres, go_sem]
   first
    | exact oF
    | refine ⟨?_, oF⟩
      rw [nvR_f c0]
      try (first | exact ⟨rfl, rfl⟩ | rfl)
  intro c0
  obtain ⟨hP, hS, hfl, hff⟩ := codeF_ok c0
  have hsr := stepR_t (p := (pi, ts, ns, os)) (s := cc) (fr := ff) c0
  have hF := (patchB_parts hP).1
  have hn24 : ns.length ≤ 24 := (formedB_parts hF).1
  have hvo := valsL_ok' (p := (pi, ts, ns, os)) (s := cc) (fr := ff) hF hS hff
  have hos : os.length ≤ 1000 ∧ idxs (valsL (pi, ts, ns, os) cc ff).length os = true := ⟨by have := (formedB_parts hF).2.1; show os.length ≤ 1000; have h : os.length ≤ 4 := this; omega, by rw [hvo.1]; exact (formedB_parts hF).2.2.2.2.2.1⟩
  have hor : ordR ns = (ordL ns, true) := ordR_t (patchB_parts hP).2
  refine AWP_skip ?_
  simp only [go_sem]
  refine hK2 _ ?_
  refine oS fun K6 hK6 => ?_
  refine oW T_specStart_ok ?_
  simp (maxSteps := 2000000) only [hor, go_sem]
  repeat (with_reducible first | refine oA ?_ | refine And.intro (by first | exact hF) ?_)
  refine hK6 _ ?_
  refine oS fun K7 hK7 => ?_
  refine oW T_specStart_ok ?_
  simp (maxSteps := 2000000) only [go_sem]
  repeat (with_reducible first | refine oA ?_ | refine And.intro (by first | exact ⟨hP, rfl, hS, hfl, hff⟩ | exact ⟨hP, hS, hfl, hff⟩) ?_)
  refine hK7 _ ?_
  refine AWP_ret ?_
  simp only [hres, go_sem]
  first
   | exact oF
   | refine ⟨?_, oF⟩
     rw [nvR_t c0]
     try (first | exact ⟨rfl, rfl⟩ | rfl)
def T_nodeVals : Tab := fun f => if f = 18 then some (.p K_nodeVals) else T_specStart f
theorem T_nodeVals_ok : TabOk Tryz.prog T_nodeVals := tabP nodeVals_ok (fnOk_of Tryz.func18 rfl (by decide)) T_specStart_ok
attribute [go_sem] T_nodeVals K_nodeVals

end Go.Proofs.YtflaacndokbddaaGreat
