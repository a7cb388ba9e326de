/-
  Contracts of functions: b10Long, b10Nums, b10Lists, b10Cut, StartState, ValidState.
-/
import Derived.Test.YtiafipboklboeaaHs2
import Derived.Test.YtiafipboklboeaaHb11
import Derived.Test.YtiafipboklboeaaQd
namespace Go.Proofs.Ytiafipboklboeaa
open Go.RowKit
set_option linter.unusedSimpArgs false
set_option linter.unusedVariables false

set_option maxRecDepth 100000
set_option maxHeartbeats 1000000
def T_mHb220 : Tab := fun f => match T_l08Frame f with
 | some k => some k
 | none => T_startState f
theorem T_mHb220_ok : TabOk Try.prog T_mHb220 := tabM T_l08Frame_ok T_startState_ok
attribute [go_sem] T_mHb220 T0

def K_b10Long : Con := ⟨[.val ((.row 5 (.int .u8)))], [⟨.bool, true⟩], fun _ => True, fun x => decide (1048576 < (x.1.length : Int))⟩
theorem b10Long_ok : PureT Try.prog 5 K_b10Long := by
  refine pure_of_body Try.func5 rfl ?_
  have hres : Try.f5.results.toList = [.tmp 2] := rfl
  rintro ⟨(cd : List Int), _⟩ hc hL
  simp only [K_b10Long, go_sem] at hL
  simp only [K_b10Long, St.init, St.initG, Try.ntmps5, go_sem] 
  refine oS fun K1 hK1 => ?_
  refine oW T_mHb220_ok ?_
  simp only [go_sem]
  refine hK1 _ ?_
  refine oS fun K2 hK2 => ?_
  refine oW T_mHb220_ok ?_
  simp only [go_sem]
  refine hK2 _ ?_
  refine AWP_ret ?_
  simp only [hres, go_sem]
  first | exact oF | exact oFr
def T_b10Long : Tab := fun f => if f = 5 then some (.p K_b10Long) else T_mHb220 f
theorem T_b10Long_ok : TabOk Try.prog T_b10Long := tabP b10Long_ok (fnOk_of Try.func5 rfl (by decide)) T_mHb220_ok
attribute [go_sem] T_b10Long K_b10Long

def K_b10Nums : Con := ⟨[.val ((.row 2 (.int .i64))), .val ((.row 2 (.int .i64)))], [⟨.bool, true⟩], fun _ => True, fun x => eqD (x.1 : List Int) (x.2.1 : List Int)⟩
theorem b10Nums_ok : PureT Try.prog 19 K_b10Nums := by
  refine pure_of_body Try.func19 rfl ?_
  have hres : Try.f19.results.toList = [.tmp 4] := rfl
  rintro ⟨(xs : List Int), (ys : List Int), _⟩ hc hL
  simp only [K_b10Nums, go_sem] at hL
  obtain ⟨lxs, lys⟩ := hL
  simp only [K_b10Nums, St.init, St.initG, Try.ntmps19, go_sem] 
  refine oS fun K1 hK1 => ?_
  refine oW T_b10Long_ok ?_
  simp only [go_sem]
  refine hK1 _ ?_
  refine oS fun K2 hK2 => ?_
  refine oS fun K3 hK3 => ?_
  refine oW T_b10Long_ok ?_
  simp (maxSteps := 2000000) only [go_sem]
  refine hK3 _ ?_
  refine oC rfl ?_ ?_
  ·
   intro c0
   refine oS fun K4 hK4 => ?_
   refine oW T_b10Long_ok ?_
   simp only [go_sem]
   refine hK4 _ ?_
   refine AWP_ret ?_
   simp only [hres, go_sem]
   first | exact oF | (refine ⟨?_, oF⟩; exact (eq_len (by omega)).symm)
  intro c0
  refine AWP_skip ?_
  simp only [go_sem]
  refine hK2 _ ?_
  refine oS fun K5 hK5 => ?_
  refine oS fun K6 hK6 => ?_
  refine oW T_b10Long_ok ?_
  simp only [go_sem]
  refine hK6 _ ?_
  refine AWP_block ?_
  refine AWP_loop_k (ι := { k : Nat // k ≤ xs.length ∧ xs.take k = ys.take k }) (fun k => ⟨[.c (.rd [] 2 (.int .i64) (xs)), .c (.rd [] 2 (.int .i64) (ys)), zz, zz, zz, .c (.sc (.int .i64 (k.1))), zz, zz, zz, zz, zz, zz, zz, zz, zz, zz, zz, zz, zz, zz, zz, zz, zz, zz, zz, zz], []⟩) (fun k => xs.length - k.1) ⟨0, by simp, by simp⟩ ?_ ?_
  ·
   refine oK ?_
   simp (maxSteps := 2000000) only [go_sem]
   all_goals (first | rfl | ((repeat' refine And.intro ?_ ?_) <;> first | rfl | simp))
  rintro ⟨k, hk, hp⟩ K7 hL7
  refine oS fun K8 hK8 => ?_
  refine oS fun K9 hK9 => ?_
  refine oW T_b10Long_ok ?_
  simp only [go_sem]
  refine hK9 _ ?_
  refine oC rfl ?_ ?_
  ·
   intro c1
   refine AWP_skip ?_
   simp only [go_sem]
   refine hK8 _ ?_
   refine oS fun K10 hK10 => ?_
   refine AWP_block ?_
   refine oS fun K11 hK11 => ?_
   refine oR T_b10Long_ok
     [[], [], [0, 1], [0, 1, 2], [], [], [4, 5], [4, 5, 6], [0, 1, 2, 3, 4, 5, 6, 7]]
     [[], [], [], [], [], [], [], [], []]
     [[], [], [], [], [], [], [], [], []] (by kernel_rfl) (by kernel_rfl) (adrawR_ok (acc := []) ?_)
   simp (maxSteps := 2000000) only [go_sem]
   repeat (with_reducible refine oD ?_)
   refine hK11 _ ?_
   refine oC rfl ?_ ?_
   ·
    intro c2
    refine oS fun K12 hK12 => ?_
    refine oW T_b10Long_ok ?_
    simp only [go_sem]
    refine hK12 _ ?_
    refine AWP_ret ?_
    simp only [hres, go_sem]
    first | exact oF | (refine ⟨?_, oF⟩; exact (eq_stop (0 : Int) (m := k) (by first | assumption | exact decide_eq_false (by assumption))).symm)
   intro c2
   refine AWP_skip ?_
   simp only [go_sem]
   refine hK10 _ ?_
   refine oW T_b10Long_ok ?_
   simp only [go_sem]
   refine hL7 ⟨k + 1, by omega, eq_next (d := (0 : Int)) (by omega) (by omega) hp (by first | assumption | exact decide_eq_true (by assumption))⟩ _ (oK ?_) ?_
   ·
    simp (maxSteps := 2000000) only [go_sem]
    all_goals (first | rfl | ((repeat' refine And.intro ?_ ?_) <;> first | rfl | exact wk (by omega) | simp))
   ·
    first | (simp only []; omega) | omega | (simp; omega)
  intro c1
  refine AWP_exit ?_
  simp only [go_sem]
  refine hK5 _ ?_
  refine oS fun K13 hK13 => ?_
  refine oW T_b10Long_ok ?_
  simp only [go_sem]
  refine hK13 _ ?_
  refine AWP_ret ?_
  simp only [hres, go_sem]
  first | exact oF | (refine ⟨?_, oF⟩; exact (eq_done (m := k) (by omega) (by omega) hp).symm)
def T_b10Nums : Tab := fun f => if f = 19 then some (.p K_b10Nums) else T_b10Long f
theorem T_b10Nums_ok : TabOk Try.prog T_b10Nums := tabP b10Nums_ok (fnOk_of Try.func19 rfl (by decide)) T_b10Long_ok
attribute [go_sem] T_b10Nums K_b10Nums

def K_b10Lists : Con := ⟨[.val ((.row 26 (.row 2 (.int .i64)))), .val ((.row 26 (.row 2 (.int .i64))))], [⟨.bool, true⟩], fun _ => True, fun x => eqD (x.1 : List (List Int)) (x.2.1 : List (List Int))⟩
theorem b10Lists_ok : PureT Try.prog 10 K_b10Lists := by
  refine pure_of_body Try.func10 rfl ?_
  have hres : Try.f10.results.toList = [.tmp 4] := rfl
  rintro ⟨(xs : List (List Int)), (ys : List (List Int)), _⟩ hc hL
  simp only [K_b10Lists, go_sem] at hL
  obtain ⟨lxs, lys⟩ := hL
  simp only [K_b10Lists, St.init, St.initG, Try.ntmps10, go_sem] 
  refine oS fun K1 hK1 => ?_
  refine oW T_b10Nums_ok ?_
  simp only [go_sem]
  refine hK1 _ ?_
  refine oS fun K2 hK2 => ?_
  refine oS fun K3 hK3 => ?_
  refine oW T_b10Nums_ok ?_
  simp (maxSteps := 2000000) only [go_sem]
  refine hK3 _ ?_
  refine oC rfl ?_ ?_
  ·
   intro c0
   refine oS fun K4 hK4 => ?_
   refine oW T_b10Nums_ok ?_
   simp only [go_sem]
   refine hK4 _ ?_
   refine AWP_ret ?_
   simp only [hres, go_sem]
   first | exact oF | (refine ⟨?_, oF⟩; exact (eq_len (by omega)).symm)
  intro c0
  refine AWP_skip ?_
  simp only [go_sem]
  refine hK2 _ ?_
  refine oS fun K5 hK5 => ?_
  refine oS fun K6 hK6 => ?_
  refine oW T_b10Nums_ok ?_
  simp only [go_sem]
  refine hK6 _ ?_
  refine AWP_block ?_
  refine AWP_loop_k (ι := { k : Nat // k ≤ xs.length ∧ xs.take k = ys.take k }) (fun k => ⟨[.c (.rd [] 26 (.row 2 (.int .i64)) (xs)), .c (.rd [] 26 (.row 2 (.int .i64)) (ys)), zz, zz, zz, .c (.sc (.int .i64 (k.1))), zz, zz, zz, zz, zz, zz, zz, zz, zz, zz, zz, zz, zz, zz, zz, zz, zz, zz, zz, zz, zz], []⟩) (fun k => xs.length - k.1) ⟨0, by simp, by simp⟩ ?_ ?_
  ·
   refine oK ?_
   simp (maxSteps := 2000000) only [go_sem]
   all_goals (first | rfl | ((repeat' refine And.intro ?_ ?_) <;> first | rfl | simp))
  rintro ⟨k, hk, hp⟩ K7 hL7
  refine oS fun K8 hK8 => ?_
  refine oS fun K9 hK9 => ?_
  refine oW T_b10Nums_ok ?_
  simp only [go_sem]
  refine hK9 _ ?_
  refine oC rfl ?_ ?_
  ·
   intro c1
   refine AWP_skip ?_
   simp only [go_sem]
   refine hK8 _ ?_
   refine oS fun K10 hK10 => ?_
   refine AWP_block ?_
   refine oS fun K11 hK11 => ?_
   refine oR T_b10Nums_ok
     [[], [], [0, 1], [0, 1, 2], [], [], [4, 5], [4, 5, 6], [0, 1, 2, 3, 4, 5, 6, 7], [0, 1, 2, 3, 4, 5, 6, 7, 8]]
     [[], [], [], [], [], [], [], [], [], []]
     [[], [], [], [], [], [], [], [], [], []] (by kernel_rfl) (by kernel_rfl) (adrawR_ok (acc := []) ?_)
   simp (maxSteps := 2000000) only [go_sem]
   repeat (with_reducible refine oD ?_)
   refine hK11 _ ?_
   refine oC rfl ?_ ?_
   ·
    intro c2
    refine oS fun K12 hK12 => ?_
    refine oW T_b10Nums_ok ?_
    simp only [go_sem]
    refine hK12 _ ?_
    refine AWP_ret ?_
    simp only [hres, go_sem]
    first | exact oF | (refine ⟨?_, oF⟩; exact (eq_stop ([] : List Int) (m := k) (by first | assumption | exact decide_eq_false (by assumption))).symm)
   intro c2
   refine AWP_skip ?_
   simp only [go_sem]
   refine hK10 _ ?_
   refine oW T_b10Nums_ok ?_
   simp only [go_sem]
   refine hL7 ⟨k + 1, by omega, eq_next (d := ([] : List Int)) (by omega) (by omega) hp (by first | assumption | exact decide_eq_true (by assumption))⟩ _ (oK ?_) ?_
   ·
    simp (maxSteps := 2000000) only [go_sem]
    all_goals (first | rfl | ((repeat' refine And.intro ?_ ?_) <;> first | rfl | exact wk (by omega) | simp))
   ·
    first | (simp only []; omega) | omega | (simp; omega)
  intro c1
  refine AWP_exit ?_
  simp only [go_sem]
  refine hK5 _ ?_
  refine oS fun K13 hK13 => ?_
  refine oW T_b10Nums_ok ?_
  simp only [go_sem]
  refine hK13 _ ?_
  refine AWP_ret ?_
  simp only [hres, go_sem]
  first | exact oF | (refine ⟨?_, oF⟩; exact (eq_done (m := k) (by omega) (by omega) hp).symm)
def T_b10Lists : Tab := fun f => if f = 10 then some (.p K_b10Lists) else T_b10Nums f
theorem T_b10Lists_ok : TabOk Try.prog T_b10Lists := tabP b10Lists_ok (fnOk_of Try.func10 rfl (by decide)) T_b10Nums_ok
attribute [go_sem] T_b10Lists K_b10Lists

def K_b10Cut : Con := ⟨[.val ((.row 2 (.int .i64))), .val (.int .i64)], [⟨(.row 2 (.int .i64)), true⟩], fun x => inR x.2.1 0 100000 = true, fun x => cutL x.1 (Int.toNat x.2.1)⟩
theorem b10Cut_ok : PureT Try.prog 11 K_b10Cut := by
  refine pure_of_body Try.func11 rfl ?_
  have hres : Try.f11.results.toList = [.tmp 4] := rfl
  rintro ⟨(xs : List Int), (nn : Int), _⟩ hc hL
  simp only [K_b10Cut, go_sem] at hL
  simp only [K_b10Cut, St.init, St.initG, Try.ntmps11, go_sem] 
  obtain ⟨hn1, hn2⟩ := inR_iff.1 (show inR nn 0 100000 = true from hc)
  refine oS fun K1 hK1 => ?_
  refine oW T_b10Lists_ok ?_
  simp only [go_sem]
  refine hK1 _ ?_
  refine oS fun K2 hK2 => ?_
  refine oW T_b10Lists_ok ?_
  simp only [List.nodup_cons, List.nodup_nil, List.not_mem_nil, not_false_eq_true, go_sem]
  repeat (with_reducible refine oA ?_)
  refine hK2 _ ?_
  refine oS fun K3 hK3 => ?_
  refine oS fun K4 hK4 => ?_
  refine oW T_b10Lists_ok ?_
  simp only [go_sem]
  refine hK4 _ ?_
  refine AWP_block ?_
  refine AWP_loop_k (ι := { k : Nat // k ≤ nn.toNat }) (fun k => ⟨[.c (.rd [] 2 (.int .i64) (xs)), .c (.sc (.int .i64 (nn))), zz, zz, zz, .c (.ow 9001), .c (.sc (.int .i64 (k.1))), zz, zz, zz, zz, zz, zz, zz, zz, zz, zz, zz, zz, zz, zz, zz, zz, zz, zz, zz, zz], [(9001, .row 2 (.int .i64) (cutL xs k.1) [])]⟩) (fun k => nn.toNat - k.1) ⟨0, by simp⟩ ?_ ?_
  ·
   refine oK ?_
   simp (maxSteps := 2000000) only [go_sem]
   all_goals ((repeat' refine And.intro ?_ ?_) <;> first | rfl | exact True.intro | (congr 1; done) | (simp; done))
  rintro ⟨k, hk⟩ K5 hL5
  have hcl : (cutL xs k).length = k := cutL_len xs k
  have hcn : cutL xs (k + 1) = cutL xs k ++ [xs.getD k 0] := cutL_next xs k
  refine oS fun K6 hK6 => ?_
  refine oS fun K7 hK7 => ?_
  refine oW T_b10Lists_ok ?_
  simp only [go_sem]
  refine hK7 _ ?_
  refine oC rfl ?_ ?_
  ·
   intro c0
   refine AWP_skip ?_
   simp only [go_sem]
   refine hK6 _ ?_
   refine oS fun K8 hK8 => ?_
   refine AWP_block ?_
   refine oS fun K9 hK9 => ?_
   refine oW T_b10Lists_ok ?_
   simp only [go_sem]
   refine hK9 _ ?_
   refine oS fun K10 hK10 => ?_
   refine oS fun K11 hK11 => ?_
   refine oW T_b10Lists_ok ?_
   simp only [go_sem]
   refine hK11 _ ?_
   refine oC rfl ?_ ?_
   ·
    intro c1
    refine oW T_b10Lists_ok ?_
    simp (maxSteps := 2000000) only [go_sem]
    repeat (with_reducible refine oA ?_)
    refine hK10 _ ?_
    refine oW T_b10Lists_ok ?_
    simp (maxSteps := 2000000) only [go_sem]
    repeat (with_reducible refine oA ?_)
    refine hK8 _ ?_
    refine oW T_b10Lists_ok ?_
    simp only [go_sem]
    refine hL5 ⟨k + 1, by omega⟩ _ (oK ?_) ?_
    ·
     simp (maxSteps := 2000000) only [go_sem]
     all_goals ((repeat' refine And.intro ?_ ?_) <;> first | rfl | exact True.intro | exact wk (by omega) | (rw [wrapI (by omega)]; omega) | exact hcn.symm | (rw [hcn]; done) | (rw [hcn, hz]; done) | (congr 1; rw [hcn]; done))
    ·
     first | (simp only []; omega) | omega | (simp; omega)
   intro c1
   have hz : xs.getD k 0 = 0 := getD_out (by omega)
   refine AWP_skip ?_
   simp only [go_sem]
   refine hK10 _ ?_
   refine oW T_b10Lists_ok ?_
   simp (maxSteps := 2000000) only [go_sem]
   repeat (with_reducible refine oA ?_)
   refine hK8 _ ?_
   refine oW T_b10Lists_ok ?_
   simp only [go_sem]
   refine hL5 ⟨k + 1, by omega⟩ _ (oK ?_) ?_
   ·
    simp (maxSteps := 2000000) only [go_sem]
    all_goals ((repeat' refine And.intro ?_ ?_) <;> first | rfl | exact True.intro | exact wk (by omega) | (rw [wrapI (by omega)]; omega) | exact hcn.symm | (rw [hcn]; done) | (rw [hcn, hz]; done) | (congr 1; rw [hcn]; done))
   ·
    first | (simp only []; omega) | omega | (simp; omega)
  intro c0
  refine AWP_exit ?_
  simp only [go_sem]
  refine hK3 _ ?_
  refine oS fun K12 hK12 => ?_
  refine oW T_b10Lists_ok ?_
  simp only [go_sem]
  refine hK12 _ ?_
  refine AWP_ret ?_
  simp only [hres, go_sem]
  first
   | exact oF
   | refine ⟨?_, oF⟩
     have hk3 : k = nn.toNat := by omega
     clear hK1 hK2 hK3 hK4 hL5 hK6 hK7 hK12
     subst hk3
     rfl
def T_b10Cut : Tab := fun f => if f = 11 then some (.p K_b10Cut) else T_b10Lists f
theorem T_b10Cut_ok : TabOk Try.prog T_b10Cut := tabP b10Cut_ok (fnOk_of Try.func11 rfl (by decide)) T_b10Lists_ok
attribute [go_sem] T_b10Cut K_b10Cut

def K_implStart : GCon where
  ps := [.val ((.prod (.int .i64) (.prod (.row 26 (.row 2 (.int .i64))) (.prod (.row 83 (.prod (.int .i64) (.prod (.int .i64) (.prod (.int .i64) (.row 2 (.int .i64)))))) (.row 2 (.int .i64))))))]
  os := []
  c := fun _ => True
  r := fun x => .tup [.agg [.ow 10], .c (.sc (.int .i64 (startR x.1.1).2))]
  o := fun x => [(10, .tree 26 (.row 2 (.int .i64)) ((startR x.1.1).1) none)]
  ok := by
    rintro ⟨⟨⟨(pi : Int), (ts : List (List Int)), (ns : List NodeD), (os : List Int)⟩, _⟩, _⟩
    exact ⟨rfl, rfl, by decide⟩
theorem implStart_ok : GenT Try.prog 9 K_implStart := by
  refine gen_of_body Try.func9 rfl ?_
  have hres : Try.f9.results.toList = [.cell 2 35, .tmp 3] := rfl
  rintro ⟨⟨⟨(pi : Int), (ts : List (List Int)), (ns : List NodeD), (os : List Int)⟩, _⟩, _⟩ hc hL hO
  simp only [K_implStart, go_sem] at hL
  simp only [K_implStart, go_sem] at hO
  simp only [K_implStart, St.init, St.initG, Try.ntmps9, go_sem] 
  refine oS fun K1 hK1 => ?_
  refine oW T_b10Cut_ok ?_
  simp only [go_sem]
  refine hK1 _ ?_
  refine oS fun K2 hK2 => ?_
  refine oS fun K3 hK3 => ?_
  refine oW T_b10Cut_ok ?_
  simp only [go_sem]
  repeat (with_reducible refine oA ?_)
  refine hK3 _ ?_
  refine oC rfl ?_ ?_
  ·
   intro c0
   refine oS fun K4 hK4 => ?_
   refine oW T_b10Cut_ok ?_
   simp only [go_sem]
   repeat (with_reducible refine oA ?_)
   refine hK4 _ ?_
   refine AWP_wk (Wk_nilBox _ 132 0 9102 26 ((.row 2 (.int .i64))) (by decide)) ?_
   simp (maxSteps := 2000000) only [go_sem]
   refine AWP_ret ?_
   simp only [hres, go_sem]
   first
    | exact oG
    | refine ⟨oG, ?_⟩
      rw [startR_f c0]
      (repeat' refine And.intro ?_ ?_) <;> first | rfl | (congr 1; done)
  intro c0
  refine AWP_skip ?_
  simp only [go_sem]
  refine hK2 _ ?_
  refine oS fun K5 hK5 => ?_
  refine oW T_b10Cut_ok ?_
  simp only [go_sem]
  repeat (with_reducible first | refine oA ?_ | refine And.intro (by first | exact c0) ?_)
  refine hK5 _ ?_
  refine AWP_ret ?_
  simp only [hres, go_sem]
  first
   | exact oG
   | refine ⟨oG, ?_⟩
     rw [startR_t c0]
     (repeat' refine And.intro ?_ ?_) <;> first | rfl | (congr 1; done)
def T_implStart : Tab := fun f => if f = 9 then some (.g K_implStart) else T_b10Cut f
theorem T_implStart_ok : TabOk Try.prog T_implStart := tabG implStart_ok (fnOk_of Try.func9 rfl (by decide)) T_b10Cut_ok
attribute [go_sem] T_implStart K_implStart

def K_specVState : Con := ⟨[.val ((.prod (.int .i64) (.prod (.row 26 (.row 2 (.int .i64))) (.prod (.row 83 (.prod (.int .i64) (.prod (.int .i64) (.prod (.int .i64) (.row 2 (.int .i64)))))) (.row 2 (.int .i64)))))), .one (.row 26 (.row 2 (.int .i64)))], [⟨.bool, true⟩], fun _ => True, fun x => patchB x.1 && stateB x.1 x.2.1⟩
theorem specVState_ok : PureT Try.prog 13 K_specVState := by
  refine pure_of_body Try.func13 rfl ?_
  have hres : Try.f13.results.toList = [.tmp 4] := rfl
  rintro ⟨⟨(pi : Int), (ts : List (List Int)), (ns : List NodeD), (os : List Int)⟩, (cc : List (List Int)), _⟩ hc hL
  simp only [K_specVState, go_sem] at hL
  simp only [K_specVState, St.init, St.initG, Try.ntmps13, go_sem] 
  refine oS fun K1 hK1 => ?_
  refine oW T_implStart_ok ?_
  simp only [go_sem]
  refine hK1 _ ?_
  refine oS fun K2 hK2 => ?_
  refine oW T_implStart_ok ?_
  simp only [go_sem]
  repeat (with_reducible refine oA ?_)
  refine hK2 _ ?_
  refine AWP_ret ?_
  simp only [hres, go_sem]
  first | exact oF | exact oFr
def T_specVState : Tab := fun f => if f = 13 then some (.p K_specVState) else T_implStart f
theorem T_specVState_ok : TabOk Try.prog T_specVState := tabP specVState_ok (fnOk_of Try.func13 rfl (by decide)) T_implStart_ok
attribute [go_sem] T_specVState K_specVState

end Go.Proofs.Ytiafipboklboeaa
