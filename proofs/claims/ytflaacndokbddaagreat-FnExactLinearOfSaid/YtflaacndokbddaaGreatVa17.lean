/-
  Texts of this claim, joined (part 17). No condition beyond those of the theorems.
-/
import Derived.Test.YtflaacndokbddaaGreatVa16
import Derived.Test.YtflaacndokbddaaGreatVa11
namespace Go.Proofs.YtflaacndokbddaaGreat
open Go.RowKit
set_option linter.unusedSimpArgs false
set_option linter.unusedVariables false
set_option maxRecDepth 100000
set_option maxHeartbeats 4000000
def K_same : Con := ⟨[.val ((.row 2 (.int .i64))), .val ((.row 2 (.int .i64)))], [⟨.bool, true⟩], fun _ => True, fun x => eqD (x.1 : List Int) (x.2.1 : List Int)⟩
theorem same_ok : PureT Tryz.prog 110 K_same := by
  refine pure_of_body Tryz.func110 rfl ?_
  have hres : Tryz.f110.results.toList = [.tmp 4] := rfl
  rintro ⟨(xs : List Int), (ys : List Int), _⟩ hc hL
  simp only [K_same, go_sem] at hL
  obtain ⟨lxs, lys⟩ := hL
  simp only [K_same, St.init, St.initG, Tryz.ntmps110, go_sem] 
  refine oS fun K1 hK1 => ?_
  refine oW T_l07Map_ok ?_
  simp only [go_sem]
  refine hK1 _ ?_
  refine oS fun K2 hK2 => ?_
  refine oS fun K3 hK3 => ?_
  refine oW T_l07Map_ok ?_
  simp (maxSteps := 2000000) only [go_sem]
  refine hK3 _ ?_
  refine oC rfl ?_ ?_
  ·
   intro c0
   refine oS fun K4 hK4 => ?_
   refine oW T_l07Map_ok ?_
   simp only [go_sem]
   refine hK4 _ ?_
   refine AWP_ret ?_
   simp only [hres, go_sem]
   first | exact oF | (refine ⟨?_, oF⟩; exact (eq_len (by omega)).symm)
  intro c0
  refine AWP_skip ?_
  simp only [go_sem]
  refine hK2 _ ?_
  refine oS fun K5 hK5 => ?_
  refine oS fun K6 hK6 => ?_
  refine oW T_l07Map_ok ?_
  simp only [go_sem]
  refine hK6 _ ?_
  refine AWP_block ?_
  refine AWP_loop_k (ι := { k : Nat // k ≤ xs.length ∧ xs.take k = ys.take k }) (fun k => ⟨[zz, .c (.rd [] 2 (.int .i64) (ys)), zz, zz, zz, zz, zz, zz, zz, zz, zz, zz, .c (.rd [] 2 (.int .i64) (xs)), .c (.sc (.int .i64 (xs.length))), .c (.sc (.int .i64 (k.1))), zz, zz, zz, zz, zz, zz, zz, zz, zz, zz, zz], []⟩) (fun k => xs.length - k.1) ⟨0, by simp, by simp⟩ ?_ ?_
  ·
   refine oK ?_
   simp (maxSteps := 2000000) only [go_sem]
   all_goals (first | rfl | ((repeat' refine And.intro ?_ ?_) <;> first | rfl | simp))
  rintro ⟨k, hk, hp⟩ K7 hL7
  refine oS fun K8 hK8 => ?_
  refine oW T_l07Map_ok ?_
  simp only [go_sem]
  refine hK8 _ ?_
  refine oS fun K9 hK9 => ?_
  refine oC rfl ?_ ?_
  ·
   intro c1
   refine AWP_skip ?_
   simp only [go_sem]
   refine hK9 _ ?_
   refine oS fun K10 hK10 => ?_
   refine AWP_block ?_
   refine oS fun K11 hK11 => ?_
   refine oW T_l07Map_ok ?_
   simp (maxSteps := 2000000) only [go_sem]
   repeat (with_reducible refine oA ?_)
   refine hK11 _ ?_
   refine oS fun K12 hK12 => ?_
   refine oW T_l07Map_ok ?_
   simp (maxSteps := 2000000) only [go_sem]
   repeat (with_reducible refine oA ?_)
   refine hK12 _ ?_
   refine oC rfl ?_ ?_
   ·
    intro c2
    refine oS fun K13 hK13 => ?_
    refine oW T_l07Map_ok ?_
    simp only [go_sem]
    refine hK13 _ ?_
    refine AWP_ret ?_
    simp only [hres, go_sem]
    first | exact oF | (refine ⟨?_, oF⟩; exact (eq_stop (0 : Int) (m := k) (decide_eq_false (by assumption))).symm)
   intro c2
   refine AWP_skip ?_
   simp only [go_sem]
   refine hK10 _ ?_
   refine oW T_l07Map_ok ?_
   simp only [go_sem]
   refine hL7 ⟨k + 1, by omega, eq_next (d := (0 : Int)) (by omega) (by omega) hp (decide_eq_true (by assumption))⟩ _ (oK ?_) ?_
   ·
    simp (maxSteps := 2000000) only [go_sem]
    all_goals (first | rfl | ((repeat' refine And.intro ?_ ?_) <;> first | rfl | exact wk (by omega) | simp))
   ·
    first | (simp only []; omega) | omega | (simp; omega)
  intro c1
  refine AWP_exit ?_
  simp only [go_sem]
  refine hK5 _ ?_
  refine oS fun K14 hK14 => ?_
  refine oW T_l07Map_ok ?_
  simp only [go_sem]
  refine hK14 _ ?_
  refine AWP_ret ?_
  simp only [hres, go_sem]
  first | exact oF | (refine ⟨?_, oF⟩; exact (eq_done (m := k) (by omega) (by omega) hp).symm)
def T_same : Tab := fun f => if f = 110 then some (.p K_same) else T_l07Map f
theorem T_same_ok : TabOk Tryz.prog T_same := tabP same_ok (fnOk_of Tryz.func110 rfl (by decide)) T_l07Map_ok
attribute [go_sem] T_same K_same
def K_l00Same : Con := ⟨[.val ((.row 2 (.int .i64))), .val ((.row 2 (.int .i64)))], [⟨.bool, true⟩], fun _ => True, fun x => eqD (x.1 : List Int) (x.2.1 : List Int)⟩
theorem l00Same_ok : PureT Tryz.prog 160 K_l00Same := by
  refine pure_of_body Tryz.func160 rfl ?_
  have hres : Tryz.f160.results.toList = [.tmp 4] := rfl
  rintro ⟨(xs : List Int), (ys : List Int), _⟩ hc hL
  simp only [K_l00Same, go_sem] at hL
  obtain ⟨lxs, lys⟩ := hL
  simp only [K_l00Same, St.init, St.initG, Tryz.ntmps160, go_sem] 
  refine oS fun K1 hK1 => ?_
  refine oW T_same_ok ?_
  simp only [go_sem]
  refine hK1 _ ?_
  refine oS fun K2 hK2 => ?_
  refine oS fun K3 hK3 => ?_
  refine oW T_same_ok ?_
  simp (maxSteps := 2000000) only [go_sem]
  refine hK3 _ ?_
  refine oC rfl ?_ ?_
  ·
   intro c0
   refine oS fun K4 hK4 => ?_
   refine oW T_same_ok ?_
   simp only [go_sem]
   refine hK4 _ ?_
   refine AWP_ret ?_
   simp only [hres, go_sem]
   first | exact oF | (refine ⟨?_, oF⟩; exact (eq_len (by omega)).symm)
  intro c0
  refine AWP_skip ?_
  simp only [go_sem]
  refine hK2 _ ?_
  refine oS fun K5 hK5 => ?_
  refine oS fun K6 hK6 => ?_
  refine oW T_same_ok ?_
  simp only [go_sem]
  refine hK6 _ ?_
  refine AWP_block ?_
  refine AWP_loop_k (ι := { k : Nat // k ≤ xs.length ∧ xs.take k = ys.take k }) (fun k => ⟨[.c (.rd [] 2 (.int .i64) (xs)), .c (.rd [] 2 (.int .i64) (ys)), zz, zz, zz, .c (.sc (.int .i64 (k.1))), zz, zz, zz, zz, zz, zz, zz, zz, zz, zz, zz, zz, zz, zz, zz, zz, zz, zz, zz, zz], []⟩) (fun k => xs.length - k.1) ⟨0, by simp, by simp⟩ ?_ ?_
  ·
   refine oK ?_
   simp (maxSteps := 2000000) only [go_sem]
   all_goals (first | rfl | ((repeat' refine And.intro ?_ ?_) <;> first | rfl | simp))
  rintro ⟨k, hk, hp⟩ K7 hL7
  refine oS fun K8 hK8 => ?_
  refine oS fun K9 hK9 => ?_
  refine oW T_same_ok ?_
  simp only [go_sem]
  refine hK9 _ ?_
  refine oC rfl ?_ ?_
  ·
   intro c1
   refine AWP_skip ?_
   simp only [go_sem]
   refine hK8 _ ?_
   refine oS fun K10 hK10 => ?_
   refine AWP_block ?_
   refine oS fun K11 hK11 => ?_
   refine oR T_same_ok
     [[], [], [0, 1], [0, 1, 2], [], [], [4, 5], [4, 5, 6], [0, 1, 2, 3, 4, 5, 6, 7]]
     [[], [], [], [], [], [], [], [], []]
     [[], [], [], [], [], [], [], [], []] (by kernel_rfl) (by kernel_rfl) (adrawR_ok (acc := []) ?_)
   simp (maxSteps := 2000000) only [go_sem]
   repeat (with_reducible refine oD ?_)
   refine hK11 _ ?_
   refine oC rfl ?_ ?_
   ·
    intro c2
    refine oS fun K12 hK12 => ?_
    refine oW T_same_ok ?_
    simp only [go_sem]
    refine hK12 _ ?_
    refine AWP_ret ?_
    simp only [hres, go_sem]
    first | exact oF | (refine ⟨?_, oF⟩; exact (eq_stop (0 : Int) (m := k) (decide_eq_false (by assumption))).symm)
   intro c2
   refine AWP_skip ?_
   simp only [go_sem]
   refine hK10 _ ?_
   refine oW T_same_ok ?_
   simp only [go_sem]
   refine hL7 ⟨k + 1, by omega, eq_next (d := (0 : Int)) (by omega) (by omega) hp (decide_eq_true (by assumption))⟩ _ (oK ?_) ?_
   ·
    simp (maxSteps := 2000000) only [go_sem]
    all_goals (first | rfl | ((repeat' refine And.intro ?_ ?_) <;> first | rfl | exact wk (by omega) | simp))
   ·
    first | (simp only []; omega) | omega | (simp; omega)
  intro c1
  refine AWP_exit ?_
  simp only [go_sem]
  refine hK5 _ ?_
  refine oS fun K13 hK13 => ?_
  refine oW T_same_ok ?_
  simp only [go_sem]
  refine hK13 _ ?_
  refine AWP_ret ?_
  simp only [hres, go_sem]
  first | exact oF | (refine ⟨?_, oF⟩; exact (eq_done (m := k) (by omega) (by omega) hp).symm)
def T_l00Same : Tab := fun f => if f = 160 then some (.p K_l00Same) else T_same f
theorem T_l00Same_ok : TabOk Tryz.prog T_l00Same := tabP l00Same_ok (fnOk_of Tryz.func160 rfl (by decide)) T_same_ok
attribute [go_sem] T_l00Same K_l00Same
def K_sameKind : Con := ⟨[.val ((.prod (.row 26 (.row 2 (.int .i64))) (.prod (.row 90 (.prod (.int .i64) (.prod (.int .i64) (.prod (.int .i64) (.row 2 (.int .i64)))))) (.row 2 (.int .i64))))), .val ((.prod (.int .i64) (.prod (.int .i64) (.prod (.int .i64) (.row 2 (.int .i64)))))), .val ((.prod (.int .i64) (.prod (.int .i64) (.prod (.int .i64) (.row 2 (.int .i64))))))], [⟨.bool, true⟩], fun x => tabIx x.1.1 x.2.1 ∧ tabIx x.1.1 x.2.2.1, fun x => keyB x.1.1 x.2.1 x.2.2.1⟩
theorem sameKind_ok : PureT Tryz.prog 108 K_sameKind := by
  refine pure_of_body Tryz.func108 rfl ?_
  have hres : Tryz.f108.results.toList = [.tmp 6] := rfl
  rintro ⟨⟨(ts : List (List Int)), (ns : List NodeD), (os : List Int)⟩, ⟨(kd : Int), (a : Int), (bb : Int), (fr : List Int)⟩, ⟨(kd2 : Int), (a2 : Int), (bb2 : Int), (fr2 : List Int)⟩, _⟩ hc hL
  simp only [K_sameKind, go_sem] at hL
  simp only [K_sameKind, St.init, St.initG, Tryz.ntmps108, go_sem] 
  obtain ⟨h1, h2⟩ := (show tabIx ts (kd, a, bb, fr) ∧ tabIx ts (kd2, a2, bb2, fr2) from hc)
  have h1 : kd = 13 → 0 ≤ a ∧ a < ts.length := h1
  have h2 : kd2 = 13 → 0 ≤ a2 ∧ a2 < ts.length := h2
  refine oS fun K1 hK1 => ?_
  refine oW T_l00Same_ok ?_
  simp only [go_sem]
  refine hK1 _ ?_
  refine oS fun K2 hK2 => ?_
  refine oS fun K3 hK3 => ?_
  refine oW T_l00Same_ok ?_
  simp (maxSteps := 2000000) only [go_sem]
  repeat' (with_reducible first | refine oA ?_ | refine oT (fun g1 => ?_) (fun g1 => ?_) | refine oE (fun g1 => ?_) (fun g1 => ?_))
  all_goals
   refine hK3 _ ?_
   refine AWP_cond rfl ?_ ?_
   ·
    intro c0
    try simp only [zA, zB, zC, zD, zE, zF, zG, zH, zI] at c0
    all_goals
     refine oS fun K4 hK4 => ?_
     refine oW T_l00Same_ok ?_
     simp only [go_sem]
     refine hK4 _ ?_
     refine AWP_ret ?_
     simp only [hres, go_sem]
     first | exact oF | (refine ⟨?_, oF⟩; first | exact (keyB_f1 (a := (kd, a, bb, fr)) (b := (kd2, a2, bb2, fr2)) (show ¬ kd = kd2 by assumption)).symm | exact (keyB_f2 (a := (kd, a, bb, fr)) (b := (kd2, a2, bb2, fr2)) (show ¬ bb = bb2 by assumption)).symm)
   ·
    intro c0
    try simp only [zA, zB, zC, zD, zE, zF, zG, zH, zI] at c0
    all_goals
     refine AWP_skip ?_
     simp only [go_sem]
     refine hK2 _ ?_
     refine oS fun K5 hK5 => ?_
     refine oS fun K6 hK6 => ?_
     refine oW T_l00Same_ok ?_
     simp only [go_sem]
     repeat (with_reducible refine oA ?_)
     refine hK6 _ ?_
     refine AWP_cond rfl ?_ ?_
     ·
      intro c1
      try simp only [zA, zB, zC, zD, zE, zF, zG, zH, zI] at c1
      all_goals
       refine oS fun K7 hK7 => ?_
       have h3 := h1 (by assumption)
       have e1 : kd = kd2 := by assumption
       have h4 := h2 (by omega)
       refine oR T_l00Same_ok
         [[], [0], [], [2], [0, 1, 2, 3], [0, 1, 2, 3, 4], [], [6], [], [8], [6, 7, 8, 9], [6, 7, 8, 9, 10], [0, 1, 2, 3, 4, 5, 6, 7, 8, 9, 10, 11], [0, 1, 2, 3, 4, 5, 6, 7, 8, 9, 10, 11, 12]]
         [[], [], [], [], [], [], [], [], [], [], [], [], [], []]
         [[], [], [], [], [], [], [], [], [], [], [], [], [], []] (by kernel_rfl) (by kernel_rfl) (adrawR_ok (acc := []) ?_)
       simp (maxSteps := 2000000) only [go_sem]
       repeat (with_reducible first | refine oD ?_ | refine And.intro (by first | exact ⟨by omega, by omega⟩) ?_)
       refine hK7 _ ?_
       refine AWP_ret ?_
       simp only [hres, go_sem]
       first | exact oF | (refine ⟨?_, oF⟩; exact (keyB_tab (a := (kd, a, bb, fr)) (b := (kd2, a2, bb2, fr2)) (show kd = kd2 by assumption) (show bb = bb2 by assumption) (show kd = 13 by assumption)).symm)
     ·
      intro c1
      try simp only [zA, zB, zC, zD, zE, zF, zG, zH, zI] at c1
      all_goals
       refine AWP_skip ?_
       simp only [go_sem]
       refine hK5 _ ?_
       refine oS fun K8 hK8 => ?_
       refine oW T_l00Same_ok ?_
       simp (maxSteps := 2000000) only [go_sem]
       repeat (with_reducible refine oA ?_)
       refine hK8 _ ?_
       refine AWP_ret ?_
       simp only [hres, go_sem]
       first | exact oF | (refine ⟨?_, oF⟩; exact (keyB_A (a := (kd, a, bb, fr)) (b := (kd2, a2, bb2, fr2)) (show kd = kd2 by assumption) (show bb = bb2 by assumption) (show ¬ kd = 13 by assumption)).symm)
def T_sameKind : Tab := fun f => if f = 108 then some (.p K_sameKind) else T_l00Same f
theorem T_sameKind_ok : TabOk Tryz.prog T_sameKind := tabP sameKind_ok (fnOk_of Tryz.func108 rfl (by decide)) T_l00Same_ok
attribute [go_sem] T_sameKind K_sameKind
def K_isNaN : Con := ⟨[.val (.int .i64)], [⟨.bool, true⟩], fun _ => True, fun _ => false⟩
theorem isNaN_ok : PureT Tryz.prog 243 K_isNaN := by
  refine pure_of_body Tryz.func243 rfl ?_
  have hres : Tryz.f243.results.toList = [.tmp 2] := rfl
  rintro ⟨(x : Int), _⟩ hc hL
  simp only [K_isNaN, go_sem] at hL
  simp only [K_isNaN, St.init, St.initG, Tryz.ntmps243, go_sem] 
  refine oS fun K1 hK1 => ?_
  refine oW T_sameKind_ok ?_
  simp only [go_sem]
  refine hK1 _ ?_
  refine oS fun K2 hK2 => ?_
  refine oW T_sameKind_ok ?_
  simp only [go_sem]
  refine hK2 _ ?_
  refine AWP_ret ?_
  simp only [hres, go_sem]
  first | exact oF | (refine ⟨?_, oF⟩; first | rfl | simp)
def T_isNaN : Tab := fun f => if f = 243 then some (.p K_isNaN) else T_sameKind f
theorem T_isNaN_ok : TabOk Tryz.prog T_isNaN := tabP isNaN_ok (fnOk_of Tryz.func243 rfl (by decide)) T_sameKind_ok
attribute [go_sem] T_isNaN K_isNaN
def K_cmpLess : Con := ⟨[.val (.int .i64), .val (.int .i64)], [⟨.bool, true⟩], fun _ => True, fun x => decide (x.1 < x.2.1)⟩
theorem cmpLess_ok : PureT Tryz.prog 230 K_cmpLess := by
  refine pure_of_body Tryz.func230 rfl ?_
  have hres : Tryz.f230.results.toList = [.tmp 4] := rfl
  rintro ⟨(x : Int), (y : Int), _⟩ hc hL
  simp only [K_cmpLess, go_sem] at hL
  simp only [K_cmpLess, St.init, St.initG, Tryz.ntmps230, go_sem] 
  refine oS fun K1 hK1 => ?_
  refine oW T_isNaN_ok ?_
  simp only [go_sem]
  refine hK1 _ ?_
  refine oS fun K2 hK2 => ?_
  refine oW T_isNaN_ok ?_
  simp (maxSteps := 2000000) only [go_sem]
  repeat' (with_reducible first | refine oA ?_ | refine oT (fun g1 => ?_) (fun g1 => ?_) | refine oE (fun g1 => ?_) (fun g1 => ?_))
  all_goals
   refine hK2 _ ?_
   refine AWP_ret ?_
   simp only [hres, go_sem]
   first | exact oF | (refine ⟨?_, oF⟩; first | rfl | simp)
def T_cmpLess : Tab := fun f => if f = 230 then some (.p K_cmpLess) else T_isNaN f
theorem T_cmpLess_ok : TabOk Tryz.prog T_cmpLess := tabP cmpLess_ok (fnOk_of Tryz.func230 rfl (by decide)) T_isNaN_ok
attribute [go_sem] T_cmpLess K_cmpLess
def K_insSort : GCon where
  ps := [.ow 0, .val (.int .i64), .val (.int .i64)]
  os := [.row 2 (.int .i64)]
  c := fun x => x.1.2.1 = 0 ∧ x.1.2.2.1 = (x.2.1.length : Int) ∧ x.2.1.length ≤ 12
  r := fun _ => .tup []
  o := fun x => [(30, .row 2 (.int .i64) (insI x.2.1 (List.length x.2.1 - 1)) [])]
  ok := by
    rintro ⟨⟨_, (aa : Int), (be : Int), _⟩, ⟨(xs : List Int), _⟩⟩
    exact ⟨rfl, rfl, by decide⟩
theorem insSort_ok : GenT Tryz.prog 224 K_insSort := by
  refine gen_of_body Tryz.func224 rfl ?_
  have hres : Tryz.f224.results.toList = [] := rfl
  rintro ⟨⟨_, (aa : Int), (be : Int), _⟩, ⟨(xs : List Int), _⟩⟩ hc hL hO
  simp only [K_insSort, go_sem] at hL
  simp only [K_insSort, go_sem] at hO
  simp only [K_insSort, St.init, St.initG, Tryz.ntmps224, go_sem] 
  obtain ⟨h1, h2, h3⟩ := (show aa = 0 ∧ be = (xs.length : Int) ∧ xs.length ≤ 12 from hc)
  subst h1 h2
  refine oS fun K1 hK1 => ?_
  refine oW T_cmpLess_ok ?_
  simp only [go_sem]
  refine hK1 _ ?_
  refine AWP_block ?_
  refine AWP_loop_k (ι := { k : Nat // k ≤ xs.length - 1 }) (fun k => ⟨[.c (.ow 30), .c (.sc (.int .i64 (0))), .c (.sc (.int .i64 (xs.length))), zz, zz, zz, .c (.sc (.int .i64 (((k.1 + 1 : Nat) : Int)))), zz, zz, zz, zz, zz, zz, zz, zz, zz, zz, zz, zz, zz, zz, zz, zz, zz, zz, zz, zz, zz, zz, zz, zz, zz, zz, zz, zz, zz, zz, zz, zz, zz, zz, zz, zz, zz, zz, zz, zz, zz, zz], [(30, .row 2 (.int .i64) (insI xs k.1) [])]⟩) (fun k => xs.length - k.1) ⟨0, by simp⟩ ?_ ?_
  ·
   refine oK ?_
   simp (maxSteps := 2000000) only [go_sem]
   all_goals ((repeat' refine And.intro ?_ ?_) <;> first | rfl | decide | simp)
  rintro ⟨k, hk⟩ K2 hL2
  have hil := insI_len xs k
  refine oS fun K3 hK3 => ?_
  refine oS fun K4 hK4 => ?_
  refine oW T_cmpLess_ok ?_
  simp only [go_sem]
  refine hK4 _ ?_
  refine oC rfl ?_ ?_
  ·
   intro c0
   refine AWP_skip ?_
   simp only [go_sem]
   refine hK3 _ ?_
   refine oS fun K5 hK5 => ?_
   refine AWP_block ?_
   refine oS fun K6 hK6 => ?_
   refine oW T_cmpLess_ok ?_
   simp only [go_sem]
   refine hK6 _ ?_
   refine AWP_block ?_
   refine AWP_loop_k (ι := { s : Nat × List Int // s.1 ≤ k + 1 ∧ s.2.length = xs.length ∧ bub s.2 s.1 = bub (insI xs k) (k + 1) }) (fun k' => ⟨[.c (.ow 30), .c (.sc (.int .i64 (0))), .c (.sc (.int .i64 (xs.length))), zz, zz, zz, .c (.sc (.int .i64 (((k + 1 : Nat) : Int)))), .c (.sc (.int .i64 ((k'.1.1 : Int)))), zz, zz, zz, zz, zz, zz, zz, zz, zz, zz, zz, zz, zz, zz, zz, zz, zz, zz, zz, zz, zz, zz, zz, zz, zz, zz, zz, zz, zz, zz, zz, zz, zz, zz, zz, zz, zz, zz, zz, zz, zz], [(30, .row 2 (.int .i64) (k'.1.2) [])]⟩) (fun k' => k'.1.1) ⟨(k + 1, insI xs k), by simp, insI_len xs k, rfl⟩ ?_ ?_
   ·
    refine oK ?_
    simp (maxSteps := 2000000) only [go_sem]
    all_goals ((repeat' refine And.intro ?_ ?_) <;> first | rfl | simp)
   rintro ⟨⟨j, l⟩, hj, hl, hb⟩ K7 hL7
   have hj : j ≤ k + 1 := hj
   have hl : l.length = xs.length := hl
   have hb : bub l j = bub (insI xs k) (k + 1) := hb
   have hw1 : 0 < j → IntKind.i64.wrap ((j : Int) - 1) = ((j - 1 : Nat) : Int) := fun h => by rw [wrapI (by omega)]; omega
   obtain ⟨j1, hj1⟩ : ∃ j1 : Nat, j1 = j - 1 := ⟨_, rfl⟩
   refine oS fun K8 hK8 => ?_
   refine oS fun K9 hK9 => ?_
   refine oR T_cmpLess_ok
     [[], [], [0, 1], [0, 1, 2], [0, 1, 2, 3], [0, 1, 2, 3], [0, 1, 2, 3, 4, 5], [0, 1, 2, 3, 4, 5, 6], [0, 1, 2, 3], [0, 1, 2, 3], [0, 1, 2, 3, 9], [0, 1, 2, 3, 8, 9, 10], [0, 1, 2, 3, 8, 9, 10, 11], [0, 1, 2, 3, 4, 5, 6, 7, 8, 9, 10, 11, 12], [0, 1, 2, 3, 4, 5, 6, 7, 8, 9, 10, 11, 12, 13]]
     [[], [], [], [], [], [], [], [], [], [], [], [], [], [], []]
     [[], [], [], [], [], [], [], [], [], [], [], [], [], [], []] (by kernel_rfl) (by kernel_rfl) (adrawR_ok (acc := []) ?_)
   simp (maxSteps := 2000000) only [go_sem]
   repeat' (with_reducible first | refine oD ?_ | refine And.intro (by first | exact ⟨by omega, by omega⟩ | (rw [wrapI (by omega)]; exact ⟨by omega, by omega⟩) | (rw [wrapI (by omega)]; omega)) ?_ | refine oT (fun g4 => ?_) (fun g4 => ?_) | refine oE (fun g4 => ?_) (fun g4 => ?_))
   all_goals
    refine hK9 _ ?_
    refine AWP_cond rfl ?_ ?_
    ·
     intro c1
     try simp only [zA, zB, zC, zD, zE, zF, zG, zH, zI] at c1
     all_goals
      have hjp : 0 < j := by omega
      have hwj0 := hw1 hjp
      have hwj : IntKind.i64.wrap ((j : Int) - 1) = (j1 : Int) := by rw [hwj0, hj1]
      have hjj : j = j1 + 1 := by omega
      have hlt : l.getD (j1 + 1) 0 < l.getD j1 0 := by
        have hc9 := c1
        rw [hwj] at hc9
        simp only [Int.toNat_natCast] at hc9
        rw [← hjj]; exact hc9
      have hnb : bub ((l.set j (l.getD j1 0)).set j1 (l.getD j 0)) j1 = bub (insI xs k) (k + 1) := by rw [← hb, hjj, bub_t hlt]
      refine AWP_skip ?_
      simp only [go_sem]
      refine hK8 _ ?_
      refine oS fun K10 hK10 => ?_
      refine AWP_block ?_
      refine oR T_cmpLess_ok
        [[], [], [], [], [3], [], [], [6], [5, 6, 7], [5, 6, 7, 8], [], [], [10, 11], [10, 11, 12], [0, 1, 5, 6, 7, 8, 9, 10, 11, 12, 13], [0, 1, 5, 6, 7, 8, 9, 10, 11, 12, 13, 14], [0, 1, 2, 3, 4, 5, 6, 7, 8, 9, 10, 11, 12, 13, 14, 15], [0, 1, 2, 3, 4, 5, 6, 7, 8, 9, 10, 11, 12, 13, 14, 15, 16]]
        [[], [], [1000030], [1000030], [1000030], [], [], [], [], [], [], [], [], [], [], [], [], []]
        [[], [], [], [], [], [], [], [], [], [], [], [], [], [], [], [1000030], [], []] (by kernel_rfl) (by kernel_rfl) (adrawR_ok (acc := []) ?_)
      simp (maxSteps := 2000000) only [List.nodup_nil, hwj, List.length_set, go_sem]
      repeat (with_reducible first | refine oD ?_ | refine And.intro (by first | exact ⟨by omega, by omega⟩ | omega) ?_)
      refine hK10 _ ?_
      refine oW T_cmpLess_ok ?_
      simp only [go_sem]
      refine hL7 ⟨(j1, (l.set j (l.getD j1 0)).set j1 (l.getD j 0)), by show j1 ≤ _; omega, by simp [hl], hnb⟩ _ (oK ?_) ?_
      ·
       simp (maxSteps := 2000000) only [go_sem]
       all_goals ((repeat' refine And.intro ?_ ?_) <;> first | rfl | (rw [hwj]; simp) | (rw [hwj]) | exact hwj | (simp; done))
      ·
       first | (simp only []; omega) | omega | (simp; omega)
    ·
     intro c1
     try simp only [zA, zB, zC, zD, zE, zF, zG, zH, zI] at c1
     all_goals
      have hfin : l = insI xs (k + 1) := by
        show l = bub (insI xs k) (k + 1)
        rw [← hb]
        cases j with
        | zero => rfl
        | succ q =>
          have hwj := hw1 (by omega)
          rw [bub_f]
          intro hlt
          have hwj : IntKind.i64.wrap (((q + 1 : Nat) : Int) - 1) = (q : Int) := hwj
          first | (exfalso; omega) | (have hc9 := c1; rw [hwj] at hc9; simp only [Int.toNat_natCast] at hc9; exact absurd hlt (by omega))
      refine AWP_exit ?_
      simp only [go_sem]
      refine hK5 _ ?_
      refine oW T_cmpLess_ok ?_
      simp only [go_sem]
      refine hL2 ⟨k + 1, by omega⟩ _ (oK ?_) ?_
      ·
       simp (maxSteps := 2000000) only [go_sem]
       all_goals ((repeat' refine And.intro ?_ ?_) <;> first | rfl | exact wk (by omega) | exact hfin)
      ·
       first | (simp only []; omega) | omega | (simp; omega)
  intro c0
  have hkl : k = xs.length - 1 := by omega
  refine AWP_exit ?_
  simp only [go_sem]
  simp (maxSteps := 2000000) only [hres, go_sem]
  first
   | exact oG
   | refine ⟨oG, ?_⟩
     have hk3 : k = xs.length - 1 := by omega
     (repeat' refine And.intro ?_ ?_) <;> first | rfl | (rw [hk3]; done) | (rw [hk3]; rfl)
def T_insSort : Tab := fun f => if f = 224 then some (.g K_insSort) else T_cmpLess f
theorem T_insSort_ok : TabOk Tryz.prog T_insSort := tabG insSort_ok (fnOk_of Tryz.func224 rfl (by decide)) T_cmpLess_ok
attribute [go_sem] T_insSort K_insSort
def K_pdq : GCon where
  ps := [.ow 0, .val (.int .i64), .val (.int .i64), .val (.int .i64)]
  os := [.row 2 (.int .i64)]
  c := fun x => x.1.2.1 = 0 ∧ x.1.2.2.1 = (x.2.1.length : Int) ∧ x.2.1.length ≤ 12
  r := fun _ => .tup []
  o := fun x => [(30, .row 2 (.int .i64) (insI x.2.1 (List.length x.2.1 - 1)) [])]
  ok := by
    rintro ⟨⟨_, (aa : Int), (be : Int), (lm : Int), _⟩, ⟨(xs : List Int), _⟩⟩
    exact ⟨rfl, rfl, by decide⟩
theorem pdq_ok : GenT Tryz.prog 213 K_pdq := by
  refine gen_of_body Tryz.func213 rfl ?_
  have hres : Tryz.f213.results.toList = [] := rfl
  rintro ⟨⟨_, (aa : Int), (be : Int), (lm : Int), _⟩, ⟨(xs : List Int), _⟩⟩ hc hL hO
  simp only [K_pdq, go_sem] at hL
  simp only [K_pdq, go_sem] at hO
  simp only [K_pdq, St.init, St.initG, Tryz.ntmps213, go_sem] 
  obtain ⟨h1, h2, h3⟩ := (show aa = 0 ∧ be = (xs.length : Int) ∧ xs.length ≤ 12 from hc)
  subst h1 h2
  have hw : IntKind.i64.wrap ((xs.length : Int) - 0) = xs.length := wrapI (by omega)
  refine oS fun K1 hK1 => ?_
  refine oW T_insSort_ok ?_
  simp only [go_sem]
  refine hK1 _ ?_
  refine oS fun K2 hK2 => ?_
  refine oW T_insSort_ok ?_
  simp only [go_sem]
  refine hK2 _ ?_
  refine AWP_block ?_
  refine AWP_loop_k (ι := { k : Nat // k = 0 }) (fun k => ⟨[.c (.ow 30), .c (.sc (.int .i64 (0))), .c (.sc (.int .i64 (xs.length))), .c (.sc (.int .i64 (lm))), zz, zz, zz, zz, .c (.sc (.bool (true))), .c (.sc (.bool (true))), zz, zz, zz, zz, zz, zz, zz, zz, zz, zz, zz, zz, zz, zz, zz, zz, zz, zz, zz, zz, zz, zz, zz, zz, zz, zz, zz, zz, zz, zz, zz, zz, zz, zz, zz, zz, zz, zz, zz, zz, zz, zz, zz, zz, zz, zz, zz, zz, zz, zz, zz, zz, zz, zz, zz, zz, zz, zz, zz, zz, zz, zz, zz, zz, zz, zz, zz, zz, zz, zz, zz, zz, zz, zz, zz, zz, zz, zz, zz, zz, zz, zz, zz, zz, zz, zz, zz, zz, zz, zz, zz, zz, zz, zz, zz, zz, zz, zz, zz, zz, zz, zz, zz, zz, zz, zz, zz, zz, zz, zz, zz, zz, zz, zz, zz, zz, zz, zz, zz, zz, zz, zz, zz, zz], [(30, .row 2 (.int .i64) (xs) [])]⟩) (fun k => k.1) ⟨0, rfl⟩ ?_ ?_
  ·
   refine oK ?_
   simp (maxSteps := 2000000) only [go_sem]
   all_goals ((repeat' refine And.intro ?_ ?_) <;> first | rfl | simp)
  rintro ⟨k, hk⟩ K3 hL3
  refine AWP_block ?_
  refine oS fun K4 hK4 => ?_
  refine oW T_insSort_ok ?_
  simp only [hw, go_sem]
  refine hK4 _ ?_
  refine oS fun K5 hK5 => ?_
  refine oS fun K6 hK6 => ?_
  refine oW T_insSort_ok ?_
  simp only [go_sem]
  refine hK6 _ ?_
  refine oC rfl ?_ ?_
  ·
   intro c0
   refine oS fun K7 hK7 => ?_
   refine oW T_insSort_ok ?_
   simp only [go_sem]
   repeat (with_reducible first | refine oA ?_ | refine And.intro (by first | exact ⟨rfl, rfl, h3⟩) ?_)
   refine hK7 _ ?_
   refine AWP_ret ?_
   simp only [hres, go_sem]
   first | exact oG | (refine ⟨oG, ?_⟩; (repeat' refine And.intro ?_ ?_) <;> first | rfl)
  intro c0
  exfalso
  omega
def T_pdq : Tab := fun f => if f = 213 then some (.g K_pdq) else T_insSort f
theorem T_pdq_ok : TabOk Tryz.prog T_pdq := tabG pdq_ok (fnOk_of Tryz.func213 rfl (by decide)) T_insSort_ok
attribute [go_sem] T_pdq K_pdq
def K_len64 : Con := ⟨[.val (.int .u64)], [⟨.int .i64, true⟩], fun x => inR x.1 0 2 = true, fun x => x.1⟩
theorem len64_ok : PureT Tryz.prog 234 K_len64 := by
  refine pure_of_body Tryz.func234 rfl ?_
  have hres : Tryz.f234.results.toList = [.tmp 2] := rfl
  rintro ⟨(x : Int), _⟩ hc hL
  simp only [K_len64, go_sem] at hL
  simp only [K_len64, St.init, St.initG, Tryz.ntmps234, go_sem] 
  obtain ⟨h1, h2⟩ := inR_iff.1 (show inR x 0 2 = true from hc)
  have hw8 : IntKind.u8.wrap x = x := by rcases (by omega : x = 0 ∨ x = 1 ∨ x = 2) with rfl | rfl | rfl <;> rfl
  refine oS fun K1 hK1 => ?_
  refine oW T_pdq_ok ?_
  simp only [go_sem]
  refine hK1 _ ?_
  refine oS fun K2 hK2 => ?_
  refine oS fun K3 hK3 => ?_
  refine oW T_pdq_ok ?_
  simp only [go_sem]
  refine hK3 _ ?_
  refine oC rfl ?_ ?_
  ·
   intro c0
   exfalso
   omega
  intro c0
  refine AWP_skip ?_
  simp only [go_sem]
  refine hK2 _ ?_
  refine oS fun K4 hK4 => ?_
  refine oS fun K5 hK5 => ?_
  refine oW T_pdq_ok ?_
  simp only [go_sem]
  refine hK5 _ ?_
  refine oC rfl ?_ ?_
  ·
   intro c1
   exfalso
   omega
  intro c1
  refine AWP_skip ?_
  simp only [go_sem]
  refine hK4 _ ?_
  refine oS fun K6 hK6 => ?_
  refine oS fun K7 hK7 => ?_
  refine oW T_pdq_ok ?_
  simp only [go_sem]
  refine hK7 _ ?_
  refine oC rfl ?_ ?_
  ·
   intro c2
   exfalso
   omega
  intro c2
  refine AWP_skip ?_
  simp only [go_sem]
  refine hK6 _ ?_
  refine oS fun K8 hK8 => ?_
  refine oW T_pdq_ok ?_
  simp (maxSteps := 2000000) only [hw8, go_sem]
  repeat (with_reducible first | refine oA ?_ | refine And.intro (by first | exact ⟨h1, Int.lt_of_le_of_lt h2 (by decide)⟩) ?_)
  refine hK8 _ ?_
  refine AWP_ret ?_
  simp only [hres, go_sem]
  first
   | exact oF
   | refine ⟨?_, oF⟩
     clear hw8
     rcases (by omega : x = 0 ∨ x = 1 ∨ x = 2) with rfl | rfl | rfl <;> rfl
def T_len64 : Tab := fun f => if f = 234 then some (.p K_len64) else T_pdq f
theorem T_len64_ok : TabOk Tryz.prog T_len64 := tabP len64_ok (fnOk_of Tryz.func234 rfl (by decide)) T_pdq_ok
attribute [go_sem] T_len64 K_len64
def K_bitsLen : Con := ⟨[.val (.int .u64)], [⟨.int .i64, true⟩], fun x => inR x.1 0 2 = true, fun x => x.1⟩
theorem bitsLen_ok : PureT Tryz.prog 214 K_bitsLen := by
  refine pure_of_body Tryz.func214 rfl ?_
  have hres : Tryz.f214.results.toList = [.tmp 2] := rfl
  rintro ⟨(x : Int), _⟩ hc hL
  simp only [K_bitsLen, go_sem] at hL
  simp only [K_bitsLen, St.init, St.initG, Tryz.ntmps214, go_sem] 
  have hx2 : inR x 0 2 = true := hc
  refine oS fun K1 hK1 => ?_
  refine oW T_len64_ok ?_
  simp only [go_sem]
  repeat (with_reducible first | refine oA ?_ | refine And.intro (by first | exact hx2) ?_)
  refine hK1 _ ?_
  refine oS fun K2 hK2 => ?_
  refine oC rfl ?_ ?_
  ·
   intro c0
   exact absurd c0 (by simp)
  intro c0
  refine AWP_skip ?_
  simp only [go_sem]
  refine hK2 _ ?_
  refine oS fun K3 hK3 => ?_
  refine oW T_len64_ok ?_
  simp only [go_sem]
  repeat (with_reducible first | refine oA ?_ | refine And.intro (by first | exact hx2) ?_)
  refine hK3 _ ?_
  refine AWP_ret ?_
  simp only [hres, go_sem]
  first | exact oF | exact oFr
def T_bitsLen : Tab := fun f => if f = 214 then some (.p K_bitsLen) else T_len64 f
theorem T_bitsLen_ok : TabOk Tryz.prog T_bitsLen := tabP bitsLen_ok (fnOk_of Tryz.func214 rfl (by decide)) T_len64_ok
attribute [go_sem] T_bitsLen K_bitsLen
def K_sortS : GCon where
  ps := [.ow 0]
  os := [.row 2 (.int .i64)]
  c := fun x => List.length x.2.1 = 2
  r := fun _ => .tup []
  o := fun x => [(30, .row 2 (.int .i64) (srt x.2.1) [])]
  ok := by
    rintro ⟨_, ⟨(xs : List Int), _⟩⟩
    exact ⟨rfl, rfl, by decide⟩
theorem sortS_ok : GenT Tryz.prog 174 K_sortS := by
  refine gen_of_body Tryz.func174 rfl ?_
  have hres : Tryz.f174.results.toList = [] := rfl
  rintro ⟨_, ⟨(xs : List Int), _⟩⟩ hc hL hO
  simp only [K_sortS, go_sem] at hL
  simp only [K_sortS, go_sem] at hO
  simp only [K_sortS, St.init, St.initG, Tryz.ntmps174, go_sem] 
  have h2 : xs.length = 2 := hc
  have hu : IntKind.u64.wrap (xs.length : Int) = xs.length := by rw [h2]; rfl
  have hr2 : inR (xs.length : Int) 0 2 = true := inR_t (by omega) (by omega)
  refine oS fun K1 hK1 => ?_
  refine oW T_bitsLen_ok ?_
  simp only [go_sem]
  refine hK1 _ ?_
  refine oW T_bitsLen_ok ?_
  simp (maxSteps := 2000000) only [hu, go_sem]
  repeat (with_reducible first | refine oA ?_ | refine And.intro (by first | exact hr2 | exact ⟨rfl, rfl, by omega⟩ | exact (by omega : xs.length ≤ 12)) ?_)
  simp (maxSteps := 2000000) only [hres, go_sem]
  first | exact oG | (refine ⟨oG, ?_⟩; (repeat' refine And.intro ?_ ?_) <;> first | rfl | exact insI_two h2)
def T_sortS : Tab := fun f => if f = 174 then some (.g K_sortS) else T_bitsLen f
theorem T_sortS_ok : TabOk Tryz.prog T_sortS := tabG sortS_ok (fnOk_of Tryz.func174 rfl (by decide)) T_bitsLen_ok
attribute [go_sem] T_sortS K_sortS
def K_inputsOf : Con := ⟨[.val ((.prod (.int .i64) (.prod (.int .i64) (.prod (.int .i64) (.row 2 (.int .i64)))))), .val ((.row 2 (.int .i64)))], [⟨(.row 2 (.int .i64)), true⟩], fun x => insIx x.2.1.length x.1, fun x => insOf x.1 x.2.1⟩
theorem inputsOf_ok : PureT Tryz.prog 113 K_inputsOf := by
  refine pure_of_body Tryz.func113 rfl ?_
  have hres : Tryz.f113.results.toList = [.tmp 4] := rfl
  rintro ⟨⟨(kd : Int), (a : Int), (bb : Int), (fr : List Int)⟩, (cl : List Int), _⟩ hc hL
  simp only [K_inputsOf, go_sem] at hL
  simp only [K_inputsOf, St.init, St.initG, Tryz.ntmps113, go_sem] 
  obtain ⟨h1, h2, h3⟩ := (show insIx cl.length (kd, a, bb, fr) from hc)
  have h1 : fr.length ≤ 3 := h1
  have h2 : idxs cl.length fr = true := h2
  have hsw1 : kd = 3 → fr.length = 2 := fun e => h3 (by unfold swapB; rw [decide_eq_true (show kd = 3 from e)]; rfl)
  have hsw2 : kd = 9 → fr.length = 2 := fun e => h3 (by unfold swapB; rw [decide_eq_true (show kd = 9 from e), Bool.or_true])
  have hml : (List.map (fun q => cl.getD (Int.toNat q) 0) fr).length = fr.length := List.length_map _
  refine oS fun K1 hK1 => ?_
  refine oW T_sortS_ok ?_
  simp only [go_sem]
  refine hK1 _ ?_
  refine oS fun K2 hK2 => ?_
  refine oW T_sortS_ok ?_
  simp (maxSteps := 2000000) only [go_sem]
  repeat (with_reducible first | refine oA ?_ | refine And.intro (by first | exact ⟨by omega, h2⟩) ?_)
  refine hK2 _ ?_
  refine oS fun K3 hK3 => ?_
  refine oS fun K4 hK4 => ?_
  refine oW T_sortS_ok ?_
  simp (maxSteps := 2000000) only [go_sem]
  repeat' (with_reducible first | refine oA ?_ | refine oT (fun g2 => ?_) (fun g2 => ?_) | refine oE (fun g2 => ?_) (fun g2 => ?_))
  all_goals
   refine hK4 _ ?_
   refine AWP_cond rfl ?_ ?_
   ·
    intro c0
    try simp only [zA, zB, zC, zD, zE, zF, zG, zH, zI] at c0
    all_goals
     refine oW T_sortS_ok ?_
     simp only [go_sem]
     repeat (with_reducible first | refine oA ?_ | refine And.intro (by first | (rw [hml]; exact hsw1 (by assumption)) | (rw [hml]; exact hsw2 (by assumption)) | (rw [hml]; omega)) ?_)
     refine hK3 _ ?_
     refine oS fun K5 hK5 => ?_
     refine oW T_sortS_ok ?_
     simp only [go_sem]
     refine hK5 _ ?_
     refine AWP_ret ?_
     simp only [hres, go_sem]
     first | exact oF | (refine ⟨?_, oF⟩; first | (rw [insOf_t (n := (kd, a, bb, fr)) (by unfold swapB; rw [decide_eq_true (show kd = 3 by assumption)]; rfl)]; rfl) | (rw [insOf_t (n := (kd, a, bb, fr)) (by unfold swapB; rw [decide_eq_true (show kd = 9 by assumption), Bool.or_true])]; rfl) | (rw [insOf_f (n := (kd, a, bb, fr)) (by unfold swapB; rw [decide_eq_false (show ¬ kd = 3 by assumption), decide_eq_false (show ¬ kd = 9 by assumption)]; rfl)]; rfl))
   ·
    intro c0
    try simp only [zA, zB, zC, zD, zE, zF, zG, zH, zI] at c0
    all_goals
     refine AWP_skip ?_
     simp only [go_sem]
     refine hK3 _ ?_
     refine oS fun K6 hK6 => ?_
     refine oW T_sortS_ok ?_
     simp only [go_sem]
     refine hK6 _ ?_
     refine AWP_ret ?_
     simp only [hres, go_sem]
     first | exact oF | (refine ⟨?_, oF⟩; first | (rw [insOf_t (n := (kd, a, bb, fr)) (by unfold swapB; rw [decide_eq_true (show kd = 3 by assumption)]; rfl)]; rfl) | (rw [insOf_t (n := (kd, a, bb, fr)) (by unfold swapB; rw [decide_eq_true (show kd = 9 by assumption), Bool.or_true])]; rfl) | (rw [insOf_f (n := (kd, a, bb, fr)) (by unfold swapB; rw [decide_eq_false (show ¬ kd = 3 by assumption), decide_eq_false (show ¬ kd = 9 by assumption)]; rfl)]; rfl))
def T_inputsOf : Tab := fun f => if f = 113 then some (.p K_inputsOf) else T_sortS f
theorem T_inputsOf_ok : TabOk Tryz.prog T_inputsOf := tabP inputsOf_ok (fnOk_of Tryz.func113 rfl (by decide)) T_sortS_ok
attribute [go_sem] T_inputsOf K_inputsOf
def K_alike : Con := ⟨[.val ((.prod (.row 26 (.row 2 (.int .i64))) (.prod (.row 90 (.prod (.int .i64) (.prod (.int .i64) (.prod (.int .i64) (.row 2 (.int .i64)))))) (.row 2 (.int .i64))))), .val ((.prod (.int .i64) (.prod (.int .i64) (.prod (.int .i64) (.row 2 (.int .i64)))))), .val ((.prod (.int .i64) (.prod (.int .i64) (.prod (.int .i64) (.row 2 (.int .i64)))))), .val ((.row 2 (.int .i64)))], [⟨.bool, true⟩], fun x => tabIx x.1.1 x.2.1 ∧ tabIx x.1.1 x.2.2.1 ∧ insIx x.2.2.2.1.length x.2.1 ∧ insIx x.2.2.2.1.length x.2.2.1, fun x => alikeB x.1.1 x.2.2.2.1 x.2.1 x.2.2.1⟩
theorem alike_ok : PureT Tryz.prog 56 K_alike := by
  refine pure_of_body Tryz.func56 rfl ?_
  have hres : Tryz.f56.results.toList = [.tmp 8] := rfl
  rintro ⟨⟨(ts : List (List Int)), (ns : List NodeD), (os : List Int)⟩, ⟨(kd : Int), (a : Int), (bb : Int), (fr : List Int)⟩, ⟨(kd2 : Int), (a2 : Int), (bb2 : Int), (fr2 : List Int)⟩, (cl : List Int), _⟩ hc hL
  simp only [K_alike, go_sem] at hL
  simp only [K_alike, St.init, St.initG, Tryz.ntmps56, go_sem] 
  obtain ⟨h1, h2, h3, h4⟩ := (show tabIx ts (kd, a, bb, fr) ∧ tabIx ts (kd2, a2, bb2, fr2) ∧ insIx cl.length (kd, a, bb, fr) ∧ insIx cl.length (kd2, a2, bb2, fr2) from hc)
  refine oS fun K1 hK1 => ?_
  refine oW T_inputsOf_ok ?_
  simp only [go_sem]
  repeat (with_reducible first | refine oA ?_ | refine And.intro (by first | exact ⟨h1, h2⟩ | exact h3 | exact h4) ?_)
  refine hK1 _ ?_
  refine oS fun K2 hK2 => ?_
  refine oR T_inputsOf_ok
    [[], [], [], [0, 1, 2], [0, 1, 2, 3], [0, 1, 2, 3, 4], [0, 1, 2, 3, 4], [0, 1, 2, 3, 4, 5, 6], [0, 1, 2, 3, 4], [0, 1, 2, 3, 4], [0, 1, 2, 3, 4, 5, 6, 7, 8, 9], [0, 1, 2, 3, 4, 5, 6, 7, 8, 9, 10], [0, 1, 2, 3, 4, 5, 6, 7, 8, 9, 10, 11], [0, 1, 2, 3, 4, 5, 6, 7, 8, 9, 10, 11, 12]]
    [[], [], [], [], [], [], [], [], [356, 357, 358, 359, 360, 361, 362, 363, 364, 365, 366, 367, 368, 369, 370, 371], [356, 357, 358, 359, 360, 361, 362, 363, 364, 365, 366, 367, 368, 369, 370, 371], [], [], [], []]
    [[], [], [], [], [], [], [], [356, 357, 358, 359, 360, 361, 362, 363, 364, 365, 366, 367, 368, 369, 370, 371], [], [], [], [], [], []] (by kernel_rfl) (by kernel_rfl) (adrawR_ok (acc := []) ?_)
  simp (maxSteps := 2000000) only [go_sem]
  repeat' (with_reducible first | refine oD ?_ | refine And.intro (by first | exact ⟨h1, h2⟩ | exact h3 | exact h4) ?_ | refine oT (fun g1 => ?_) (fun g1 => ?_) | refine oE (fun g1 => ?_) (fun g1 => ?_))
  all_goals
   refine hK2 _ ?_
   refine AWP_ret ?_
   simp only [hres, go_sem]
   first | exact oF | (refine ⟨?_, oF⟩; first | (unfold alikeB; rw [show keyB ts (kd, a, bb, fr) (kd2, a2, bb2, fr2) = true by assumption, Bool.true_and]) | (unfold alikeB; rw [show keyB ts (kd, a, bb, fr) (kd2, a2, bb2, fr2) = false by assumption, Bool.false_and]))
def T_alike : Tab := fun f => if f = 56 then some (.p K_alike) else T_inputsOf f
theorem T_alike_ok : TabOk Tryz.prog T_alike := tabP alike_ok (fnOk_of Tryz.func56 rfl (by decide)) T_inputsOf_ok
attribute [go_sem] T_alike K_alike
def T_l12Alike : Tab := T_alike
theorem T_l12Alike_ok : TabOk Tryz.prog T_l12Alike := T_alike_ok
attribute [go_sem] T_l12Alike
end Go.Proofs.YtflaacndokbddaaGreat
