/-
  Contracts of functions: Index[[]int64,int64], MatchNodes.
-/
import Derived.Test.YthfopaimihmgiaaGreatHc4
import Derived.Test.YthfopaimihmgiaaGreatGa7
import Derived.Test.YthfopaimihmgiaaGreatHa2
import Derived.Test.YthfopaimihmgiaaGreatPs
namespace Go.Proofs.YthfopaimihmgiaaGreat
open Go.RowKit
set_option linter.unusedSimpArgs false
set_option linter.unusedVariables false

def T_mHc100 : Tab := fun f => match T_classes f with
  | some k => some k
  | none => T_unionCode f
theorem T_mHc100_ok : TabOk Tryz.prog T_mHc100 := fun f k h => by
  unfold T_mHc100 at h
  split at h
  · rename_i e; cases h; exact T_classes_ok f _ e
  · exact T_unionCode_ok f k h
attribute [go_sem] T_mHc100 T0


def T_mHc101 : Tab := fun f => match T_mHc100 f with
  | some k => some k
  | none => T_unite f
theorem T_mHc101_ok : TabOk Tryz.prog T_mHc101 := fun f k h => by
  unfold T_mHc101 at h
  split at h
  · rename_i e; cases h; exact T_mHc100_ok f _ e
  · exact T_unite_ok f k h
attribute [go_sem] T_mHc101 T0


def K_sIdx : Con := ⟨[.val ((.row 2 (.int .i64))), .val (.int .i64)], [⟨.int .i64, true⟩], fun _ => True, fun x => idxV x.2.1 x.1⟩
set_option maxRecDepth 100000 in
set_option maxHeartbeats 1000000 in
theorem sIdx_ok : PureT Tryz.prog 66 K_sIdx := by
  refine pure_of_body Tryz.func66 rfl ?_
  have hres : Tryz.f66.results.toList = [.tmp 4] := rfl
  rintro ⟨(xs : List Int), (c : Int), _⟩ hc hL
  simp only [K_sIdx, lensOk, PK.lenOk, glensOk, GP.lenOk, flensOk, GO.lenOk, olensOk, Ty.lenOk, Ty.flat, Bool.and_true, Bool.true_and, Bool.and_false, Bool.false_and, true_and, and_true, implies_true, forall_const] at hL
  simp only [K_sIdx, St.init, St.initG, Tryz.ntmps66, go_sem] 
  refine AWP_seq_k fun K1 hK1 => ?_
  refine AWP_region (G := G) (T := T_mHc101) T_mHc101_ok ?_
  simp only [go_sem]
  refine hK1 _ ?_
  refine AWP_seq_k fun K2 hK2 => ?_
  refine AWP_seq_k fun K3 hK3 => ?_
  refine AWP_region (G := G) (T := T_mHc101) T_mHc101_ok ?_
  simp only [go_sem]
  refine hK3 _ ?_
  refine AWP_block ?_
  refine AWP_loop_k (ι := { k : Nat // k ≤ xs.length ∧ ∀ q, q < k → decide (xs.getD q 0 = c) = false }) (fun k => ⟨[.c (.rd [] 2 (.int .i64) (xs)), .c (.sc (.int .i64 (c))), zz, zz, zz, zz, zz, .c (.sc (.int .i64 (xs.length))), .c (.sc (.int .i64 (k.1))), zz, zz, zz, zz, zz, zz, zz, zz, zz, zz], []⟩) (fun k => xs.length - k.1) ⟨0, by simp, fun q hq => absurd hq (Nat.not_lt_zero _)⟩ ?_ ?_
  ·
   refine Wk_to (by rfl) ?_
   simp (maxSteps := 2000000) only [go_sem]
   all_goals (first | rfl | ((repeat' refine And.intro ?_ ?_) <;> first | rfl | simp))
  rintro ⟨k, hk, hp⟩ K4 hL4
  refine AWP_seq_k fun K5 hK5 => ?_
  refine AWP_region (G := G) (T := T_mHc101) T_mHc101_ok ?_
  simp only [go_sem]
  refine hK5 _ ?_
  refine AWP_seq_k fun K6 hK6 => ?_
  refine AWP_cond rfl ?_ ?_
  ·
   intro c0
   try simp only [decide_eq_true_eq, decide_eq_false_iff_not, Bool.not_eq_true', Bool.not_eq_false', ne_eq, Int.not_lt, Int.not_le] at c0
   refine AWP_skip ?_
   simp only [go_sem]
   refine hK6 _ ?_
   refine AWP_seq_k fun K7 hK7 => ?_
   refine AWP_block ?_
   refine AWP_seq_k fun K8 hK8 => ?_
   refine AWP_region (G := G) (T := T_mHc101) T_mHc101_ok ?_
   simp only [go_sem]
   refine hK8 _ ?_
   refine AWP_seq_k fun K9 hK9 => ?_
   refine AWP_region (G := G) (T := T_mHc101) T_mHc101_ok ?_
   simp (maxSteps := 2000000) only [go_sem]
   repeat (with_reducible refine And.intro (by first | omega | exact ⟨rfl, by omega, by omega, by omega⟩) ?_)
   refine hK9 _ ?_
   refine AWP_cond rfl ?_ ?_
   ·
    intro c1
    try simp only [decide_eq_true_eq, decide_eq_false_iff_not, Bool.not_eq_true', Bool.not_eq_false', ne_eq, Int.not_lt, Int.not_le] at c1
    refine AWP_seq_k fun K10 hK10 => ?_
    refine AWP_region (G := G) (T := T_mHc101) T_mHc101_ok ?_
    simp only [go_sem]
    refine hK10 _ ?_
    refine AWP_ret ?_
    simp only [hres, go_sem]
    first
      | exact finOk_mk (by rfl) (by decide)
      | refine ⟨?_, finOk_mk (by rfl) (by decide)⟩
        exact (idxR_hit (by omega) hp (decide_eq_true (by omega))).symm
   ·
    intro c1
    try simp only [decide_eq_true_eq, decide_eq_false_iff_not, Bool.not_eq_true', Bool.not_eq_false', ne_eq, Int.not_lt, Int.not_le] at c1
    refine AWP_skip ?_
    simp only [go_sem]
    refine hK7 _ ?_
    refine AWP_region (G := G) (T := T_mHc101) T_mHc101_ok ?_
    simp only [go_sem]
    refine hL4 ⟨k + 1, by omega, fun q hq => by rcases Nat.lt_succ_iff_lt_or_eq.1 hq with h | h; exact hp q h; subst h; exact decide_eq_false (by omega)⟩ _ (Wk_to (by rfl) ?_) ?_
    ·
     simp (maxSteps := 2000000) only [go_sem]
     all_goals (first | rfl | ((repeat' refine And.intro ?_ ?_) <;> first | rfl | exact wk (by omega) | simp))
    ·
     first | (simp only []; omega) | omega | (simp; omega)
  ·
   intro c0
   try simp only [decide_eq_true_eq, decide_eq_false_iff_not, Bool.not_eq_true', Bool.not_eq_false', ne_eq, Int.not_lt, Int.not_le] at c0
   refine AWP_exit ?_
   simp only [go_sem]
   refine hK2 _ ?_
   refine AWP_seq_k fun K11 hK11 => ?_
   refine AWP_region (G := G) (T := T_mHc101) T_mHc101_ok ?_
   simp only [go_sem]
   refine hK11 _ ?_
   refine AWP_ret ?_
   simp only [hres, go_sem]
   first
     | exact finOk_mk (by rfl) (by decide)
     | refine ⟨?_, finOk_mk (by rfl) (by decide)⟩
       exact (idxR_none (j := k) (by omega) hp).symm

theorem sIdx_fn : FnOk Tryz.prog 66 := fnOk_of Tryz.func66 rfl (by decide)

def T_sIdx : Tab := fun f => if f = 66 then some (.p K_sIdx) else T_mHc101 f
theorem T_sIdx_ok : TabOk Tryz.prog T_sIdx := fun f k h => by
  unfold T_sIdx at h
  split at h
  · rename_i e; cases h; subst e; exact ⟨sIdx_ok, sIdx_fn⟩
  · exact T_mHc101_ok f k h
attribute [go_sem] T_sIdx K_sIdx


def K_implMatch : Con := ⟨[.val ((.prod (.int .i64) (.prod (.row 24 (.row 2 (.int .i64))) (.prod (.row 102 (.prod (.int .i64) (.prod (.int .i64) (.prod (.int .i64) (.row 2 (.int .i64)))))) (.row 2 (.int .i64)))))), .val ((.prod (.int .i64) (.prod (.row 24 (.row 2 (.int .i64))) (.prod (.row 102 (.prod (.int .i64) (.prod (.int .i64) (.prod (.int .i64) (.row 2 (.int .i64)))))) (.row 2 (.int .i64))))))], [⟨(.row 2 (.int .i64)), true⟩, ⟨.int .i64, true⟩], fun _ => True, fun x => matchR x.1 x.2.1⟩
set_option maxRecDepth 100000 in
set_option maxHeartbeats 8000000 in
theorem implMatch_ok : PureT Tryz.prog 13 K_implMatch := by
  refine pure_of_body Tryz.func13 rfl ?_
  have hres : Tryz.f13.results.toList = [.tmp 4, .tmp 5] := rfl
  rintro ⟨⟨(pi : Int), (ts : List (List Int)), (ns : List NodeD), (os : List Int)⟩, ⟨(pi2 : Int), (ts2 : List (List Int)), (ns2 : List NodeD), (os2 : List Int)⟩, _⟩ hc hL
  simp only [K_implMatch, lensOk, PK.lenOk, glensOk, GP.lenOk, flensOk, GO.lenOk, olensOk, Ty.lenOk, Ty.flat, Bool.and_true, Bool.true_and, Bool.and_false, Bool.false_and, true_and, and_true, implies_true, forall_const] at hL
  simp only [K_implMatch, St.init, St.initG, Tryz.ntmps13, go_sem] 
  refine AWP_seq_k fun K1 hK1 => ?_
  refine AWP_region (G := G) (T := T_sIdx) T_sIdx_ok ?_
  simp only [go_sem]
  refine hK1 _ ?_
  refine AWP_seq_k fun K2 hK2 => ?_
  refine AWP_seq_k fun K3 hK3 => ?_
  refine AWP_region (G := G) (T := T_sIdx) T_sIdx_ok ?_
  simp only [go_sem]
  repeat (with_reducible refine And.intro (by first | omega | exact ⟨rfl, by omega, by omega, by omega⟩) ?_)
  refine hK3 _ ?_
  refine AWP_seq_k fun K4 hK4 => ?_
  refine AWP_region (G := G) (T := T_sIdx) T_sIdx_ok ?_
  simp only [go_sem]
  refine hK4 _ ?_
  refine AWP_cond rfl ?_ ?_
  ·
   intro c0
   try simp only [decide_eq_true_eq, decide_eq_false_iff_not, Bool.not_eq_true', Bool.not_eq_false', ne_eq, Int.not_lt, Int.not_le] at c0
   refine AWP_seq_k fun K5 hK5 => ?_
   refine AWP_region (G := G) (T := T_sIdx) T_sIdx_ok ?_
   simp only [go_sem]
   refine hK5 _ ?_
   refine AWP_ret ?_
   simp only [hres, go_sem]
   first
     | exact finOk_mk (by rfl) (by decide)
     | refine ⟨?_, finOk_mk (by rfl) (by decide)⟩
       first | (rw [matchR_f c0]; exact ⟨rfl, rfl⟩) | (rw [matchR_f c0])
  ·
   intro c0
   try simp only [decide_eq_true_eq, decide_eq_false_iff_not, Bool.not_eq_true', Bool.not_eq_false', ne_eq, Int.not_lt, Int.not_le] at c0
   obtain ⟨a1, a2, a3⟩ := ask2_ok c0
   have hsm : smallPs [(pi, ts, ns, os), (pi2, ts2, ns2, os2)] := ⟨by simp, fun p hp => by simp only [List.mem_cons, List.not_mem_nil, or_false] at hp; rcases hp with rfl | rfl; exact smallP_of a1; exact smallP_of a2⟩
   have hun : uniteL [(pi, ts, ns, os), (pi2, ts2, ns2, os2)] = (l12U (pi, ts, ns, os) (pi2, ts2, ns2, os2)).2 := congrArg Prod.snd (unite_two (p := (pi, ts, ns, os)) (q := (pi2, ts2, ns2, os2)) a1)
   have hU : uOk (l12U (pi, ts, ns, os) (pi2, ts2, ns2, os2)).2.1 (l12U (pi, ts, ns, os) (pi2, ts2, ns2, os2)).2.2.1 := uOk_two a1 a2
   have hio := outs_two a1 a2
   have hcl : (clsF (l12U (pi, ts, ns, os) (pi2, ts2, ns2, os2)).2.1 (l12U (pi, ts, ns, os) (pi2, ts2, ns2, os2)).2.2.1).length = (l12U (pi, ts, ns, os) (pi2, ts2, ns2, os2)).2.2.1.length := clsF_len
   have hnn : (l12U (pi, ts, ns, os) (pi2, ts2, ns2, os2)).2.2.1.length = ns.length + ns2.length := by simp [l12U]
   have hnc : ns.length ≤ (clsF (l12U (pi, ts, ns, os) (pi2, ts2, ns2, os2)).2.1 (l12U (pi, ts, ns, os) (pi2, ts2, ns2, os2)).2.2.1).length := by omega
   have hn1 : ns.length ≤ 24 := (formedB_parts (patchB_parts a1).1).1
   have hn2 : ns2.length ≤ 24 := (formedB_parts (patchB_parts a2).1).1
   have hml := matchL_len hnc
   have hTk : List.take (clsF (l12U (pi, ts, ns, os) (pi2, ts2, ns2, os2)).2.1 (l12U (pi, ts, ns, os) (pi2, ts2, ns2, os2)).2.2.1).length (clsF (l12U (pi, ts, ns, os) (pi2, ts2, ns2, os2)).2.1 (l12U (pi, ts, ns, os) (pi2, ts2, ns2, os2)).2.2.1) = (clsF (l12U (pi, ts, ns, os) (pi2, ts2, ns2, os2)).2.1 (l12U (pi, ts, ns, os) (pi2, ts2, ns2, os2)).2.2.1) := List.take_length
   have hTl : (List.take ns.length (clsF (l12U (pi, ts, ns, os) (pi2, ts2, ns2, os2)).2.1 (l12U (pi, ts, ns, os) (pi2, ts2, ns2, os2)).2.2.1)).length = ns.length := by rw [List.length_take]; omega
   have hDl : (List.drop ns.length (clsF (l12U (pi, ts, ns, os) (pi2, ts2, ns2, os2)).2.1 (l12U (pi, ts, ns, os) (pi2, ts2, ns2, os2)).2.2.1)).length = ns2.length := by rw [List.length_drop]; omega
   refine AWP_skip ?_
   simp only [go_sem]
   refine hK2 _ ?_
   refine AWP_seq_k fun K6 hK6 => ?_
   refine AWP_draw (G := G) (T := T_sIdx) T_sIdx_ok mixed
     [[], [], [0, 1], [0, 1, 2], [0, 1, 2, 3], [], [5], [5, 6], [0, 1, 2, 3, 4], [0, 1, 2, 3, 4, 5, 6, 7, 8]]
     [[], [], [], [], [], [420, 436, 437, 438, 439, 440, 441, 442, 443, 444, 445, 446, 447, 448, 449, 450, 451, 452, 453, 454, 455, 456, 457, 458, 459, 460, 461, 462, 463, 464, 465, 466, 467], [420, 436, 437, 438, 439, 440, 441, 442, 443, 444, 445, 446, 447, 448, 449, 450, 451, 452, 453, 454, 455, 456, 457, 458, 459, 460, 461, 462, 463, 464, 465, 466, 467], [420, 436, 437, 438, 439, 440, 441, 442, 443, 444, 445, 446, 447, 448, 449, 450, 451, 452, 453, 454, 455, 456, 457, 458, 459, 460, 461, 462, 463, 464, 465, 466, 467], [], []]
     [[], [], [420], [436, 437, 438, 439, 440, 441, 442, 443, 444, 445, 446, 447, 448, 449, 450, 451], [452, 453, 454, 455, 456, 457, 458, 459, 460, 461, 462, 463, 464, 465, 466, 467], [], [], [], [], []] (by kernel_rfl) (by kernel_rfl) (adrawR_ok (acc := []) ?_)
   simp (maxSteps := 2000000) only [List.nodup_cons, List.nodup_nil, List.not_mem_nil, not_false_eq_true, hun, go_sem]
   repeat (with_reducible refine And.intro (by first | exact chk_leaf (by kernel_rfl) | omega | exact ⟨rfl, by omega, by omega, by omega⟩ | exact hsm | exact hU) ?_)
   refine hK6 _ ?_
   refine AWP_seq_k fun K7 hK7 => ?_
   refine AWP_region (G := G) (T := T_sIdx) T_sIdx_ok ?_
   simp only [go_sem]
   repeat (with_reducible refine And.intro (by first | omega | exact ⟨rfl, by omega, by omega, by omega⟩) ?_)
   refine hK7 _ ?_
   refine AWP_seq_k fun K8 hK8 => ?_
   refine AWP_seq_k fun K9 hK9 => ?_
   refine AWP_region (G := G) (T := T_sIdx) T_sIdx_ok ?_
   simp (maxSteps := 2000000) only [go_sem]
   repeat (with_reducible refine And.intro (by first | omega | exact ⟨rfl, by omega, by omega, by omega⟩ | exact ⟨by omega, by omega, by omega⟩) ?_)
   refine hK9 _ ?_
   refine AWP_block ?_
   refine AWP_loop_k (ι := { k : Nat // k ≤ ns.length }) (fun k => ⟨[zz, zz, zz, zz, zz, zz, zz, .c (.ow 452), .c (.sc (.int .i64 (ns.length))), .c (.ow 9002), zz, zz, zz, zz, zz, zz, zz, zz, zz, zz, zz, zz, zz, zz, zz, zz, zz, zz, zz, .c (.rd [452] 2 (.int .i64) (List.take ns.length (clsF (l12U (pi, ts, ns, os) (pi2, ts2, ns2, os2)).2.1 (l12U (pi, ts, ns, os) (pi2, ts2, ns2, os2)).2.2.1))), .c (.sc (.int .i64 ((List.take ns.length (clsF (l12U (pi, ts, ns, os) (pi2, ts2, ns2, os2)).2.1 (l12U (pi, ts, ns, os) (pi2, ts2, ns2, os2)).2.2.1)).length))), .c (.sc (.int .i64 (k.1))), zz, zz, zz, zz, zz, zz, zz, zz, zz, zz, zz, zz, zz], [(452, .row 2 (.int .i64) ((clsF (l12U (pi, ts, ns, os) (pi2, ts2, ns2, os2)).2.1 (l12U (pi, ts, ns, os) (pi2, ts2, ns2, os2)).2.2.1)) []), (9002, .row 2 (.int .i64) (((matchL (clsF (l12U (pi, ts, ns, os) (pi2, ts2, ns2, os2)).2.1 (l12U (pi, ts, ns, os) (pi2, ts2, ns2, os2)).2.2.1) ns.length).take k.1)) [])]⟩) (fun k => ns.length - k.1) ⟨0, by simp⟩ ?_ ?_
   ·
    refine Wk_to (by rfl) ?_
    simp (maxSteps := 2000000) only [go_sem]
    all_goals ((repeat' refine And.intro ?_ ?_) <;> first | rfl | (congr 1; done) | simp)
   rintro ⟨k, hk⟩ K10 hL10
   have hmt : ((matchL (clsF (l12U (pi, ts, ns, os) (pi2, ts2, ns2, os2)).2.1 (l12U (pi, ts, ns, os) (pi2, ts2, ns2, os2)).2.2.1) ns.length).take k).length ≤ 24 := by rw [List.length_take]; omega
   refine AWP_seq_k fun K11 hK11 => ?_
   refine AWP_region (G := G) (T := T_sIdx) T_sIdx_ok ?_
   simp only [go_sem]
   refine hK11 _ ?_
   refine AWP_seq_k fun K12 hK12 => ?_
   refine AWP_cond rfl ?_ ?_
   ·
    intro c1
    try simp only [decide_eq_true_eq, decide_eq_false_iff_not, Bool.not_eq_true', Bool.not_eq_false', ne_eq, Int.not_lt, Int.not_le] at c1
    have hnx := match_next hnc (show k < ns.length by omega)
    refine AWP_skip ?_
    simp only [go_sem]
    refine hK12 _ ?_
    refine AWP_seq_k fun K13 hK13 => ?_
    refine AWP_block ?_
    refine AWP_seq_k fun K14 hK14 => ?_
    refine AWP_region (G := G) (T := T_sIdx) T_sIdx_ok ?_
    simp only [go_sem]
    repeat (with_reducible refine And.intro (by first | omega | exact ⟨rfl, by omega, by omega, by omega⟩) ?_)
    refine hK14 _ ?_
    refine AWP_region (G := G) (T := T_sIdx) T_sIdx_ok ?_
    simp (maxSteps := 2000000) only [List.nodup_cons, List.nodup_nil, List.not_mem_nil, not_false_eq_true, hTk, go_sem]
    repeat (with_reducible refine And.intro (by first | omega | exact ⟨rfl, by omega, by omega, by omega⟩ | exact ⟨by omega, by omega, by omega⟩ | omega) ?_)
    refine hK13 _ ?_
    refine AWP_region (G := G) (T := T_sIdx) T_sIdx_ok ?_
    simp only [go_sem]
    refine hL10 ⟨k + 1, by omega⟩ _ (Wk_to (by rfl) ?_) ?_
    ·
     simp (maxSteps := 2000000) only [go_sem]
     all_goals ((repeat' refine And.intro ?_ ?_) <;> first | rfl | exact wk (by omega) | exact hnx.symm | (congr 1; done))
    ·
     first | (simp only []; omega) | omega | (simp; omega)
   ·
    intro c1
    try simp only [decide_eq_true_eq, decide_eq_false_iff_not, Bool.not_eq_true', Bool.not_eq_false', ne_eq, Int.not_lt, Int.not_le] at c1
    refine AWP_exit ?_
    simp only [go_sem]
    refine hK8 _ ?_
    refine AWP_seq_k fun K15 hK15 => ?_
    refine AWP_region (G := G) (T := T_sIdx) T_sIdx_ok ?_
    simp only [go_sem]
    refine hK15 _ ?_
    refine AWP_ret ?_
    simp only [hres, go_sem]
    first
      | exact finOk_mk (by rfl) (by decide)
      | refine ⟨?_, finOk_mk (by rfl) (by decide)⟩
        have hfin : ((matchL (clsF (l12U (pi, ts, ns, os) (pi2, ts2, ns2, os2)).2.1 (l12U (pi, ts, ns, os) (pi2, ts2, ns2, os2)).2.2.1) ns.length).take k) = matchL (clsF (l12U (pi, ts, ns, os) (pi2, ts2, ns2, os2)).2.1 (l12U (pi, ts, ns, os) (pi2, ts2, ns2, os2)).2.2.1) ns.length := List.take_of_length_le (by rw [hml]; omega)
        first | (rw [matchR_t c0, hfin]; exact ⟨rfl, rfl⟩) | (rw [matchR_t c0, hfin]; done) | (rw [matchR_t c0, hfin]; rfl)

theorem implMatch_fn : FnOk Tryz.prog 13 := fnOk_of Tryz.func13 rfl (by decide)

def T_implMatch : Tab := fun f => if f = 13 then some (.p K_implMatch) else T_sIdx f
theorem T_implMatch_ok : TabOk Tryz.prog T_implMatch := fun f k h => by
  unfold T_implMatch at h
  split at h
  · rename_i e; cases h; subst e; exact ⟨implMatch_ok, implMatch_fn⟩
  · exact T_sIdx_ok f k h
attribute [go_sem] T_implMatch K_implMatch

end Go.Proofs.YthfopaimihmgiaaGreat
