/-
  Contracts of functions: szInt64S, szInt64SS, szNode, szNodeS, szPatch, toInt64S, toInt64SS, toNode, toNodeS, toPatch.
-/
import Derived.Test.YthglggjgjlmhlaaPe
import Derived.Test.YthglggjgjlmhlaaGa1
namespace Go.Proofs.Ythglggjgjlmhlaa
open Go.RowKit
set_option linter.unusedSimpArgs false
set_option linter.unusedVariables false

def K_szI : Con := ⟨[.val ((.row 2 (.int .i64))), .val (.int .i64)], [⟨.int .i64, true⟩], fun x => szOk x.2.1, fun x => szR x.1.length x.2.1⟩
set_option maxRecDepth 100000 in
set_option maxHeartbeats 1000000 in
theorem szI_ok : PureT Try.prog 57 K_szI := by
  refine pure_of_body Try.func57 rfl ?_
  have hres : Try.f57.results.toList = [.tmp 4] := rfl
  rintro ⟨(xs : List Int), (lf : Int), _⟩ hc hL
  simp only [K_szI, lensOk, PK.lenOk, glensOk, GP.lenOk, flensOk, GO.lenOk, olensOk, Ty.lenOk, Ty.flat, Bool.and_true, Bool.true_and, Bool.and_false, Bool.false_and, true_and, and_true, implies_true, forall_const] at hL
  obtain lxs := hL
  simp only [K_szI, St.init, St.initG, Try.ntmps57, go_sem] 
  obtain ⟨h1, h2⟩ := (show szOk lf from hc)
  have hw : IntKind.i64.wrap (lf - (xs.length : Int)) = lf - xs.length := wrapI (by omega)
  refine AWP_seq_k fun K1 hK1 => ?_
  refine AWP_region (G := G) (T := T_kinds) T_kinds_ok ?_
  simp only [go_sem]
  refine hK1 _ ?_
  refine AWP_seq_k fun K2 hK2 => ?_
  refine AWP_region (G := G) (T := T_kinds) T_kinds_ok ?_
  simp (maxSteps := 2000000) only [hw, go_sem]
  refine hK2 _ ?_
  refine AWP_seq_k fun K3 hK3 => ?_
  refine AWP_seq_k fun K4 hK4 => ?_
  refine AWP_region (G := G) (T := T_kinds) T_kinds_ok ?_
  simp only [go_sem]
  refine hK4 _ ?_
  refine AWP_cond rfl ?_ ?_
  ·
   intro c0
   try simp only [decide_eq_true_eq, decide_eq_false_iff_not, Bool.not_eq_true', Bool.not_eq_false', ne_eq, Int.not_lt, Int.not_le] at c0
   refine AWP_seq_k fun K5 hK5 => ?_
   refine AWP_region (G := G) (T := T_kinds) T_kinds_ok ?_
   simp only [go_sem]
   refine hK5 _ ?_
   refine AWP_ret ?_
   simp only [hres, go_sem]
   first
     | exact finOk_mk (by rfl) (by decide)
     | refine ⟨?_, finOk_mk (by rfl) (by decide)⟩
       exact (szR_t (by omega)).symm
  ·
   intro c0
   try simp only [decide_eq_true_eq, decide_eq_false_iff_not, Bool.not_eq_true', Bool.not_eq_false', ne_eq, Int.not_lt, Int.not_le] at c0
   refine AWP_skip ?_
   simp only [go_sem]
   refine hK3 _ ?_
   refine AWP_seq_k fun K6 hK6 => ?_
   refine AWP_region (G := G) (T := T_kinds) T_kinds_ok ?_
   simp only [go_sem]
   refine hK6 _ ?_
   refine AWP_ret ?_
   simp only [hres, go_sem]
   first
     | exact finOk_mk (by rfl) (by decide)
     | refine ⟨?_, finOk_mk (by rfl) (by decide)⟩
       first | exact (szR_f (by omega)).symm | (rw [szR_f (by omega)]; omega)

theorem szI_fn : FnOk Try.prog 57 := fnOk_of Try.func57 rfl (by decide)

def T_szI : Tab := fun f => if f = 57 then some (.p K_szI) else T_kinds f
theorem T_szI_ok : TabOk Try.prog T_szI := fun f k h => by
  unfold T_szI at h
  split at h
  · rename_i e; cases h; subst e; exact ⟨szI_ok, szI_fn⟩
  · exact T_kinds_ok f k h
attribute [go_sem] T_szI K_szI


def K_szL : Con := ⟨[.val ((.row 24 (.row 2 (.int .i64)))), .val (.int .i64)], [⟨.int .i64, true⟩], fun x => szOk x.2.1, fun x => szR (szL x.1) x.2.1⟩
set_option maxRecDepth 100000 in
set_option maxHeartbeats 1000000 in
theorem szL_ok : PureT Try.prog 26 K_szL := by
  refine pure_of_body Try.func26 rfl ?_
  have hres : Try.f26.results.toList = [.tmp 4] := rfl
  rintro ⟨(xs : List (List Int)), (lf : Int), _⟩ hc hL
  simp only [K_szL, lensOk, PK.lenOk, glensOk, GP.lenOk, flensOk, GO.lenOk, olensOk, Ty.lenOk, Ty.flat, Bool.and_true, Bool.true_and, Bool.and_false, Bool.false_and, true_and, and_true, implies_true, forall_const] at hL
  obtain ⟨lxs, lxs2⟩ := hL
  simp only [K_szL, St.init, St.initG, Try.ntmps26, go_sem] 
  obtain ⟨h1, h2⟩ := (show szOk lf from hc)
  have hw : IntKind.i64.wrap (lf - (xs.length : Int)) = lf - xs.length := wrapI (by omega)
  have htot : szL xs = xs.length + cntA List.length xs := rfl
  refine AWP_seq_k fun K1 hK1 => ?_
  refine AWP_region (G := G) (T := T_szI) T_szI_ok ?_
  simp only [go_sem]
  refine hK1 _ ?_
  refine AWP_seq_k fun K2 hK2 => ?_
  refine AWP_region (G := G) (T := T_szI) T_szI_ok ?_
  simp (maxSteps := 2000000) only [hw, go_sem]
  refine hK2 _ ?_
  refine AWP_seq_k fun K3 hK3 => ?_
  refine AWP_seq_k fun K4 hK4 => ?_
  refine AWP_region (G := G) (T := T_szI) T_szI_ok ?_
  simp only [go_sem]
  refine hK4 _ ?_
  refine AWP_cond rfl ?_ ?_
  ·
   intro c0
   try simp only [decide_eq_true_eq, decide_eq_false_iff_not, Bool.not_eq_true', Bool.not_eq_false', ne_eq, Int.not_lt, Int.not_le] at c0
   refine AWP_seq_k fun K5 hK5 => ?_
   refine AWP_region (G := G) (T := T_szI) T_szI_ok ?_
   simp only [go_sem]
   refine hK5 _ ?_
   refine AWP_ret ?_
   simp only [hres, go_sem]
   first
     | exact finOk_mk (by rfl) (by decide)
     | refine ⟨?_, finOk_mk (by rfl) (by decide)⟩
       exact (szR_t (by omega)).symm
  ·
   intro c0
   try simp only [decide_eq_true_eq, decide_eq_false_iff_not, Bool.not_eq_true', Bool.not_eq_false', ne_eq, Int.not_lt, Int.not_le] at c0
   refine AWP_skip ?_
   simp only [go_sem]
   refine hK3 _ ?_
   refine AWP_seq_k fun K6 hK6 => ?_
   refine AWP_seq_k fun K7 hK7 => ?_
   refine AWP_region (G := G) (T := T_szI) T_szI_ok ?_
   simp only [go_sem]
   refine hK7 _ ?_
   refine AWP_block ?_
   refine AWP_loop_k (ι := { k : Nat // k ≤ xs.length ∧ xs.length + cntA List.length (xs.take k) ≤ lf.toNat }) (fun k => ⟨[.c (.rd [] 24 (.row 2 (.int .i64)) (xs)), .c (.sc (.int .i64 (lf - xs.length - (cntA List.length (xs.take k.1) : Nat)))), zz, zz, zz, .c (.sc (.int .i64 (k.1))), zz, zz, zz, zz, zz, zz, zz, zz, zz, zz, zz, zz, zz, zz, zz, zz, zz, zz, zz, zz, zz], []⟩) (fun k => xs.length - k.1) ⟨0, by simp, by simp [cntA]; omega⟩ ?_ ?_
   ·
    refine Wk_to (by rfl) ?_
    simp (maxSteps := 2000000) only [go_sem]
    all_goals (first | rfl | (simp [cntA]; done) | ((repeat' refine And.intro ?_ ?_) <;> first | rfl | simp [cntA]))
   rintro ⟨k, hk, hp⟩ K8 hL8
   have hnx : k < xs.length → cntA List.length (xs.take (k + 1)) = cntA List.length (xs.take k) + List.length (xs.getD k ([] : List Int)) := fun h => cntA_next _ h
   have hle : cntA List.length (xs.take (k + 1)) ≤ cntA List.length xs := cntA_take _
   refine AWP_seq_k fun K9 hK9 => ?_
   refine AWP_seq_k fun K10 hK10 => ?_
   refine AWP_region (G := G) (T := T_szI) T_szI_ok ?_
   simp only [go_sem]
   refine hK10 _ ?_
   refine AWP_cond rfl ?_ ?_
   ·
    intro c1
    try simp only [decide_eq_true_eq, decide_eq_false_iff_not, Bool.not_eq_true', Bool.not_eq_false', ne_eq, Int.not_lt, Int.not_le] at c1
    refine AWP_skip ?_
    simp only [go_sem]
    refine hK9 _ ?_
    refine AWP_seq_k fun K11 hK11 => ?_
    refine AWP_block ?_
    refine AWP_seq_k fun K12 hK12 => ?_
    refine AWP_region (G := G) (T := T_szI) T_szI_ok ?_
    simp (maxSteps := 2000000) only [go_sem]
    repeat (with_reducible refine And.intro (by first | omega | exact ⟨rfl, by omega, by omega, by omega⟩ | exact ⟨by omega, by omega⟩) ?_)
    refine hK12 _ ?_
    refine AWP_seq_k fun K13 hK13 => ?_
    refine AWP_region (G := G) (T := T_szI) T_szI_ok ?_
    simp only [go_sem]
    refine hK13 _ ?_
    refine AWP_cond rfl ?_ ?_
    ·
     intro c2
     try simp only [decide_eq_true_eq, decide_eq_false_iff_not, Bool.not_eq_true', Bool.not_eq_false', ne_eq, Int.not_lt, Int.not_le] at c2
     have hq := hnx (by omega)
     obtain ⟨e1, e2⟩ := szR_lt (by omega) c2
     refine AWP_seq_k fun K14 hK14 => ?_
     refine AWP_region (G := G) (T := T_szI) T_szI_ok ?_
     simp only [go_sem]
     refine hK14 _ ?_
     refine AWP_ret ?_
     simp only [hres, go_sem]
     first
       | exact finOk_mk (by rfl) (by decide)
       | refine ⟨?_, finOk_mk (by rfl) (by decide)⟩
         exact (szR_t (by omega)).symm
    ·
     intro c2
     try simp only [decide_eq_true_eq, decide_eq_false_iff_not, Bool.not_eq_true', Bool.not_eq_false', ne_eq, Int.not_lt, Int.not_le] at c2
     have hq := hnx (by omega)
     obtain ⟨e1, e2⟩ := szR_ge' c2
     refine AWP_skip ?_
     simp only [go_sem]
     refine hK11 _ ?_
     refine AWP_region (G := G) (T := T_szI) T_szI_ok ?_
     simp only [go_sem]
     refine hL8 ⟨k + 1, by omega, by omega⟩ _ (Wk_to (by rfl) ?_) ?_
     ·
      simp (maxSteps := 2000000) only [go_sem]
      all_goals (first | rfl | ((repeat' refine And.intro ?_ ?_) <;> first | rfl | exact wk (by omega) | omega))
     ·
      first | (simp only []; omega) | omega | (simp; omega)
   ·
    intro c1
    try simp only [decide_eq_true_eq, decide_eq_false_iff_not, Bool.not_eq_true', Bool.not_eq_false', ne_eq, Int.not_lt, Int.not_le] at c1
    refine AWP_exit ?_
    simp only [go_sem]
    refine hK6 _ ?_
    refine AWP_seq_k fun K15 hK15 => ?_
    refine AWP_region (G := G) (T := T_szI) T_szI_ok ?_
    simp only [go_sem]
    refine hK15 _ ?_
    refine AWP_ret ?_
    simp only [hres, go_sem]
    first
      | exact finOk_mk (by rfl) (by decide)
      | refine ⟨?_, finOk_mk (by rfl) (by decide)⟩
        have hk3 : cntA List.length (xs.take k) = cntA List.length xs := by rw [List.take_of_length_le (by omega)]
        exact szR_f' (n := szL xs) (l := lf) (by omega) (by omega)

theorem szL_fn : FnOk Try.prog 26 := fnOk_of Try.func26 rfl (by decide)

def T_szL : Tab := fun f => if f = 26 then some (.p K_szL) else T_szI f
theorem T_szL_ok : TabOk Try.prog T_szL := fun f k h => by
  unfold T_szL at h
  split at h
  · rename_i e; cases h; subst e; exact ⟨szL_ok, szL_fn⟩
  · exact T_szI_ok f k h
attribute [go_sem] T_szL K_szL


def K_szN : Con := ⟨[.val ((.prod (.int .i64) (.prod (.int .i64) (.prod (.int .i64) (.row 2 (.int .i64)))))), .val (.int .i64)], [⟨.int .i64, true⟩], fun x => szOk x.2.1, fun x => szR x.1.2.2.2.length x.2.1⟩
set_option maxRecDepth 100000 in
set_option maxHeartbeats 1000000 in
theorem szN_ok : PureT Try.prog 105 K_szN := by
  refine pure_of_body Try.func105 rfl ?_
  have hres : Try.f105.results.toList = [.tmp 4] := rfl
  rintro ⟨⟨(kd : Int), (a : Int), (bb : Int), (fr : List Int)⟩, (lf : Int), _⟩ hc hL
  simp only [K_szN, lensOk, PK.lenOk, glensOk, GP.lenOk, flensOk, GO.lenOk, olensOk, Ty.lenOk, Ty.flat, Bool.and_true, Bool.true_and, Bool.and_false, Bool.false_and, true_and, and_true, implies_true, forall_const] at hL
  simp only [K_szN, St.init, St.initG, Try.ntmps105, go_sem] 
  obtain ⟨h1, h2⟩ := (show szOk lf from hc)
  refine AWP_seq_k fun K1 hK1 => ?_
  refine AWP_region (G := G) (T := T_szL) T_szL_ok ?_
  simp only [go_sem]
  repeat (with_reducible refine And.intro (by first | omega | exact ⟨rfl, by omega, by omega, by omega⟩ | exact ⟨by omega, by omega⟩) ?_)
  refine hK1 _ ?_
  refine AWP_seq_k fun K2 hK2 => ?_
  refine AWP_region (G := G) (T := T_szL) T_szL_ok ?_
  simp (maxSteps := 2000000) only [go_sem]
  repeat (with_reducible refine And.intro (by first | omega | exact ⟨rfl, by omega, by omega, by omega⟩ | exact ⟨by omega, by omega⟩) ?_)
  refine hK2 _ ?_
  refine AWP_seq_k fun K3 hK3 => ?_
  refine AWP_seq_k fun K4 hK4 => ?_
  refine AWP_region (G := G) (T := T_szL) T_szL_ok ?_
  simp only [go_sem]
  repeat (with_reducible refine And.intro (by first | omega | exact ⟨rfl, by omega, by omega, by omega⟩ | exact ⟨by omega, by omega⟩) ?_)
  refine hK4 _ ?_
  refine AWP_cond rfl ?_ ?_
  ·
   intro c0
   try simp only [decide_eq_true_eq, decide_eq_false_iff_not, Bool.not_eq_true', Bool.not_eq_false', ne_eq, Int.not_lt, Int.not_le] at c0
   obtain ⟨e1, e2⟩ := szR_lt (by omega) c0
   refine AWP_seq_k fun K5 hK5 => ?_
   refine AWP_region (G := G) (T := T_szL) T_szL_ok ?_
   simp only [go_sem]
   repeat (with_reducible refine And.intro (by first | omega | exact ⟨rfl, by omega, by omega, by omega⟩ | exact ⟨by omega, by omega⟩) ?_)
   refine hK5 _ ?_
   refine AWP_ret ?_
   simp only [hres, go_sem]
   first
     | exact finOk_mk (by rfl) (by decide)
     | refine ⟨?_, finOk_mk (by rfl) (by decide)⟩
       exact e1.symm
  ·
   intro c0
   try simp only [decide_eq_true_eq, decide_eq_false_iff_not, Bool.not_eq_true', Bool.not_eq_false', ne_eq, Int.not_lt, Int.not_le] at c0
   refine AWP_skip ?_
   simp only [go_sem]
   refine hK3 _ ?_
   refine AWP_seq_k fun K6 hK6 => ?_
   refine AWP_region (G := G) (T := T_szL) T_szL_ok ?_
   simp only [go_sem]
   repeat (with_reducible refine And.intro (by first | omega | exact ⟨rfl, by omega, by omega, by omega⟩ | exact ⟨by omega, by omega⟩) ?_)
   refine hK6 _ ?_
   refine AWP_ret ?_
   simp only [hres, go_sem]
   first
     | exact finOk_mk (by rfl) (by decide)
     | refine ⟨?_, finOk_mk (by rfl) (by decide)⟩
       rfl

theorem szN_fn : FnOk Try.prog 105 := fnOk_of Try.func105 rfl (by decide)

def T_szN : Tab := fun f => if f = 105 then some (.p K_szN) else T_szL f
theorem T_szN_ok : TabOk Try.prog T_szN := fun f k h => by
  unfold T_szN at h
  split at h
  · rename_i e; cases h; subst e; exact ⟨szN_ok, szN_fn⟩
  · exact T_szL_ok f k h
attribute [go_sem] T_szN K_szN


def K_szNs : Con := ⟨[.val ((.row 136 (.prod (.int .i64) (.prod (.int .i64) (.prod (.int .i64) (.row 2 (.int .i64))))))), .val (.int .i64)], [⟨.int .i64, true⟩], fun x => szOk x.2.1, fun x => szR (szNs x.1) x.2.1⟩
set_option maxRecDepth 100000 in
set_option maxHeartbeats 1000000 in
theorem szNs_ok : PureT Try.prog 56 K_szNs := by
  refine pure_of_body Try.func56 rfl ?_
  have hres : Try.f56.results.toList = [.tmp 4] := rfl
  rintro ⟨(xs : List NodeD), (lf : Int), _⟩ hc hL
  simp only [K_szNs, lensOk, PK.lenOk, glensOk, GP.lenOk, flensOk, GO.lenOk, olensOk, Ty.lenOk, Ty.flat, Bool.and_true, Bool.true_and, Bool.and_false, Bool.false_and, true_and, and_true, implies_true, forall_const] at hL
  obtain ⟨lxs, lxs2⟩ := hL
  simp only [K_szNs, St.init, St.initG, Try.ntmps56, go_sem] 
  obtain ⟨h1, h2⟩ := (show szOk lf from hc)
  have hw : IntKind.i64.wrap (lf - (xs.length : Int)) = lf - xs.length := wrapI (by omega)
  have htot : szNs xs = xs.length + cntA fromLen xs := rfl
  refine AWP_seq_k fun K1 hK1 => ?_
  refine AWP_region (G := G) (T := T_szN) T_szN_ok ?_
  simp only [go_sem]
  refine hK1 _ ?_
  refine AWP_seq_k fun K2 hK2 => ?_
  refine AWP_region (G := G) (T := T_szN) T_szN_ok ?_
  simp (maxSteps := 2000000) only [hw, go_sem]
  refine hK2 _ ?_
  refine AWP_seq_k fun K3 hK3 => ?_
  refine AWP_seq_k fun K4 hK4 => ?_
  refine AWP_region (G := G) (T := T_szN) T_szN_ok ?_
  simp only [go_sem]
  refine hK4 _ ?_
  refine AWP_cond rfl ?_ ?_
  ·
   intro c0
   try simp only [decide_eq_true_eq, decide_eq_false_iff_not, Bool.not_eq_true', Bool.not_eq_false', ne_eq, Int.not_lt, Int.not_le] at c0
   refine AWP_seq_k fun K5 hK5 => ?_
   refine AWP_region (G := G) (T := T_szN) T_szN_ok ?_
   simp only [go_sem]
   refine hK5 _ ?_
   refine AWP_ret ?_
   simp only [hres, go_sem]
   first
     | exact finOk_mk (by rfl) (by decide)
     | refine ⟨?_, finOk_mk (by rfl) (by decide)⟩
       exact (szR_t (by omega)).symm
  ·
   intro c0
   try simp only [decide_eq_true_eq, decide_eq_false_iff_not, Bool.not_eq_true', Bool.not_eq_false', ne_eq, Int.not_lt, Int.not_le] at c0
   refine AWP_skip ?_
   simp only [go_sem]
   refine hK3 _ ?_
   refine AWP_seq_k fun K6 hK6 => ?_
   refine AWP_seq_k fun K7 hK7 => ?_
   refine AWP_region (G := G) (T := T_szN) T_szN_ok ?_
   simp only [go_sem]
   refine hK7 _ ?_
   refine AWP_block ?_
   refine AWP_loop_k (ι := { k : Nat // k ≤ xs.length ∧ xs.length + cntA fromLen (xs.take k) ≤ lf.toNat }) (fun k => ⟨[.c (.rd [] 136 ((.prod (.int .i64) (.prod (.int .i64) (.prod (.int .i64) (.row 2 (.int .i64)))))) (xs)), .c (.sc (.int .i64 (lf - xs.length - (cntA fromLen (xs.take k.1) : Nat)))), zz, zz, zz, .c (.sc (.int .i64 (k.1))), zz, zz, zz, zz, zz, zz, zz, zz, zz, zz, zz, zz, zz, zz, zz, zz, zz, zz, zz, zz, zz], []⟩) (fun k => xs.length - k.1) ⟨0, by simp, by simp [cntA]; omega⟩ ?_ ?_
   ·
    refine Wk_to (by rfl) ?_
    simp (maxSteps := 2000000) only [go_sem]
    all_goals (first | rfl | (simp [cntA]; done) | ((repeat' refine And.intro ?_ ?_) <;> first | rfl | simp [cntA]))
   rintro ⟨k, hk, hp⟩ K8 hL8
   have hnx : k < xs.length → cntA fromLen (xs.take (k + 1)) = cntA fromLen (xs.take k) + fromLen (xs.getD k ((0, 0, 0, []) : NodeD)) := fun h => cntA_next _ h
   have hle : cntA fromLen (xs.take (k + 1)) ≤ cntA fromLen xs := cntA_take _
   have hfm : fromLen (xs.getD k ((0, 0, 0, []) : NodeD)) = List.length (xs.getD k ((0, 0, 0, []) : NodeD)).2.2.2 := rfl
   refine AWP_seq_k fun K9 hK9 => ?_
   refine AWP_seq_k fun K10 hK10 => ?_
   refine AWP_region (G := G) (T := T_szN) T_szN_ok ?_
   simp only [go_sem]
   refine hK10 _ ?_
   refine AWP_cond rfl ?_ ?_
   ·
    intro c1
    try simp only [decide_eq_true_eq, decide_eq_false_iff_not, Bool.not_eq_true', Bool.not_eq_false', ne_eq, Int.not_lt, Int.not_le] at c1
    refine AWP_skip ?_
    simp only [go_sem]
    refine hK9 _ ?_
    refine AWP_seq_k fun K11 hK11 => ?_
    refine AWP_block ?_
    refine AWP_seq_k fun K12 hK12 => ?_
    refine AWP_region (G := G) (T := T_szN) T_szN_ok ?_
    simp (maxSteps := 2000000) only [go_sem]
    repeat (with_reducible refine And.intro (by first | omega | exact ⟨rfl, by omega, by omega, by omega⟩ | exact ⟨by omega, by omega⟩) ?_)
    refine hK12 _ ?_
    refine AWP_seq_k fun K13 hK13 => ?_
    refine AWP_region (G := G) (T := T_szN) T_szN_ok ?_
    simp only [go_sem]
    refine hK13 _ ?_
    refine AWP_cond rfl ?_ ?_
    ·
     intro c2
     try simp only [decide_eq_true_eq, decide_eq_false_iff_not, Bool.not_eq_true', Bool.not_eq_false', ne_eq, Int.not_lt, Int.not_le] at c2
     have hq := hnx (by omega)
     obtain ⟨e1, e2⟩ := szR_lt (by omega) c2
     refine AWP_seq_k fun K14 hK14 => ?_
     refine AWP_region (G := G) (T := T_szN) T_szN_ok ?_
     simp only [go_sem]
     refine hK14 _ ?_
     refine AWP_ret ?_
     simp only [hres, go_sem]
     first
       | exact finOk_mk (by rfl) (by decide)
       | refine ⟨?_, finOk_mk (by rfl) (by decide)⟩
         exact (szR_t (by omega)).symm
    ·
     intro c2
     try simp only [decide_eq_true_eq, decide_eq_false_iff_not, Bool.not_eq_true', Bool.not_eq_false', ne_eq, Int.not_lt, Int.not_le] at c2
     have hq := hnx (by omega)
     obtain ⟨e1, e2⟩ := szR_ge' c2
     refine AWP_skip ?_
     simp only [go_sem]
     refine hK11 _ ?_
     refine AWP_region (G := G) (T := T_szN) T_szN_ok ?_
     simp only [go_sem]
     refine hL8 ⟨k + 1, by omega, by omega⟩ _ (Wk_to (by rfl) ?_) ?_
     ·
      simp (maxSteps := 2000000) only [go_sem]
      all_goals (first | rfl | ((repeat' refine And.intro ?_ ?_) <;> first | rfl | exact wk (by omega) | omega))
     ·
      first | (simp only []; omega) | omega | (simp; omega)
   ·
    intro c1
    try simp only [decide_eq_true_eq, decide_eq_false_iff_not, Bool.not_eq_true', Bool.not_eq_false', ne_eq, Int.not_lt, Int.not_le] at c1
    refine AWP_exit ?_
    simp only [go_sem]
    refine hK6 _ ?_
    refine AWP_seq_k fun K15 hK15 => ?_
    refine AWP_region (G := G) (T := T_szN) T_szN_ok ?_
    simp only [go_sem]
    refine hK15 _ ?_
    refine AWP_ret ?_
    simp only [hres, go_sem]
    first
      | exact finOk_mk (by rfl) (by decide)
      | refine ⟨?_, finOk_mk (by rfl) (by decide)⟩
        have hk3 : cntA fromLen (xs.take k) = cntA fromLen xs := by rw [List.take_of_length_le (by omega)]
        exact szR_f' (n := szNs xs) (l := lf) (by omega) (by omega)

theorem szNs_fn : FnOk Try.prog 56 := fnOk_of Try.func56 rfl (by decide)

def T_szNs : Tab := fun f => if f = 56 then some (.p K_szNs) else T_szN f
theorem T_szNs_ok : TabOk Try.prog T_szNs := fun f k h => by
  unfold T_szNs at h
  split at h
  · rename_i e; cases h; subst e; exact ⟨szNs_ok, szNs_fn⟩
  · exact T_szN_ok f k h
attribute [go_sem] T_szNs K_szNs


def K_szP : Con := ⟨[.val ((.prod (.int .i64) (.prod (.row 24 (.row 2 (.int .i64))) (.prod (.row 136 (.prod (.int .i64) (.prod (.int .i64) (.prod (.int .i64) (.row 2 (.int .i64)))))) (.row 2 (.int .i64)))))), .val (.int .i64)], [⟨.int .i64, true⟩], fun x => szOk x.2.1, fun x => szR (szP x.1) x.2.1⟩
set_option maxRecDepth 100000 in
set_option maxHeartbeats 1000000 in
theorem szP_ok : PureT Try.prog 11 K_szP := by
  refine pure_of_body Try.func11 rfl ?_
  have hres : Try.f11.results.toList = [.tmp 4] := rfl
  rintro ⟨⟨(pi : Int), (ts : List (List Int)), (ns : List NodeD), (os : List Int)⟩, (lf : Int), _⟩ hc hL
  simp only [K_szP, lensOk, PK.lenOk, glensOk, GP.lenOk, flensOk, GO.lenOk, olensOk, Ty.lenOk, Ty.flat, Bool.and_true, Bool.true_and, Bool.and_false, Bool.false_and, true_and, and_true, implies_true, forall_const] at hL
  simp only [K_szP, St.init, St.initG, Try.ntmps11, go_sem] 
  obtain ⟨h1, h2⟩ := (show szOk lf from hc)
  have htot : szP (pi, ts, ns, os) = szL ts + szNs ns + os.length := rfl
  refine AWP_seq_k fun K1 hK1 => ?_
  refine AWP_region (G := G) (T := T_szNs) T_szNs_ok ?_
  simp only [go_sem]
  repeat (with_reducible refine And.intro (by first | omega | exact ⟨rfl, by omega, by omega, by omega⟩ | exact ⟨by omega, by omega⟩) ?_)
  refine hK1 _ ?_
  refine AWP_seq_k fun K2 hK2 => ?_
  refine AWP_region (G := G) (T := T_szNs) T_szNs_ok ?_
  simp (maxSteps := 2000000) only [go_sem]
  repeat (with_reducible refine And.intro (by first | omega | exact ⟨rfl, by omega, by omega, by omega⟩ | exact ⟨by omega, by omega⟩) ?_)
  refine hK2 _ ?_
  refine AWP_seq_k fun K3 hK3 => ?_
  refine AWP_seq_k fun K4 hK4 => ?_
  refine AWP_region (G := G) (T := T_szNs) T_szNs_ok ?_
  simp only [go_sem]
  repeat (with_reducible refine And.intro (by first | omega | exact ⟨rfl, by omega, by omega, by omega⟩ | exact ⟨by omega, by omega⟩) ?_)
  refine hK4 _ ?_
  refine AWP_cond rfl ?_ ?_
  ·
   intro c0
   try simp only [decide_eq_true_eq, decide_eq_false_iff_not, Bool.not_eq_true', Bool.not_eq_false', ne_eq, Int.not_lt, Int.not_le] at c0
   obtain ⟨e1, e2⟩ := szR_lt (by omega) c0
   refine AWP_seq_k fun K5 hK5 => ?_
   refine AWP_region (G := G) (T := T_szNs) T_szNs_ok ?_
   simp only [go_sem]
   repeat (with_reducible refine And.intro (by first | omega | exact ⟨rfl, by omega, by omega, by omega⟩ | exact ⟨by omega, by omega⟩) ?_)
   refine hK5 _ ?_
   refine AWP_ret ?_
   simp only [hres, go_sem]
   first
     | exact finOk_mk (by rfl) (by decide)
     | refine ⟨?_, finOk_mk (by rfl) (by decide)⟩
       first | exact (szR_t (n := szP (pi, ts, ns, os)) (l := lf) (by omega)).symm | exact szR_f' (n := szP (pi, ts, ns, os)) (l := lf) (by omega) (by omega)
  ·
   intro c0
   try simp only [decide_eq_true_eq, decide_eq_false_iff_not, Bool.not_eq_true', Bool.not_eq_false', ne_eq, Int.not_lt, Int.not_le] at c0
   obtain ⟨e1, e2⟩ := szR_ge' c0
   refine AWP_skip ?_
   simp only [go_sem]
   refine hK3 _ ?_
   refine AWP_seq_k fun K6 hK6 => ?_
   refine AWP_region (G := G) (T := T_szNs) T_szNs_ok ?_
   simp (maxSteps := 2000000) only [go_sem]
   repeat (with_reducible refine And.intro (by first | omega | exact ⟨rfl, by omega, by omega, by omega⟩ | exact ⟨by omega, by omega⟩) ?_)
   refine hK6 _ ?_
   refine AWP_seq_k fun K7 hK7 => ?_
   refine AWP_seq_k fun K8 hK8 => ?_
   refine AWP_region (G := G) (T := T_szNs) T_szNs_ok ?_
   simp only [go_sem]
   repeat (with_reducible refine And.intro (by first | omega | exact ⟨rfl, by omega, by omega, by omega⟩ | exact ⟨by omega, by omega⟩) ?_)
   refine hK8 _ ?_
   refine AWP_cond rfl ?_ ?_
   ·
    intro c1
    try simp only [decide_eq_true_eq, decide_eq_false_iff_not, Bool.not_eq_true', Bool.not_eq_false', ne_eq, Int.not_lt, Int.not_le] at c1
    obtain ⟨e3, e4⟩ := szR_lt (by omega) c1
    refine AWP_seq_k fun K9 hK9 => ?_
    refine AWP_region (G := G) (T := T_szNs) T_szNs_ok ?_
    simp only [go_sem]
    repeat (with_reducible refine And.intro (by first | omega | exact ⟨rfl, by omega, by omega, by omega⟩ | exact ⟨by omega, by omega⟩) ?_)
    refine hK9 _ ?_
    refine AWP_ret ?_
    simp only [hres, go_sem]
    first
      | exact finOk_mk (by rfl) (by decide)
      | refine ⟨?_, finOk_mk (by rfl) (by decide)⟩
        first | exact (szR_t (n := szP (pi, ts, ns, os)) (l := lf) (by omega)).symm | exact szR_f' (n := szP (pi, ts, ns, os)) (l := lf) (by omega) (by omega)
   ·
    intro c1
    try simp only [decide_eq_true_eq, decide_eq_false_iff_not, Bool.not_eq_true', Bool.not_eq_false', ne_eq, Int.not_lt, Int.not_le] at c1
    obtain ⟨e3, e4⟩ := szR_ge' c1
    refine AWP_skip ?_
    simp only [go_sem]
    refine hK7 _ ?_
    refine AWP_seq_k fun K10 hK10 => ?_
    refine AWP_region (G := G) (T := T_szNs) T_szNs_ok ?_
    simp (maxSteps := 2000000) only [go_sem]
    repeat (with_reducible refine And.intro (by first | omega | exact ⟨rfl, by omega, by omega, by omega⟩ | exact ⟨by omega, by omega⟩) ?_)
    refine hK10 _ ?_
    refine AWP_seq_k fun K11 hK11 => ?_
    refine AWP_seq_k fun K12 hK12 => ?_
    refine AWP_region (G := G) (T := T_szNs) T_szNs_ok ?_
    simp only [go_sem]
    repeat (with_reducible refine And.intro (by first | omega | exact ⟨rfl, by omega, by omega, by omega⟩ | exact ⟨by omega, by omega⟩) ?_)
    refine hK12 _ ?_
    refine AWP_cond rfl ?_ ?_
    ·
     intro c2
     try simp only [decide_eq_true_eq, decide_eq_false_iff_not, Bool.not_eq_true', Bool.not_eq_false', ne_eq, Int.not_lt, Int.not_le] at c2
     obtain ⟨e5, e6⟩ := szR_lt (by omega) c2
     refine AWP_seq_k fun K13 hK13 => ?_
     refine AWP_region (G := G) (T := T_szNs) T_szNs_ok ?_
     simp only [go_sem]
     repeat (with_reducible refine And.intro (by first | omega | exact ⟨rfl, by omega, by omega, by omega⟩ | exact ⟨by omega, by omega⟩) ?_)
     refine hK13 _ ?_
     refine AWP_ret ?_
     simp only [hres, go_sem]
     first
       | exact finOk_mk (by rfl) (by decide)
       | refine ⟨?_, finOk_mk (by rfl) (by decide)⟩
         first | exact (szR_t (n := szP (pi, ts, ns, os)) (l := lf) (by omega)).symm | exact szR_f' (n := szP (pi, ts, ns, os)) (l := lf) (by omega) (by omega)
    ·
     intro c2
     try simp only [decide_eq_true_eq, decide_eq_false_iff_not, Bool.not_eq_true', Bool.not_eq_false', ne_eq, Int.not_lt, Int.not_le] at c2
     obtain ⟨e5, e6⟩ := szR_ge' c2
     refine AWP_skip ?_
     simp only [go_sem]
     refine hK11 _ ?_
     refine AWP_seq_k fun K14 hK14 => ?_
     refine AWP_region (G := G) (T := T_szNs) T_szNs_ok ?_
     simp only [go_sem]
     repeat (with_reducible refine And.intro (by first | omega | exact ⟨rfl, by omega, by omega, by omega⟩ | exact ⟨by omega, by omega⟩) ?_)
     refine hK14 _ ?_
     refine AWP_ret ?_
     simp only [hres, go_sem]
     first
       | exact finOk_mk (by rfl) (by decide)
       | refine ⟨?_, finOk_mk (by rfl) (by decide)⟩
         first | exact (szR_t (n := szP (pi, ts, ns, os)) (l := lf) (by omega)).symm | exact szR_f' (n := szP (pi, ts, ns, os)) (l := lf) (by omega) (by omega)

theorem szP_fn : FnOk Try.prog 11 := fnOk_of Try.func11 rfl (by decide)

def T_szP : Tab := fun f => if f = 11 then some (.p K_szP) else T_szNs f
theorem T_szP_ok : TabOk Try.prog T_szP := fun f k h => by
  unfold T_szP at h
  split at h
  · rename_i e; cases h; subst e; exact ⟨szP_ok, szP_fn⟩
  · exact T_szNs_ok f k h
attribute [go_sem] T_szP K_szP


def K_toI : Con := ⟨[.val ((.row 2 (.int .i64)))], [⟨(.row 2 (.int .i64)), true⟩], fun x => x.1.length ≤ 1099511627776, fun x => x.1⟩
set_option maxRecDepth 100000 in
set_option maxHeartbeats 1000000 in
theorem toI_ok : PureT Try.prog 16 K_toI := by
  refine pure_of_body Try.func16 rfl ?_
  have hres : Try.f16.results.toList = [.tmp 2] := rfl
  rintro ⟨(xs : List Int), _⟩ hc hL
  simp only [K_toI, lensOk, PK.lenOk, glensOk, GP.lenOk, flensOk, GO.lenOk, olensOk, Ty.lenOk, Ty.flat, Bool.and_true, Bool.true_and, Bool.and_false, Bool.false_and, true_and, and_true, implies_true, forall_const] at hL
  simp only [K_toI, St.init, St.initG, Try.ntmps16, go_sem] 
  have hx : xs.length ≤ 1099511627776 := hc
  refine AWP_seq_k fun K1 hK1 => ?_
  refine AWP_region (G := G) (T := T_szP) T_szP_ok ?_
  simp only [go_sem]
  refine hK1 _ ?_
  refine AWP_seq_k fun K2 hK2 => ?_
  refine AWP_region (G := G) (T := T_szP) T_szP_ok ?_
  simp only [List.nodup_nil, go_sem]
  repeat (with_reducible refine And.intro (by first | omega | exact ⟨rfl, by omega, by omega, by omega⟩) ?_)
  refine hK2 _ ?_
  refine AWP_seq_k fun K3 hK3 => ?_
  refine AWP_seq_k fun K4 hK4 => ?_
  refine AWP_region (G := G) (T := T_szP) T_szP_ok ?_
  simp only [go_sem]
  refine hK4 _ ?_
  refine AWP_block ?_
  refine AWP_loop_k (ι := { k : Nat // k ≤ xs.length }) (fun k => ⟨[.c (.rd [] 2 (.int .i64) (xs)), zz, zz, .c (.ow 212), .c (.sc (.int .i64 (k.1))), zz, zz, zz, zz, zz, zz, zz, zz, zz, zz, zz, zz, zz, zz, zz, zz, zz], [(212, .row 2 (.int .i64) (fillT (0 : Int) xs k.1) [])]⟩) (fun k => xs.length - k.1) ⟨0, by simp⟩ ?_ ?_
  ·
   refine Wk_to (by rfl) ?_
   simp (maxSteps := 2000000) only [go_sem]
   all_goals (first | rfl | ((repeat' refine And.intro ?_ ?_) <;> first | rfl | exact fillT_zero.symm | (rw [fillT_zero]; simp)))
  rintro ⟨k, hk⟩ K5 hL5
  have hfl : (fillT (0 : Int) xs k).length = xs.length := fillT_len hk
  have hft : k < xs.length → (fillT (0 : Int) xs k).set k (xs.getD k (0 : Int)) = fillT (0 : Int) xs (k + 1) := fun h => fillT_set _ h
  refine AWP_seq_k fun K6 hK6 => ?_
  refine AWP_seq_k fun K7 hK7 => ?_
  refine AWP_region (G := G) (T := T_szP) T_szP_ok ?_
  simp only [go_sem]
  refine hK7 _ ?_
  refine AWP_cond rfl ?_ ?_
  ·
   intro c0
   try simp only [decide_eq_true_eq, decide_eq_false_iff_not, Bool.not_eq_true', Bool.not_eq_false', ne_eq, Int.not_lt, Int.not_le] at c0
   refine AWP_skip ?_
   simp only [go_sem]
   refine hK6 _ ?_
   refine AWP_seq_k fun K8 hK8 => ?_
   refine AWP_block ?_
   refine AWP_region (G := G) (T := T_szP) T_szP_ok ?_
   simp (maxSteps := 2000000) only [go_sem]
   repeat (with_reducible refine And.intro (by first | omega | exact ⟨rfl, by omega, by omega, by omega⟩) ?_)
   refine hK8 _ ?_
   refine AWP_region (G := G) (T := T_szP) T_szP_ok ?_
   simp only [go_sem]
   refine hL5 ⟨k + 1, by omega⟩ _ (Wk_to (by rfl) ?_) ?_
   ·
    simp (maxSteps := 2000000) only [go_sem]
    all_goals (first | rfl | exact wk (by omega) | ((repeat' refine And.intro ?_ ?_) <;> first | rfl | exact wk (by omega) | exact hft (by omega) | (congr 1; exact hft (by omega))))
   ·
    first | (simp only []; omega) | omega | (simp; omega)
  ·
   intro c0
   try simp only [decide_eq_true_eq, decide_eq_false_iff_not, Bool.not_eq_true', Bool.not_eq_false', ne_eq, Int.not_lt, Int.not_le] at c0
   refine AWP_exit ?_
   simp only [go_sem]
   refine hK3 _ ?_
   refine AWP_seq_k fun K9 hK9 => ?_
   refine AWP_region (G := G) (T := T_szP) T_szP_ok ?_
   simp only [go_sem]
   refine hK9 _ ?_
   refine AWP_ret ?_
   simp only [hres, go_sem]
   first
     | exact finOk_mk (by rfl) (by decide)
     | refine ⟨?_, finOk_mk (by rfl) (by decide)⟩
       exact fillT_all (by omega)

theorem toI_fn : FnOk Try.prog 16 := fnOk_of Try.func16 rfl (by decide)

def T_toI : Tab := fun f => if f = 16 then some (.p K_toI) else T_szP f
theorem T_toI_ok : TabOk Try.prog T_toI := fun f k h => by
  unfold T_toI at h
  split at h
  · rename_i e; cases h; subst e; exact ⟨toI_ok, toI_fn⟩
  · exact T_szP_ok f k h
attribute [go_sem] T_toI K_toI


def K_toL : Con := ⟨[.val ((.row 24 (.row 2 (.int .i64))))], [⟨(.row 24 (.row 2 (.int .i64))), true⟩], fun x => fitsL x.1, fun x => x.1⟩
set_option maxRecDepth 100000 in
set_option maxHeartbeats 1000000 in
theorem toL_ok : PureT Try.prog 28 K_toL := by
  refine pure_of_body Try.func28 rfl ?_
  have hres : Try.f28.results.toList = [.tmp 2] := rfl
  rintro ⟨(xs : List (List Int)), _⟩ hc hL
  simp only [K_toL, lensOk, PK.lenOk, glensOk, GP.lenOk, flensOk, GO.lenOk, olensOk, Ty.lenOk, Ty.flat, Bool.and_true, Bool.true_and, Bool.and_false, Bool.false_and, true_and, and_true, implies_true, forall_const] at hL
  simp only [K_toL, St.init, St.initG, Try.ntmps28, go_sem] 
  obtain ⟨hx, hy⟩ := (show fitsL xs from hc)
  refine AWP_seq_k fun K1 hK1 => ?_
  refine AWP_region (G := G) (T := T_toI) T_toI_ok ?_
  simp only [go_sem]
  refine hK1 _ ?_
  refine AWP_seq_k fun K2 hK2 => ?_
  refine AWP_region (G := G) (T := T_toI) T_toI_ok ?_
  simp only [List.nodup_nil, go_sem]
  repeat (with_reducible refine And.intro (by first | omega | exact ⟨rfl, by omega, by omega, by omega⟩) ?_)
  refine hK2 _ ?_
  refine AWP_seq_k fun K3 hK3 => ?_
  refine AWP_seq_k fun K4 hK4 => ?_
  refine AWP_region (G := G) (T := T_toI) T_toI_ok ?_
  simp only [go_sem]
  refine hK4 _ ?_
  refine AWP_block ?_
  refine AWP_loop_k (ι := { k : Nat // k ≤ xs.length }) (fun k => ⟨[.c (.rd [] 24 (.row 2 (.int .i64)) (xs)), zz, zz, .c (.ow 212), .c (.sc (.int .i64 (k.1))), zz, zz, zz, zz, zz, zz, zz, zz, zz, zz, zz, zz, zz, zz, zz, zz, zz, zz], [(212, .tree 24 (.row 2 (.int .i64)) (fillT ([] : List Int) xs k.1) none)]⟩) (fun k => xs.length - k.1) ⟨0, by simp⟩ ?_ ?_
  ·
   refine Wk_to (by rfl) ?_
   simp (maxSteps := 2000000) only [go_sem]
   all_goals (first | rfl | ((repeat' refine And.intro ?_ ?_) <;> first | rfl | exact fillT_zero.symm | (rw [fillT_zero]; simp)))
  rintro ⟨k, hk⟩ K5 hL5
  have hfl : (fillT ([] : List Int) xs k).length = xs.length := fillT_len hk
  have hft : k < xs.length → (fillT ([] : List Int) xs k).set k (xs.getD k ([] : List Int)) = fillT ([] : List Int) xs (k + 1) := fun h => fillT_set _ h
  have hyk : k < xs.length → (xs.getD k []).length ≤ 1099511627776 := fun h => hy _ (getD_mem h)
  refine AWP_seq_k fun K6 hK6 => ?_
  refine AWP_seq_k fun K7 hK7 => ?_
  refine AWP_region (G := G) (T := T_toI) T_toI_ok ?_
  simp only [go_sem]
  refine hK7 _ ?_
  refine AWP_cond rfl ?_ ?_
  ·
   intro c0
   try simp only [decide_eq_true_eq, decide_eq_false_iff_not, Bool.not_eq_true', Bool.not_eq_false', ne_eq, Int.not_lt, Int.not_le] at c0
   refine AWP_skip ?_
   simp only [go_sem]
   refine hK6 _ ?_
   refine AWP_seq_k fun K8 hK8 => ?_
   refine AWP_block ?_
   refine AWP_region (G := G) (T := T_toI) T_toI_ok ?_
   simp (maxSteps := 2000000) only [List.nodup_cons, List.nodup_nil, List.not_mem_nil, not_false_eq_true, go_sem]
   repeat (with_reducible refine And.intro (by first | omega | exact ⟨rfl, by omega, by omega, by omega⟩ | exact hyk (by omega)) ?_)
   refine hK8 _ ?_
   refine AWP_region (G := G) (T := T_toI) T_toI_ok ?_
   simp only [go_sem]
   refine hL5 ⟨k + 1, by omega⟩ _ (Wk_to (by rfl) ?_) ?_
   ·
    simp (maxSteps := 2000000) only [go_sem]
    all_goals (first | rfl | exact wk (by omega) | ((repeat' refine And.intro ?_ ?_) <;> first | rfl | exact wk (by omega) | exact hft (by omega) | (congr 1; exact hft (by omega))))
   ·
    first | (simp only []; omega) | omega | (simp; omega)
  ·
   intro c0
   try simp only [decide_eq_true_eq, decide_eq_false_iff_not, Bool.not_eq_true', Bool.not_eq_false', ne_eq, Int.not_lt, Int.not_le] at c0
   refine AWP_exit ?_
   simp only [go_sem]
   refine hK3 _ ?_
   refine AWP_seq_k fun K9 hK9 => ?_
   refine AWP_region (G := G) (T := T_toI) T_toI_ok ?_
   simp only [go_sem]
   refine hK9 _ ?_
   refine AWP_ret ?_
   simp only [hres, go_sem]
   first
     | exact finOk_mk (by rfl) (by decide)
     | refine ⟨?_, finOk_mk (by rfl) (by decide)⟩
       exact fillT_all (by omega)

theorem toL_fn : FnOk Try.prog 28 := fnOk_of Try.func28 rfl (by decide)

def T_toL : Tab := fun f => if f = 28 then some (.p K_toL) else T_toI f
theorem T_toL_ok : TabOk Try.prog T_toL := fun f k h => by
  unfold T_toL at h
  split at h
  · rename_i e; cases h; subst e; exact ⟨toL_ok, toL_fn⟩
  · exact T_toI_ok f k h
attribute [go_sem] T_toL K_toL


def K_toN : Con := ⟨[.val ((.prod (.int .i64) (.prod (.int .i64) (.prod (.int .i64) (.row 2 (.int .i64))))))], [⟨(.prod (.int .i64) (.prod (.int .i64) (.prod (.int .i64) (.row 2 (.int .i64))))), true⟩], fun x => x.1.2.2.2.length ≤ 1099511627776, fun x => x.1⟩
set_option maxRecDepth 100000 in
set_option maxHeartbeats 1000000 in
theorem toN_ok : PureT Try.prog 112 K_toN := by
  refine pure_of_body Try.func112 rfl ?_
  have hres : Try.f112.results.toList = [.cell 2 140] := rfl
  rintro ⟨⟨(kd : Int), (a : Int), (bb : Int), (fr : List Int)⟩, _⟩ hc hL
  simp only [K_toN, lensOk, PK.lenOk, glensOk, GP.lenOk, flensOk, GO.lenOk, olensOk, Ty.lenOk, Ty.flat, Bool.and_true, Bool.true_and, Bool.and_false, Bool.false_and, true_and, and_true, implies_true, forall_const] at hL
  simp only [K_toN, St.init, St.initG, Try.ntmps112, go_sem] 
  have hx : fr.length ≤ 1099511627776 := hc
  refine AWP_seq_k fun K1 hK1 => ?_
  refine AWP_region (G := G) (T := T_toL) T_toL_ok ?_
  simp only [go_sem]
  refine hK1 _ ?_
  refine AWP_seq_k fun K2 hK2 => ?_
  refine AWP_region (G := G) (T := T_toL) T_toL_ok ?_
  simp only [go_sem]
  refine hK2 _ ?_
  refine AWP_seq_k fun K3 hK3 => ?_
  refine AWP_region (G := G) (T := T_toL) T_toL_ok ?_
  simp only [go_sem]
  repeat (with_reducible refine And.intro (by first | omega | exact ⟨rfl, by omega, by omega, by omega⟩) ?_)
  refine hK3 _ ?_
  refine AWP_seq_k fun K4 hK4 => ?_
  refine AWP_region (G := G) (T := T_toL) T_toL_ok ?_
  simp only [go_sem]
  repeat (with_reducible refine And.intro (by first | omega | exact ⟨rfl, by omega, by omega, by omega⟩) ?_)
  refine hK4 _ ?_
  refine AWP_seq_k fun K5 hK5 => ?_
  refine AWP_region (G := G) (T := T_toL) T_toL_ok ?_
  simp only [go_sem]
  repeat (with_reducible refine And.intro (by first | omega | exact ⟨rfl, by omega, by omega, by omega⟩) ?_)
  refine hK5 _ ?_
  refine AWP_seq_k fun K6 hK6 => ?_
  refine AWP_region (G := G) (T := T_toL) T_toL_ok ?_
  simp (maxSteps := 2000000) only [go_sem]
  repeat (with_reducible refine And.intro (by first | omega | exact ⟨rfl, by omega, by omega, by omega⟩) ?_)
  refine hK6 _ ?_
  refine AWP_seq_k fun K7 hK7 => ?_
  refine AWP_region (G := G) (T := T_toL) T_toL_ok ?_
  simp only [go_sem]
  repeat (with_reducible refine And.intro (by first | omega | exact ⟨rfl, by omega, by omega, by omega⟩) ?_)
  refine hK7 _ ?_
  refine AWP_ret ?_
  simp only [hres, go_sem]
  first
    | exact finOk_mk (by rfl) (by decide)
    | refine ⟨?_, finOk_mk (by rfl) (by decide)⟩
      rfl

theorem toN_fn : FnOk Try.prog 112 := fnOk_of Try.func112 rfl (by decide)

def T_toN : Tab := fun f => if f = 112 then some (.p K_toN) else T_toL f
theorem T_toN_ok : TabOk Try.prog T_toN := fun f k h => by
  unfold T_toN at h
  split at h
  · rename_i e; cases h; subst e; exact ⟨toN_ok, toN_fn⟩
  · exact T_toL_ok f k h
attribute [go_sem] T_toN K_toN


def K_toNs : Con := ⟨[.val ((.row 136 (.prod (.int .i64) (.prod (.int .i64) (.prod (.int .i64) (.row 2 (.int .i64)))))))], [⟨(.row 140 (.prod (.int .i64) (.prod (.int .i64) (.prod (.int .i64) (.row 2 (.int .i64)))))), true⟩], fun x => fitsN x.1, fun x => x.1⟩
set_option maxRecDepth 100000 in
set_option maxHeartbeats 1000000 in
theorem toNs_ok : PureT Try.prog 63 K_toNs := by
  refine pure_of_body Try.func63 rfl ?_
  have hres : Try.f63.results.toList = [.tmp 2] := rfl
  rintro ⟨(xs : List NodeD), _⟩ hc hL
  simp only [K_toNs, lensOk, PK.lenOk, glensOk, GP.lenOk, flensOk, GO.lenOk, olensOk, Ty.lenOk, Ty.flat, Bool.and_true, Bool.true_and, Bool.and_false, Bool.false_and, true_and, and_true, implies_true, forall_const] at hL
  simp only [K_toNs, St.init, St.initG, Try.ntmps63, go_sem] 
  obtain ⟨hx, hy⟩ := (show fitsN xs from hc)
  refine AWP_seq_k fun K1 hK1 => ?_
  refine AWP_region (G := G) (T := T_toN) T_toN_ok ?_
  simp only [go_sem]
  refine hK1 _ ?_
  refine AWP_seq_k fun K2 hK2 => ?_
  refine AWP_region (G := G) (T := T_toN) T_toN_ok ?_
  simp only [List.nodup_nil, go_sem]
  repeat (with_reducible refine And.intro (by first | omega | exact ⟨rfl, by omega, by omega, by omega⟩) ?_)
  refine hK2 _ ?_
  refine AWP_seq_k fun K3 hK3 => ?_
  refine AWP_seq_k fun K4 hK4 => ?_
  refine AWP_region (G := G) (T := T_toN) T_toN_ok ?_
  simp only [go_sem]
  refine hK4 _ ?_
  refine AWP_block ?_
  refine AWP_loop_k (ι := { k : Nat // k ≤ xs.length }) (fun k => ⟨[.c (.rd [] 136 ((.prod (.int .i64) (.prod (.int .i64) (.prod (.int .i64) (.row 2 (.int .i64)))))) (xs)), zz, zz, .c (.ow 212), .c (.sc (.int .i64 (k.1))), zz, zz, zz, zz, zz, zz, zz, zz, zz, zz, zz, zz, zz, zz, zz, zz, zz, zz], [(212, .tree 140 (.prod (.int .i64) (.prod (.int .i64) (.prod (.int .i64) (.row 2 (.int .i64))))) (fillT ((0, 0, 0, []) : NodeD) xs k.1) none)]⟩) (fun k => xs.length - k.1) ⟨0, by simp⟩ ?_ ?_
  ·
   refine Wk_to (by rfl) ?_
   simp (maxSteps := 2000000) only [go_sem]
   all_goals (first | rfl | ((repeat' refine And.intro ?_ ?_) <;> first | rfl | exact fillT_zero.symm | (rw [fillT_zero]; simp)))
  rintro ⟨k, hk⟩ K5 hL5
  have hfl : (fillT ((0, 0, 0, []) : NodeD) xs k).length = xs.length := fillT_len hk
  have hft : k < xs.length → (fillT ((0, 0, 0, []) : NodeD) xs k).set k (xs.getD k ((0, 0, 0, []) : NodeD)) = fillT ((0, 0, 0, []) : NodeD) xs (k + 1) := fun h => fillT_set _ h
  have hyk : k < xs.length → (xs.getD k ((0, 0, 0, []) : NodeD)).2.2.2.length ≤ 1099511627776 := fun h => hy _ (getD_mem h)
  refine AWP_seq_k fun K6 hK6 => ?_
  refine AWP_seq_k fun K7 hK7 => ?_
  refine AWP_region (G := G) (T := T_toN) T_toN_ok ?_
  simp only [go_sem]
  refine hK7 _ ?_
  refine AWP_cond rfl ?_ ?_
  ·
   intro c0
   try simp only [decide_eq_true_eq, decide_eq_false_iff_not, Bool.not_eq_true', Bool.not_eq_false', ne_eq, Int.not_lt, Int.not_le] at c0
   refine AWP_skip ?_
   simp only [go_sem]
   refine hK6 _ ?_
   refine AWP_seq_k fun K8 hK8 => ?_
   refine AWP_block ?_
   refine AWP_region (G := G) (T := T_toN) T_toN_ok ?_
   simp (maxSteps := 2000000) only [List.nodup_cons, List.nodup_nil, List.not_mem_nil, not_false_eq_true, go_sem]
   repeat (with_reducible refine And.intro (by first | omega | exact ⟨rfl, by omega, by omega, by omega⟩ | exact hyk (by omega)) ?_)
   refine hK8 _ ?_
   refine AWP_region (G := G) (T := T_toN) T_toN_ok ?_
   simp only [go_sem]
   refine hL5 ⟨k + 1, by omega⟩ _ (Wk_to (by rfl) ?_) ?_
   ·
    simp (maxSteps := 2000000) only [go_sem]
    all_goals (first | rfl | exact wk (by omega) | ((repeat' refine And.intro ?_ ?_) <;> first | rfl | exact wk (by omega) | exact hft (by omega) | (congr 1; exact hft (by omega))))
   ·
    first | (simp only []; omega) | omega | (simp; omega)
  ·
   intro c0
   try simp only [decide_eq_true_eq, decide_eq_false_iff_not, Bool.not_eq_true', Bool.not_eq_false', ne_eq, Int.not_lt, Int.not_le] at c0
   refine AWP_exit ?_
   simp only [go_sem]
   refine hK3 _ ?_
   refine AWP_seq_k fun K9 hK9 => ?_
   refine AWP_region (G := G) (T := T_toN) T_toN_ok ?_
   simp only [go_sem]
   refine hK9 _ ?_
   refine AWP_ret ?_
   simp only [hres, go_sem]
   first
     | exact finOk_mk (by rfl) (by decide)
     | refine ⟨?_, finOk_mk (by rfl) (by decide)⟩
       exact fillT_all (by omega)

theorem toNs_fn : FnOk Try.prog 63 := fnOk_of Try.func63 rfl (by decide)

def T_toNs : Tab := fun f => if f = 63 then some (.p K_toNs) else T_toN f
theorem T_toNs_ok : TabOk Try.prog T_toNs := fun f k h => by
  unfold T_toNs at h
  split at h
  · rename_i e; cases h; subst e; exact ⟨toNs_ok, toNs_fn⟩
  · exact T_toN_ok f k h
attribute [go_sem] T_toNs K_toNs


def K_toP : Con := ⟨[.val ((.prod (.int .i64) (.prod (.row 24 (.row 2 (.int .i64))) (.prod (.row 136 (.prod (.int .i64) (.prod (.int .i64) (.prod (.int .i64) (.row 2 (.int .i64)))))) (.row 2 (.int .i64))))))], [⟨(.prod (.int .i64) (.prod (.row 24 (.row 2 (.int .i64))) (.prod (.row 140 (.prod (.int .i64) (.prod (.int .i64) (.prod (.int .i64) (.row 2 (.int .i64)))))) (.row 2 (.int .i64))))), true⟩], fun x => fitsP x.1, fun x => x.1⟩
set_option maxRecDepth 100000 in
set_option maxHeartbeats 1000000 in
theorem toP_ok : PureT Try.prog 14 K_toP := by
  refine pure_of_body Try.func14 rfl ?_
  have hres : Try.f14.results.toList = [.cell 2 36] := rfl
  rintro ⟨⟨(pi : Int), (ts : List (List Int)), (ns : List NodeD), (os : List Int)⟩, _⟩ hc hL
  simp only [K_toP, lensOk, PK.lenOk, glensOk, GP.lenOk, flensOk, GO.lenOk, olensOk, Ty.lenOk, Ty.flat, Bool.and_true, Bool.true_and, Bool.and_false, Bool.false_and, true_and, and_true, implies_true, forall_const] at hL
  simp only [K_toP, St.init, St.initG, Try.ntmps14, go_sem] 
  obtain ⟨hx, hy, hz⟩ := (show fitsP (pi, ts, ns, os) from hc)
  refine AWP_seq_k fun K1 hK1 => ?_
  refine AWP_region (G := G) (T := T_toNs) T_toNs_ok ?_
  simp only [go_sem]
  repeat (with_reducible refine And.intro (by first | omega | exact ⟨rfl, by omega, by omega, by omega⟩ | assumption) ?_)
  refine hK1 _ ?_
  refine AWP_seq_k fun K2 hK2 => ?_
  refine AWP_region (G := G) (T := T_toNs) T_toNs_ok ?_
  simp only [go_sem]
  repeat (with_reducible refine And.intro (by first | omega | exact ⟨rfl, by omega, by omega, by omega⟩ | assumption) ?_)
  refine hK2 _ ?_
  refine AWP_seq_k fun K3 hK3 => ?_
  refine AWP_region (G := G) (T := T_toNs) T_toNs_ok ?_
  simp only [go_sem]
  repeat (with_reducible refine And.intro (by first | omega | exact ⟨rfl, by omega, by omega, by omega⟩ | assumption) ?_)
  refine hK3 _ ?_
  refine AWP_seq_k fun K4 hK4 => ?_
  refine AWP_region (G := G) (T := T_toNs) T_toNs_ok ?_
  simp (maxSteps := 2000000) only [go_sem]
  repeat (with_reducible refine And.intro (by first | omega | exact ⟨rfl, by omega, by omega, by omega⟩ | assumption) ?_)
  refine hK4 _ ?_
  refine AWP_seq_k fun K5 hK5 => ?_
  refine AWP_region (G := G) (T := T_toNs) T_toNs_ok ?_
  simp (maxSteps := 2000000) only [go_sem]
  repeat (with_reducible refine And.intro (by first | omega | exact ⟨rfl, by omega, by omega, by omega⟩ | assumption) ?_)
  refine hK5 _ ?_
  refine AWP_seq_k fun K6 hK6 => ?_
  refine AWP_region (G := G) (T := T_toNs) T_toNs_ok ?_
  simp (maxSteps := 2000000) only [go_sem]
  repeat (with_reducible refine And.intro (by first | omega | exact ⟨rfl, by omega, by omega, by omega⟩ | assumption) ?_)
  refine hK6 _ ?_
  refine AWP_seq_k fun K7 hK7 => ?_
  refine AWP_region (G := G) (T := T_toNs) T_toNs_ok ?_
  simp only [go_sem]
  repeat (with_reducible refine And.intro (by first | omega | exact ⟨rfl, by omega, by omega, by omega⟩ | assumption) ?_)
  refine hK7 _ ?_
  refine AWP_ret ?_
  simp only [hres, go_sem]
  first
    | exact finOk_mk (by rfl) (by decide)
    | refine ⟨?_, finOk_mk (by rfl) (by decide)⟩
      rfl

theorem toP_fn : FnOk Try.prog 14 := fnOk_of Try.func14 rfl (by decide)

def T_toP : Tab := fun f => if f = 14 then some (.p K_toP) else T_toNs f
theorem T_toP_ok : TabOk Try.prog T_toP := fun f k h => by
  unfold T_toP at h
  split at h
  · rename_i e; cases h; subst e; exact ⟨toP_ok, toP_fn⟩
  · exact T_toNs_ok f k h
attribute [go_sem] T_toP K_toP

end Go.Proofs.Ythglggjgjlmhlaa
