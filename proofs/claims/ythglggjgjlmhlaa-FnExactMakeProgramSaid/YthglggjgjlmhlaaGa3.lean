/-
  Contracts of functions: areTables, areIndices, waitsFor.
-/
import Derived.Test.YthglggjgjlmhlaaGa1
namespace Go.Proofs.Ythglggjgjlmhlaa
open Go.RowKit
set_option linter.unusedSimpArgs false
set_option linter.unusedVariables false

def K_areTables : Con := ⟨[.val ((.row 24 (.row 2 (.int .i64))))], [⟨.bool, true⟩], fun _ => True, fun x => tabsB x.1⟩
set_option maxRecDepth 100000 in
set_option maxHeartbeats 1000000 in
theorem areTables_ok : PureT Try.prog 165 K_areTables := by
  refine pure_of_body Try.func165 rfl ?_
  have hres : Try.f165.results.toList = [.tmp 2] := rfl
  rintro ⟨(xs : List (List Int)), _⟩ hc hL
  simp only [K_areTables, lensOk, PK.lenOk, glensOk, GP.lenOk, flensOk, GO.lenOk, olensOk, Ty.lenOk, Ty.flat, Bool.and_true, Bool.true_and, Bool.and_false, Bool.false_and, true_and, and_true, implies_true, forall_const] at hL
  obtain ⟨lxs, lxs2⟩ := hL
  simp only [K_areTables, St.init, St.initG, Try.ntmps165, go_sem] 
  refine AWP_seq_k fun K1 hK1 => ?_
  refine AWP_region (G := G) (T := T_kinds) T_kinds_ok ?_
  simp only [go_sem]
  refine hK1 _ ?_
  refine AWP_seq_k fun K2 hK2 => ?_
  refine AWP_seq_k fun K3 hK3 => ?_
  refine AWP_region (G := G) (T := T_kinds) T_kinds_ok ?_
  simp only [go_sem]
  refine hK3 _ ?_
  refine AWP_block ?_
  refine AWP_loop_k (ι := { k : Nat // k ≤ xs.length ∧ (xs.take k).all tabB = true }) (fun k => ⟨[.c (.rd [] 24 (.row 2 (.int .i64)) (xs)), zz, zz, zz, zz, zz, .c (.rd [] 24 (.row 2 (.int .i64)) (xs)), .c (.sc (.int .i64 (xs.length))), .c (.sc (.int .i64 (k.1))), zz, zz, zz, zz, zz, zz, zz, zz, zz, zz, zz, zz, zz, zz, zz, zz, zz, zz, zz, zz, zz, zz, zz, zz, zz, zz, zz, zz], []⟩) (fun k => xs.length - k.1) ⟨0, by simp⟩ ?_ ?_
  ·
   refine Wk_to (by rfl) ?_
   simp (maxSteps := 2000000) only [go_sem]
   all_goals (first | rfl | ((repeat' refine And.intro ?_ ?_) <;> first | rfl | simp))
  rintro ⟨k, hk, hp⟩ K4 hL4
  refine AWP_seq_k fun K5 hK5 => ?_
  refine AWP_region (G := G) (T := T_kinds) T_kinds_ok ?_
  simp only [go_sem]
  refine hK5 _ ?_
  refine AWP_seq_k fun K6 hK6 => ?_
  refine AWP_cond rfl ?_ ?_
  ·
   intro c0
   try simp only [decide_eq_true_eq, decide_eq_false_iff_not, Bool.not_eq_true', Bool.not_eq_false', ne_eq, Int.not_lt, Int.not_le] at c0
   refine AWP_skip ?_
   simp only [go_sem]
   refine hK6 _ ?_
   refine AWP_seq_k fun K7 hK7 => ?_
   refine AWP_block ?_
   refine AWP_seq_k fun K8 hK8 => ?_
   refine AWP_region (G := G) (T := T_kinds) T_kinds_ok ?_
   simp only [go_sem]
   repeat (with_reducible refine And.intro (by first | omega | exact ⟨rfl, by omega, by omega, by omega⟩) ?_)
   refine hK8 _ ?_
   refine AWP_seq_k fun K9 hK9 => ?_
   refine AWP_region (G := G) (T := T_kinds) T_kinds_ok ?_
   simp only [go_sem]
   refine hK9 _ ?_
   refine AWP_seq_k fun K10 hK10 => ?_
   refine AWP_region (G := G) (T := T_kinds) T_kinds_ok ?_
   simp (maxSteps := 2000000) only [go_sem]
   repeat' (first | (with_reducible refine And.intro (by first | omega | exact ⟨rfl, by omega, by omega, by omega⟩) ?_) | (with_reducible refine gcase_dt (fun g5 => ?_) (fun g5 => ?_)) | (with_reducible refine gcase_df (fun g5 => ?_) (fun g5 => ?_)) | (with_reducible refine gcase_ndt (fun g5 => ?_) (fun g5 => ?_)) | (with_reducible refine gcase_ndf (fun g5 => ?_) (fun g5 => ?_)) | (with_reducible refine gcase_nt (fun g5 => ?_) (fun g5 => ?_)) | (with_reducible refine gcase_nf (fun g5 => ?_) (fun g5 => ?_)) | (with_reducible refine gcase_mk (fun g5 => ?_) (fun g5 => ?_)))
   all_goals
    refine hK10 _ ?_
    refine AWP_cond rfl ?_ ?_
    ·
     intro c1
     try simp only [decide_eq_true_eq, decide_eq_false_iff_not, Bool.not_eq_true', Bool.not_eq_false', ne_eq, Int.not_lt, Int.not_le, Bool.true_eq_false, Bool.false_eq_true] at c1
     all_goals
      refine AWP_seq_k fun K11 hK11 => ?_
      refine AWP_region (G := G) (T := T_kinds) T_kinds_ok ?_
      simp only [go_sem]
      refine hK11 _ ?_
      refine AWP_ret ?_
      simp only [hres, go_sem]
      first
        | exact finOk_mk (by rfl) (by decide)
        | refine ⟨?_, finOk_mk (by rfl) (by decide)⟩
          have hq : tabB (xs.getD k []) = false := by clear hK1 hK2 hK3 hL4 hK5 hK6 hK7 hK8 hK9 hK10 hK11; simp_all [tabB] <;> omega
          rw [tabsB, all_stop (k := k) (d := []) (by omega) hq]; rfl
    ·
     intro c1
     try simp only [decide_eq_true_eq, decide_eq_false_iff_not, Bool.not_eq_true', Bool.not_eq_false', ne_eq, Int.not_lt, Int.not_le, Bool.true_eq_false, Bool.false_eq_true] at c1
     all_goals
      have hq : tabB (xs.getD k []) = true := by clear hK1 hK2 hK3 hL4 hK5 hK6 hK7 hK8 hK9 hK10; simp_all [tabB] <;> omega
      refine AWP_skip ?_
      simp only [go_sem]
      refine hK7 _ ?_
      refine AWP_region (G := G) (T := T_kinds) T_kinds_ok ?_
      simp only [go_sem]
      refine hL4 ⟨k + 1, by omega, all_next (d := []) (by omega) hp (by first | assumption | (clear hK1 hK2 hK3 hL4 hK5 hK6 hK7 hK8 hK9 hK10; simp_all))⟩ _ (Wk_to (by rfl) ?_) ?_
      ·
       simp (maxSteps := 2000000) only [go_sem]
       first | rfl | exact wk (by omega)
      ·
       first | (simp only []; omega) | omega | (simp; omega)
  ·
   intro c0
   try simp only [decide_eq_true_eq, decide_eq_false_iff_not, Bool.not_eq_true', Bool.not_eq_false', ne_eq, Int.not_lt, Int.not_le] at c0
   refine AWP_exit ?_
   simp only [go_sem]
   refine hK2 _ ?_
   refine AWP_seq_k fun K12 hK12 => ?_
   refine AWP_region (G := G) (T := T_kinds) T_kinds_ok ?_
   simp only [go_sem]
   refine hK12 _ ?_
   refine AWP_ret ?_
   simp only [hres, go_sem]
   first
     | exact finOk_mk (by rfl) (by decide)
     | refine ⟨?_, finOk_mk (by rfl) (by decide)⟩
       rw [tabsB, all_done hp (by omega), Bool.true_and]; exact decide_eq_decide.2 (by omega)

theorem areTables_fn : FnOk Try.prog 165 := fnOk_of Try.func165 rfl (by decide)

def T_areTables : Tab := fun f => if f = 165 then some (.p K_areTables) else T_kinds f
theorem T_areTables_ok : TabOk Try.prog T_areTables := fun f k h => by
  unfold T_areTables at h
  split at h
  · rename_i e; cases h; subst e; exact ⟨areTables_ok, areTables_fn⟩
  · exact T_kinds_ok f k h
attribute [go_sem] T_areTables K_areTables


def K_areIndices : Con := ⟨[.val ((.row 2 (.int .i64))), .val (.int .i64)], [⟨.bool, true⟩], fun x => inR x.2.1 (-9223372036854775807) 9223372036854775807 = true, fun x => idxs x.2.1 x.1⟩
set_option maxRecDepth 100000 in
set_option maxHeartbeats 1000000 in
theorem areIndices_ok : PureT Try.prog 166 K_areIndices := by
  refine pure_of_body Try.func166 rfl ?_
  have hres : Try.f166.results.toList = [.tmp 4] := rfl
  rintro ⟨(xs : List Int), (m : Int), _⟩ hc hL
  simp only [K_areIndices, lensOk, PK.lenOk, glensOk, GP.lenOk, flensOk, GO.lenOk, olensOk, Ty.lenOk, Ty.flat, Bool.and_true, Bool.true_and, Bool.and_false, Bool.false_and, true_and, and_true, implies_true, forall_const] at hL
  simp only [K_areIndices, St.init, St.initG, Try.ntmps166, go_sem] 
  obtain ⟨hm1, hm2⟩ := inR_iff.1 (show inR m _ _ = true from hc)
  have hw : IntKind.i64.wrap (m - 1) = m - 1 := wrapI (by omega)
  refine AWP_seq_k fun K1 hK1 => ?_
  refine AWP_region (G := G) (T := T_areTables) T_areTables_ok ?_
  simp only [go_sem]
  refine hK1 _ ?_
  refine AWP_seq_k fun K2 hK2 => ?_
  refine AWP_seq_k fun K3 hK3 => ?_
  refine AWP_region (G := G) (T := T_areTables) T_areTables_ok ?_
  simp only [go_sem]
  refine hK3 _ ?_
  refine AWP_block ?_
  refine AWP_loop_k (ι := { k : Nat // k ≤ xs.length ∧ (xs.take k).all (fun i => inR i 0 (m - 1)) = true }) (fun k => ⟨[zz, .c (.sc (.int .i64 (m))), zz, zz, zz, zz, zz, .c (.rd [] 2 (.int .i64) (xs)), .c (.sc (.int .i64 (xs.length))), .c (.sc (.int .i64 (k.1))), zz, zz, zz, zz, zz, zz, zz, zz, zz], []⟩) (fun k => xs.length - k.1) ⟨0, by simp⟩ ?_ ?_
  ·
   refine Wk_to (by rfl) ?_
   simp (maxSteps := 2000000) only [go_sem]
   all_goals (first | rfl | ((repeat' refine And.intro ?_ ?_) <;> first | rfl | simp))
  rintro ⟨k, hk, hp⟩ K4 hL4
  refine AWP_seq_k fun K5 hK5 => ?_
  refine AWP_region (G := G) (T := T_areTables) T_areTables_ok ?_
  simp only [go_sem]
  refine hK5 _ ?_
  refine AWP_seq_k fun K6 hK6 => ?_
  refine AWP_cond rfl ?_ ?_
  ·
   intro c0
   try simp only [decide_eq_true_eq, decide_eq_false_iff_not, Bool.not_eq_true', Bool.not_eq_false', ne_eq, Int.not_lt, Int.not_le] at c0
   refine AWP_skip ?_
   simp only [go_sem]
   refine hK6 _ ?_
   refine AWP_seq_k fun K7 hK7 => ?_
   refine AWP_block ?_
   refine AWP_seq_k fun K8 hK8 => ?_
   refine AWP_region (G := G) (T := T_areTables) T_areTables_ok ?_
   simp only [go_sem]
   repeat (with_reducible refine And.intro (by first | omega | exact ⟨rfl, by omega, by omega, by omega⟩) ?_)
   refine hK8 _ ?_
   refine AWP_seq_k fun K9 hK9 => ?_
   refine AWP_region (G := G) (T := T_areTables) T_areTables_ok ?_
   simp (maxSteps := 2000000) only [hw, go_sem]
   repeat (with_reducible refine And.intro (by first | omega | exact ⟨rfl, by omega, by omega, by omega⟩) ?_)
   refine hK9 _ ?_
   refine AWP_cond rfl ?_ ?_
   ·
    intro c1
    try simp only [decide_eq_true_eq, decide_eq_false_iff_not, Bool.not_eq_true', Bool.not_eq_false', ne_eq, Int.not_lt, Int.not_le] at c1
    refine AWP_seq_k fun K10 hK10 => ?_
    refine AWP_region (G := G) (T := T_areTables) T_areTables_ok ?_
    simp only [go_sem]
    refine hK10 _ ?_
    refine AWP_ret ?_
    simp only [hres, go_sem]
    first
      | exact finOk_mk (by rfl) (by decide)
      | refine ⟨?_, finOk_mk (by rfl) (by decide)⟩
        exact (all_stop (k := k) (d := 0) (by omega) (by first | assumption | (clear hp; clear hK1 hK2 hK3 hL4 hK5 hK6 hK7 hK8 hK9 hK10; simp_all))).symm
   ·
    intro c1
    try simp only [decide_eq_true_eq, decide_eq_false_iff_not, Bool.not_eq_true', Bool.not_eq_false', ne_eq, Int.not_lt, Int.not_le] at c1
    refine AWP_skip ?_
    simp only [go_sem]
    refine hK7 _ ?_
    refine AWP_region (G := G) (T := T_areTables) T_areTables_ok ?_
    simp only [go_sem]
    refine hL4 ⟨k + 1, by omega, all_next (d := 0) (by omega) hp (by first | assumption | (clear hK1 hK2 hK3 hL4 hK5 hK6 hK7 hK8 hK9; simp_all))⟩ _ (Wk_to (by rfl) ?_) ?_
    ·
     simp (maxSteps := 2000000) only [go_sem]
     first | rfl | exact wk (by omega)
    ·
     first | (simp only []; omega) | omega | (simp; omega)
  ·
   intro c0
   try simp only [decide_eq_true_eq, decide_eq_false_iff_not, Bool.not_eq_true', Bool.not_eq_false', ne_eq, Int.not_lt, Int.not_le] at c0
   refine AWP_exit ?_
   simp only [go_sem]
   refine hK2 _ ?_
   refine AWP_seq_k fun K11 hK11 => ?_
   refine AWP_region (G := G) (T := T_areTables) T_areTables_ok ?_
   simp only [go_sem]
   refine hK11 _ ?_
   refine AWP_ret ?_
   simp only [hres, go_sem]
   first
     | exact finOk_mk (by rfl) (by decide)
     | refine ⟨?_, finOk_mk (by rfl) (by decide)⟩
       exact (all_done hp (by omega)).symm

theorem areIndices_fn : FnOk Try.prog 166 := fnOk_of Try.func166 rfl (by decide)

def T_areIndices : Tab := fun f => if f = 166 then some (.p K_areIndices) else T_areTables f
theorem T_areIndices_ok : TabOk Try.prog T_areIndices := fun f k h => by
  unfold T_areIndices at h
  split at h
  · rename_i e; cases h; subst e; exact ⟨areIndices_ok, areIndices_fn⟩
  · exact T_areTables_ok f k h
attribute [go_sem] T_areIndices K_areIndices


def K_waitsFor : Con := ⟨[.val ((.prod (.int .i64) (.prod (.int .i64) (.prod (.int .i64) (.row 2 (.int .i64))))))], [⟨(.row 2 (.int .i64)), false⟩], fun _ => True, fun x => waitsL x.1⟩
set_option maxRecDepth 100000 in
set_option maxHeartbeats 1000000 in
theorem waitsFor_ok : PureT Try.prog 158 K_waitsFor := by
  refine pure_of_body Try.func158 rfl ?_
  have hres : Try.f158.results.toList = [.tmp 2] := rfl
  rintro ⟨⟨(kd : Int), (a : Int), (bb : Int), (fr : List Int)⟩, _⟩ hc hL
  simp only [K_waitsFor, lensOk, PK.lenOk, glensOk, GP.lenOk, flensOk, GO.lenOk, olensOk, Ty.lenOk, Ty.flat, Bool.and_true, Bool.true_and, Bool.and_false, Bool.false_and, true_and, and_true, implies_true, forall_const] at hL
  simp only [K_waitsFor, St.init, St.initG, Try.ntmps158, go_sem] 
  refine AWP_seq_k fun K1 hK1 => ?_
  refine AWP_region (G := G) (T := T_areIndices) T_areIndices_ok ?_
  simp only [go_sem]
  refine hK1 _ ?_
  refine AWP_seq_k fun K2 hK2 => ?_
  refine AWP_seq_k fun K3 hK3 => ?_
  refine AWP_region (G := G) (T := T_areIndices) T_areIndices_ok ?_
  simp only [go_sem]
  repeat (with_reducible refine And.intro (by first | omega | exact ⟨rfl, by omega, by omega, by omega⟩) ?_)
  refine hK3 _ ?_
  refine AWP_cond rfl ?_ ?_
  ·
   intro c0
   try simp only [decide_eq_true_eq, decide_eq_false_iff_not, Bool.not_eq_true', Bool.not_eq_false', ne_eq, Int.not_lt, Int.not_le] at c0
   refine AWP_seq_k fun K4 hK4 => ?_
   refine AWP_region (G := G) (T := T_areIndices) T_areIndices_ok ?_
   simp only [go_sem]
   refine hK4 _ ?_
   refine AWP_ret ?_
   simp only [hres, go_sem]
   first
     | exact finOk_mk (by rfl) (by decide)
     | refine ⟨?_, finOk_mk (by rfl) (by decide)⟩
       clear hK1 hK2 hK3 hK4; simp_all [waitsL]
  ·
   intro c0
   try simp only [decide_eq_true_eq, decide_eq_false_iff_not, Bool.not_eq_true', Bool.not_eq_false', ne_eq, Int.not_lt, Int.not_le] at c0
   refine AWP_skip ?_
   simp only [go_sem]
   refine hK2 _ ?_
   refine AWP_seq_k fun K5 hK5 => ?_
   refine AWP_region (G := G) (T := T_areIndices) T_areIndices_ok ?_
   simp only [go_sem]
   repeat (with_reducible refine And.intro (by first | omega | exact ⟨rfl, by omega, by omega, by omega⟩) ?_)
   refine hK5 _ ?_
   refine AWP_ret ?_
   simp only [hres, go_sem]
   first
     | exact finOk_mk (by rfl) (by decide)
     | refine ⟨?_, finOk_mk (by rfl) (by decide)⟩
       clear hK1 hK2 hK3 hK5; simp_all [waitsL]

theorem waitsFor_fn : FnOk Try.prog 158 := fnOk_of Try.func158 rfl (by decide)

def T_waitsFor : Tab := fun f => if f = 158 then some (.p K_waitsFor) else T_areIndices f
theorem T_waitsFor_ok : TabOk Try.prog T_waitsFor := fun f k h => by
  unfold T_waitsFor at h
  split at h
  · rename_i e; cases h; subst e; exact ⟨waitsFor_ok, waitsFor_fn⟩
  · exact T_areIndices_ok f k h
attribute [go_sem] T_waitsFor K_waitsFor

end Go.Proofs.Ythglggjgjlmhlaa
