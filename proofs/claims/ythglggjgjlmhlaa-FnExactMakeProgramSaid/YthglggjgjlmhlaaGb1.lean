/-
  Contracts of functions: l06Kind, l03Ok, l00Has, l00Min, l00Max, l06Arity, l06HasA, l06A.
-/
import Derived.Test.YthglggjgjlmhlaaGa1
import Derived.Test.YthglggjgjlmhlaaPe
namespace Go.Proofs.Ythglggjgjlmhlaa
open Go.RowKit
set_option linter.unusedSimpArgs false
set_option linter.unusedVariables false

def K_l06Kind : Con := ⟨[.val (.int .i64)], [⟨.bool, true⟩], fun _ => True, fun x => inR x.1 1 17⟩
set_option maxRecDepth 100000 in
set_option maxHeartbeats 1000000 in
theorem l06Kind_ok : PureT Try.prog 176 K_l06Kind := by
  refine pure_of_body Try.func176 rfl ?_
  have hres : Try.f176.results.toList = [.tmp 2] := rfl
  rintro ⟨(x : Int), _⟩ hc hL
  simp only [K_l06Kind, lensOk, PK.lenOk, glensOk, GP.lenOk, flensOk, GO.lenOk, olensOk, Ty.lenOk, Ty.flat, Bool.and_true, Bool.true_and, Bool.and_false, Bool.false_and, true_and, and_true, implies_true, forall_const] at hL
  simp only [K_l06Kind, St.init, St.initG, Try.ntmps176, go_sem] 
  refine AWP_seq_k fun K1 hK1 => ?_
  refine AWP_region (G := G) (T := T_kinds) T_kinds_ok ?_
  simp only [go_sem]
  refine hK1 _ ?_
  refine AWP_seq_k fun K2 hK2 => ?_
  refine AWP_region (G := G) (T := T_kinds) T_kinds_ok ?_
  simp only [go_sem]
  repeat (with_reducible refine And.intro (by first | omega | exact ⟨rfl, by omega, by omega, by omega⟩) ?_)
  refine hK2 _ ?_
  refine AWP_ret ?_
  simp only [hres, go_sem]
  first
    | exact finOk_mk (by rfl) (by decide)
    | refine ⟨?_, finOk_mk (by rfl) (by decide)⟩
      rfl

theorem l06Kind_fn : FnOk Try.prog 176 := fnOk_of Try.func176 rfl (by decide)

def T_l06Kind : Tab := fun f => if f = 176 then some (.p K_l06Kind) else T_kinds f
theorem T_l06Kind_ok : TabOk Try.prog T_l06Kind := fun f k h => by
  unfold T_l06Kind at h
  split at h
  · rename_i e; cases h; subst e; exact ⟨l06Kind_ok, l06Kind_fn⟩
  · exact T_kinds_ok f k h
attribute [go_sem] T_l06Kind K_l06Kind


def K_l03Ok : Con := ⟨[.val ((.row 2 (.int .i64)))], [⟨.bool, true⟩], fun _ => True, fun x => l03B x.1⟩
set_option maxRecDepth 100000 in
set_option maxHeartbeats 1000000 in
theorem l03Ok_ok : PureT Try.prog 97 K_l03Ok := by
  refine pure_of_body Try.func97 rfl ?_
  have hres : Try.f97.results.toList = [.tmp 2] := rfl
  rintro ⟨(xs : List Int), _⟩ hc hL
  simp only [K_l03Ok, lensOk, PK.lenOk, glensOk, GP.lenOk, flensOk, GO.lenOk, olensOk, Ty.lenOk, Ty.flat, Bool.and_true, Bool.true_and, Bool.and_false, Bool.false_and, true_and, and_true, implies_true, forall_const] at hL
  simp only [K_l03Ok, St.init, St.initG, Try.ntmps97, go_sem] 
  refine AWP_seq_k fun K1 hK1 => ?_
  refine AWP_region (G := G) (T := T_l06Kind) T_l06Kind_ok ?_
  simp only [go_sem]
  refine hK1 _ ?_
  refine AWP_seq_k fun K2 hK2 => ?_
  refine AWP_seq_k fun K3 hK3 => ?_
  refine AWP_region (G := G) (T := T_l06Kind) T_l06Kind_ok ?_
  simp only [go_sem]
  refine hK3 _ ?_
  refine AWP_cond rfl ?_ ?_
  ·
   intro c0
   try simp only [decide_eq_true_eq, decide_eq_false_iff_not, Bool.not_eq_true', Bool.not_eq_false', ne_eq, Int.not_lt, Int.not_le] at c0
   refine AWP_seq_k fun K4 hK4 => ?_
   refine AWP_region (G := G) (T := T_l06Kind) T_l06Kind_ok ?_
   simp only [go_sem]
   refine hK4 _ ?_
   refine AWP_ret ?_
   simp only [hres, go_sem]
   first
     | exact finOk_mk (by rfl) (by decide)
     | refine ⟨?_, finOk_mk (by rfl) (by decide)⟩
       rw [l03B, decide_eq_false (by omega)]; rfl
  ·
   intro c0
   try simp only [decide_eq_true_eq, decide_eq_false_iff_not, Bool.not_eq_true', Bool.not_eq_false', ne_eq, Int.not_lt, Int.not_le] at c0
   refine AWP_skip ?_
   simp only [go_sem]
   refine hK2 _ ?_
   refine AWP_seq_k fun K5 hK5 => ?_
   refine AWP_seq_k fun K6 hK6 => ?_
   refine AWP_region (G := G) (T := T_l06Kind) T_l06Kind_ok ?_
   simp only [go_sem]
   refine hK6 _ ?_
   refine AWP_block ?_
   refine AWP_loop_k (ι := { k : Nat // k ≤ xs.length ∧ (xs.take k).all smp = true }) (fun k => ⟨[.c (.rd [] 2 (.int .i64) (xs)), zz, zz, .c (.sc (.int .i64 (k.1))), zz, zz, zz, zz, zz, zz, zz, zz, zz, zz, zz, zz, zz, zz, zz], []⟩) (fun k => xs.length - k.1) ⟨0, by simp⟩ ?_ ?_
   ·
    refine Wk_to (by rfl) ?_
    simp (maxSteps := 2000000) only [go_sem]
    all_goals (first | rfl | ((repeat' refine And.intro ?_ ?_) <;> first | rfl | simp))
   rintro ⟨k, hk, hp⟩ K7 hL7
   refine AWP_seq_k fun K8 hK8 => ?_
   refine AWP_seq_k fun K9 hK9 => ?_
   refine AWP_region (G := G) (T := T_l06Kind) T_l06Kind_ok ?_
   simp only [go_sem]
   refine hK9 _ ?_
   refine AWP_cond rfl ?_ ?_
   ·
    intro c1
    try simp only [decide_eq_true_eq, decide_eq_false_iff_not, Bool.not_eq_true', Bool.not_eq_false', ne_eq, Int.not_lt, Int.not_le] at c1
    refine AWP_skip ?_
    simp only [go_sem]
    refine hK8 _ ?_
    refine AWP_seq_k fun K10 hK10 => ?_
    refine AWP_block ?_
    refine AWP_seq_k fun K11 hK11 => ?_
    refine AWP_region (G := G) (T := T_l06Kind) T_l06Kind_ok ?_
    simp (maxSteps := 2000000) only [go_sem]
    repeat (with_reducible refine And.intro (by first | omega | exact ⟨rfl, by omega, by omega, by omega⟩) ?_)
    refine hK11 _ ?_
    refine AWP_cond rfl ?_ ?_
    ·
     intro c2
     try simp only [decide_eq_true_eq, decide_eq_false_iff_not, Bool.not_eq_true', Bool.not_eq_false', ne_eq, Int.not_lt, Int.not_le] at c2
     refine AWP_seq_k fun K12 hK12 => ?_
     refine AWP_region (G := G) (T := T_l06Kind) T_l06Kind_ok ?_
     simp only [go_sem]
     refine hK12 _ ?_
     refine AWP_ret ?_
     simp only [hres, go_sem]
     first
       | exact finOk_mk (by rfl) (by decide)
       | refine ⟨?_, finOk_mk (by rfl) (by decide)⟩
         rw [l03B, decide_eq_true (by omega), smps, all_stop (k := k) (d := 0) (by omega) (by assumption)]; rfl
    ·
     intro c2
     try simp only [decide_eq_true_eq, decide_eq_false_iff_not, Bool.not_eq_true', Bool.not_eq_false', ne_eq, Int.not_lt, Int.not_le] at c2
     refine AWP_skip ?_
     simp only [go_sem]
     refine hK10 _ ?_
     refine AWP_region (G := G) (T := T_l06Kind) T_l06Kind_ok ?_
     simp only [go_sem]
     refine hL7 ⟨k + 1, by omega, all_next (d := 0) (by omega) hp (by first | assumption | (clear hK1 hK2 hK3 hK5 hK6 hL7 hK8 hK9 hK10 hK11; simp_all))⟩ _ (Wk_to (by rfl) ?_) ?_
     ·
      simp (maxSteps := 2000000) only [go_sem]
      first | rfl | exact wk (by omega)
     ·
      first | (simp only []; omega) | omega | (simp; omega)
   ·
    intro c1
    try simp only [decide_eq_true_eq, decide_eq_false_iff_not, Bool.not_eq_true', Bool.not_eq_false', ne_eq, Int.not_lt, Int.not_le] at c1
    refine AWP_exit ?_
    simp only [go_sem]
    refine hK5 _ ?_
    refine AWP_seq_k fun K13 hK13 => ?_
    refine AWP_region (G := G) (T := T_l06Kind) T_l06Kind_ok ?_
    simp only [go_sem]
    refine hK13 _ ?_
    refine AWP_ret ?_
    simp only [hres, go_sem]
    first
      | exact finOk_mk (by rfl) (by decide)
      | refine ⟨?_, finOk_mk (by rfl) (by decide)⟩
        rw [l03B, decide_eq_true (by omega), smps, all_done hp (by omega)]; rfl

theorem l03Ok_fn : FnOk Try.prog 97 := fnOk_of Try.func97 rfl (by decide)

def T_l03Ok : Tab := fun f => if f = 97 then some (.p K_l03Ok) else T_l06Kind f
theorem T_l03Ok_ok : TabOk Try.prog T_l03Ok := fun f k h => by
  unfold T_l03Ok at h
  split at h
  · rename_i e; cases h; subst e; exact ⟨l03Ok_ok, l03Ok_fn⟩
  · exact T_l06Kind_ok f k h
attribute [go_sem] T_l03Ok K_l03Ok


def K_l00Has : Con := ⟨[.val ((.row 2 (.int .i64))), .val (.int .i64)], [⟨.bool, true⟩], fun _ => True, fun x => x.1.contains x.2.1⟩
set_option maxRecDepth 100000 in
set_option maxHeartbeats 1000000 in
theorem l00Has_ok : PureT Try.prog 106 K_l00Has := by
  refine pure_of_body Try.func106 rfl ?_
  have hres : Try.f106.results.toList = [.tmp 4] := rfl
  rintro ⟨(xs : List Int), (m : Int), _⟩ hc hL
  simp only [K_l00Has, lensOk, PK.lenOk, glensOk, GP.lenOk, flensOk, GO.lenOk, olensOk, Ty.lenOk, Ty.flat, Bool.and_true, Bool.true_and, Bool.and_false, Bool.false_and, true_and, and_true, implies_true, forall_const] at hL
  simp only [K_l00Has, St.init, St.initG, Try.ntmps106, go_sem] 
  refine AWP_seq_k fun K1 hK1 => ?_
  refine AWP_region (G := G) (T := T_l03Ok) T_l03Ok_ok ?_
  simp only [go_sem]
  refine hK1 _ ?_
  refine AWP_seq_k fun K2 hK2 => ?_
  refine AWP_seq_k fun K3 hK3 => ?_
  refine AWP_region (G := G) (T := T_l03Ok) T_l03Ok_ok ?_
  simp only [go_sem]
  refine hK3 _ ?_
  refine AWP_block ?_
  refine AWP_loop_k (ι := { k : Nat // k ≤ xs.length ∧ (xs.take k).contains m = false }) (fun k => ⟨[.c (.rd [] 2 (.int .i64) (xs)), .c (.sc (.int .i64 (m))), zz, zz, zz, .c (.sc (.int .i64 (k.1))), zz, zz, zz, zz, zz, zz, zz, zz, zz, zz, zz, zz], []⟩) (fun k => xs.length - k.1) ⟨0, by simp, by simp⟩ ?_ ?_
  ·
   refine Wk_to (by rfl) ?_
   simp (maxSteps := 2000000) only [go_sem]
   all_goals (first | rfl | ((repeat' refine And.intro ?_ ?_) <;> first | rfl | simp))
  rintro ⟨k, hk, hp⟩ K4 hL4
  refine AWP_seq_k fun K5 hK5 => ?_
  refine AWP_seq_k fun K6 hK6 => ?_
  refine AWP_region (G := G) (T := T_l03Ok) T_l03Ok_ok ?_
  simp only [go_sem]
  refine hK6 _ ?_
  refine AWP_cond rfl ?_ ?_
  ·
   intro c0
   try simp only [decide_eq_true_eq, decide_eq_false_iff_not, Bool.not_eq_true', Bool.not_eq_false', ne_eq, Int.not_lt, Int.not_le] at c0
   refine AWP_skip ?_
   simp only [go_sem]
   refine hK5 _ ?_
   refine AWP_seq_k fun K7 hK7 => ?_
   refine AWP_block ?_
   refine AWP_seq_k fun K8 hK8 => ?_
   refine AWP_region (G := G) (T := T_l03Ok) T_l03Ok_ok ?_
   simp (maxSteps := 2000000) only [go_sem]
   repeat (with_reducible refine And.intro (by first | omega | exact ⟨rfl, by omega, by omega, by omega⟩) ?_)
   refine hK8 _ ?_
   refine AWP_cond rfl ?_ ?_
   ·
    intro c1
    try simp only [decide_eq_true_eq, decide_eq_false_iff_not, Bool.not_eq_true', Bool.not_eq_false', ne_eq, Int.not_lt, Int.not_le] at c1
    refine AWP_seq_k fun K9 hK9 => ?_
    refine AWP_region (G := G) (T := T_l03Ok) T_l03Ok_ok ?_
    simp only [go_sem]
    refine hK9 _ ?_
    refine AWP_ret ?_
    simp only [hres, go_sem]
    first
      | exact finOk_mk (by rfl) (by decide)
      | refine ⟨?_, finOk_mk (by rfl) (by decide)⟩
        exact (has_stop (k := k) (by omega) c1).symm
   ·
    intro c1
    try simp only [decide_eq_true_eq, decide_eq_false_iff_not, Bool.not_eq_true', Bool.not_eq_false', ne_eq, Int.not_lt, Int.not_le] at c1
    refine AWP_skip ?_
    simp only [go_sem]
    refine hK7 _ ?_
    refine AWP_region (G := G) (T := T_l03Ok) T_l03Ok_ok ?_
    simp only [go_sem]
    refine hL4 ⟨k + 1, by omega, has_next (by omega) hp c1⟩ _ (Wk_to (by rfl) ?_) ?_
    ·
     simp (maxSteps := 2000000) only [go_sem]
     all_goals (first | rfl | ((repeat' refine And.intro ?_ ?_) <;> first | rfl | exact wk (by omega) | simp))
    ·
     first | (simp only []; omega) | omega | (simp; omega)
  ·
   intro c0
   try simp only [decide_eq_true_eq, decide_eq_false_iff_not, Bool.not_eq_true', Bool.not_eq_false', ne_eq, Int.not_lt, Int.not_le] at c0
   refine AWP_exit ?_
   simp only [go_sem]
   refine hK2 _ ?_
   refine AWP_seq_k fun K10 hK10 => ?_
   refine AWP_region (G := G) (T := T_l03Ok) T_l03Ok_ok ?_
   simp only [go_sem]
   refine hK10 _ ?_
   refine AWP_ret ?_
   simp only [hres, go_sem]
   first
     | exact finOk_mk (by rfl) (by decide)
     | refine ⟨?_, finOk_mk (by rfl) (by decide)⟩
       exact (has_done hp (by omega)).symm

theorem l00Has_fn : FnOk Try.prog 106 := fnOk_of Try.func106 rfl (by decide)

def T_l00Has : Tab := fun f => if f = 106 then some (.p K_l00Has) else T_l03Ok f
theorem T_l00Has_ok : TabOk Try.prog T_l00Has := fun f k h => by
  unfold T_l00Has at h
  split at h
  · rename_i e; cases h; subst e; exact ⟨l00Has_ok, l00Has_fn⟩
  · exact T_l03Ok_ok f k h
attribute [go_sem] T_l00Has K_l00Has


def K_l00Min : Con := ⟨[.val (.int .i64), .val (.int .i64)], [⟨.int .i64, true⟩], fun _ => True, fun x => iMin x.1 x.2.1⟩
set_option maxRecDepth 100000 in
set_option maxHeartbeats 1000000 in
theorem l00Min_ok : PureT Try.prog 133 K_l00Min := by
  refine pure_of_body Try.func133 rfl ?_
  have hres : Try.f133.results.toList = [.tmp 4] := rfl
  rintro ⟨(x : Int), (y : Int), _⟩ hc hL
  simp only [K_l00Min, lensOk, PK.lenOk, glensOk, GP.lenOk, flensOk, GO.lenOk, olensOk, Ty.lenOk, Ty.flat, Bool.and_true, Bool.true_and, Bool.and_false, Bool.false_and, true_and, and_true, implies_true, forall_const] at hL
  simp only [K_l00Min, St.init, St.initG, Try.ntmps133, go_sem] 
  refine AWP_seq_k fun K1 hK1 => ?_
  refine AWP_region (G := G) (T := T_l00Has) T_l00Has_ok ?_
  simp only [go_sem]
  refine hK1 _ ?_
  refine AWP_seq_k fun K2 hK2 => ?_
  refine AWP_seq_k fun K3 hK3 => ?_
  refine AWP_region (G := G) (T := T_l00Has) T_l00Has_ok ?_
  simp only [go_sem]
  refine hK3 _ ?_
  refine AWP_cond rfl ?_ ?_
  ·
   intro c0
   try simp only [decide_eq_true_eq, decide_eq_false_iff_not, Bool.not_eq_true', Bool.not_eq_false', ne_eq, Int.not_lt, Int.not_le] at c0
   refine AWP_seq_k fun K4 hK4 => ?_
   refine AWP_region (G := G) (T := T_l00Has) T_l00Has_ok ?_
   simp only [go_sem]
   refine hK4 _ ?_
   refine AWP_ret ?_
   simp only [hres, go_sem]
   first
     | exact finOk_mk (by rfl) (by decide)
     | refine ⟨?_, finOk_mk (by rfl) (by decide)⟩
       exact iMin_l (by omega)
  ·
   intro c0
   try simp only [decide_eq_true_eq, decide_eq_false_iff_not, Bool.not_eq_true', Bool.not_eq_false', ne_eq, Int.not_lt, Int.not_le] at c0
   refine AWP_skip ?_
   simp only [go_sem]
   refine hK2 _ ?_
   refine AWP_seq_k fun K5 hK5 => ?_
   refine AWP_region (G := G) (T := T_l00Has) T_l00Has_ok ?_
   simp only [go_sem]
   refine hK5 _ ?_
   refine AWP_ret ?_
   simp only [hres, go_sem]
   first
     | exact finOk_mk (by rfl) (by decide)
     | refine ⟨?_, finOk_mk (by rfl) (by decide)⟩
       exact iMin_r (by omega)

theorem l00Min_fn : FnOk Try.prog 133 := fnOk_of Try.func133 rfl (by decide)

def T_l00Min : Tab := fun f => if f = 133 then some (.p K_l00Min) else T_l00Has f
theorem T_l00Min_ok : TabOk Try.prog T_l00Min := fun f k h => by
  unfold T_l00Min at h
  split at h
  · rename_i e; cases h; subst e; exact ⟨l00Min_ok, l00Min_fn⟩
  · exact T_l00Has_ok f k h
attribute [go_sem] T_l00Min K_l00Min


def K_l00Max : Con := ⟨[.val (.int .i64), .val (.int .i64)], [⟨.int .i64, true⟩], fun _ => True, fun x => iMax x.1 x.2.1⟩
set_option maxRecDepth 100000 in
set_option maxHeartbeats 1000000 in
theorem l00Max_ok : PureT Try.prog 142 K_l00Max := by
  refine pure_of_body Try.func142 rfl ?_
  have hres : Try.f142.results.toList = [.tmp 4] := rfl
  rintro ⟨(x : Int), (y : Int), _⟩ hc hL
  simp only [K_l00Max, lensOk, PK.lenOk, glensOk, GP.lenOk, flensOk, GO.lenOk, olensOk, Ty.lenOk, Ty.flat, Bool.and_true, Bool.true_and, Bool.and_false, Bool.false_and, true_and, and_true, implies_true, forall_const] at hL
  simp only [K_l00Max, St.init, St.initG, Try.ntmps142, go_sem] 
  refine AWP_seq_k fun K1 hK1 => ?_
  refine AWP_region (G := G) (T := T_l00Min) T_l00Min_ok ?_
  simp only [go_sem]
  refine hK1 _ ?_
  refine AWP_seq_k fun K2 hK2 => ?_
  refine AWP_seq_k fun K3 hK3 => ?_
  refine AWP_region (G := G) (T := T_l00Min) T_l00Min_ok ?_
  simp only [go_sem]
  refine hK3 _ ?_
  refine AWP_cond rfl ?_ ?_
  ·
   intro c0
   try simp only [decide_eq_true_eq, decide_eq_false_iff_not, Bool.not_eq_true', Bool.not_eq_false', ne_eq, Int.not_lt, Int.not_le] at c0
   refine AWP_seq_k fun K4 hK4 => ?_
   refine AWP_region (G := G) (T := T_l00Min) T_l00Min_ok ?_
   simp only [go_sem]
   refine hK4 _ ?_
   refine AWP_ret ?_
   simp only [hres, go_sem]
   first
     | exact finOk_mk (by rfl) (by decide)
     | refine ⟨?_, finOk_mk (by rfl) (by decide)⟩
       exact iMax_l (by omega)
  ·
   intro c0
   try simp only [decide_eq_true_eq, decide_eq_false_iff_not, Bool.not_eq_true', Bool.not_eq_false', ne_eq, Int.not_lt, Int.not_le] at c0
   refine AWP_skip ?_
   simp only [go_sem]
   refine hK2 _ ?_
   refine AWP_seq_k fun K5 hK5 => ?_
   refine AWP_region (G := G) (T := T_l00Min) T_l00Min_ok ?_
   simp only [go_sem]
   refine hK5 _ ?_
   refine AWP_ret ?_
   simp only [hres, go_sem]
   first
     | exact finOk_mk (by rfl) (by decide)
     | refine ⟨?_, finOk_mk (by rfl) (by decide)⟩
       exact iMax_r (by omega)

theorem l00Max_fn : FnOk Try.prog 142 := fnOk_of Try.func142 rfl (by decide)

def T_l00Max : Tab := fun f => if f = 142 then some (.p K_l00Max) else T_l00Min f
theorem T_l00Max_ok : TabOk Try.prog T_l00Max := fun f k h => by
  unfold T_l00Max at h
  split at h
  · rename_i e; cases h; subst e; exact ⟨l00Max_ok, l00Max_fn⟩
  · exact T_l00Min_ok f k h
attribute [go_sem] T_l00Max K_l00Max


def K_l06Arity : Con := ⟨[.val (.int .i64)], [⟨.int .i64, true⟩], fun x => inR x.1 0 17 = true, fun x => arL.getD (Int.toNat x.1) 0⟩
set_option maxRecDepth 100000 in
set_option maxHeartbeats 1000000 in
theorem l06Arity_ok : PureT Try.prog 140 K_l06Arity := by
  refine pure_of_body Try.func140 rfl ?_
  have hres : Try.f140.results.toList = [.tmp 2] := rfl
  rintro ⟨(x : Int), _⟩ hc hL
  simp only [K_l06Arity, lensOk, PK.lenOk, glensOk, GP.lenOk, flensOk, GO.lenOk, olensOk, Ty.lenOk, Ty.flat, Bool.and_true, Bool.true_and, Bool.and_false, Bool.false_and, true_and, and_true, implies_true, forall_const] at hL
  simp only [K_l06Arity, St.init, St.initG, Try.ntmps140, go_sem] 
  obtain ⟨hx1, hx2⟩ := inR_iff.1 (show inR x 0 17 = true from hc)
  refine AWP_seq_k fun K1 hK1 => ?_
  refine AWP_region (G := G) (T := T_l00Max) T_l00Max_ok ?_
  simp only [go_sem]
  refine hK1 _ ?_
  refine AWP_seq_k fun K2 hK2 => ?_
  refine AWP_region (G := G) (T := T_l00Max) T_l00Max_ok ?_
  simp (maxSteps := 2000000) only [go_sem]
  repeat (with_reducible refine And.intro (by first | omega | exact ⟨rfl, by omega, by omega, by omega⟩) ?_)
  refine hK2 _ ?_
  refine AWP_ret ?_
  simp only [hres, go_sem]
  first
    | exact finOk_mk (by rfl) (by decide)
    | refine ⟨?_, finOk_mk (by rfl) (by decide)⟩
      rfl

theorem l06Arity_fn : FnOk Try.prog 140 := fnOk_of Try.func140 rfl (by decide)

def T_l06Arity : Tab := fun f => if f = 140 then some (.p K_l06Arity) else T_l00Max f
theorem T_l06Arity_ok : TabOk Try.prog T_l06Arity := fun f k h => by
  unfold T_l06Arity at h
  split at h
  · rename_i e; cases h; subst e; exact ⟨l06Arity_ok, l06Arity_fn⟩
  · exact T_l00Max_ok f k h
attribute [go_sem] T_l06Arity K_l06Arity


def K_l06HasA : Con := ⟨[.val (.int .i64)], [⟨.bool, true⟩], fun _ => True, fun x => hasAL.contains x.1⟩
set_option maxRecDepth 100000 in
set_option maxHeartbeats 1000000 in
theorem l06HasA_ok : PureT Try.prog 181 K_l06HasA := by
  refine pure_of_body Try.func181 rfl ?_
  have hres : Try.f181.results.toList = [.tmp 2] := rfl
  rintro ⟨(x : Int), _⟩ hc hL
  simp only [K_l06HasA, lensOk, PK.lenOk, glensOk, GP.lenOk, flensOk, GO.lenOk, olensOk, Ty.lenOk, Ty.flat, Bool.and_true, Bool.true_and, Bool.and_false, Bool.false_and, true_and, and_true, implies_true, forall_const] at hL
  simp only [K_l06HasA, St.init, St.initG, Try.ntmps181, go_sem] 
  refine AWP_seq_k fun K1 hK1 => ?_
  refine AWP_region (G := G) (T := T_l06Arity) T_l06Arity_ok ?_
  simp only [go_sem]
  refine hK1 _ ?_
  refine AWP_seq_k fun K2 hK2 => ?_
  refine AWP_region (G := G) (T := T_l06Arity) T_l06Arity_ok ?_
  simp only [go_sem]
  repeat (with_reducible refine And.intro (by first | omega | exact ⟨rfl, by omega, by omega, by omega⟩) ?_)
  refine hK2 _ ?_
  refine AWP_ret ?_
  simp only [hres, go_sem]
  first
    | exact finOk_mk (by rfl) (by decide)
    | refine ⟨?_, finOk_mk (by rfl) (by decide)⟩
      unfold hasAL; simp only [List.contains_cons, List.contains_nil, Bool.or_false]

theorem l06HasA_fn : FnOk Try.prog 181 := fnOk_of Try.func181 rfl (by decide)

def T_l06HasA : Tab := fun f => if f = 181 then some (.p K_l06HasA) else T_l06Arity f
theorem T_l06HasA_ok : TabOk Try.prog T_l06HasA := fun f k h => by
  unfold T_l06HasA at h
  split at h
  · rename_i e; cases h; subst e; exact ⟨l06HasA_ok, l06HasA_fn⟩
  · exact T_l06Arity_ok f k h
attribute [go_sem] T_l06HasA K_l06HasA


def K_l06A : Con := ⟨[.ptr (.prod (.int .i64) (.prod (.int .i64) (.prod (.int .i64) (.row 2 (.int .i64))))), .val (.int .i64)], [⟨.bool, true⟩], fun _ => True, fun x => l06aB x.1.1 x.1.2.1 x.2.1⟩
set_option maxRecDepth 100000 in
set_option maxHeartbeats 1000000 in
theorem l06A_ok : PureT Try.prog 177 K_l06A := by
  refine pure_of_body Try.func177 rfl ?_
  have hres : Try.f177.results.toList = [.tmp 4] := rfl
  rintro ⟨⟨(kd : Int), (a : Int), (bb : Int), (fr : List Int)⟩, (tb : Int), _⟩ hc hL
  simp only [K_l06A, lensOk, PK.lenOk, glensOk, GP.lenOk, flensOk, GO.lenOk, olensOk, Ty.lenOk, Ty.flat, Bool.and_true, Bool.true_and, Bool.and_false, Bool.false_and, true_and, and_true, implies_true, forall_const] at hL
  simp only [K_l06A, St.init, St.initG, Try.ntmps177, go_sem] 
  refine AWP_seq_k fun K1 hK1 => ?_
  refine AWP_region (G := G) (T := T_l06HasA) T_l06HasA_ok ?_
  simp only [go_sem]
  refine hK1 _ ?_
  refine AWP_seq_k fun K2 hK2 => ?_
  refine AWP_seq_k fun K3 hK3 => ?_
  refine AWP_region (G := G) (T := T_l06HasA) T_l06HasA_ok ?_
  simp only [go_sem]
  repeat (with_reducible refine And.intro (by first | omega | exact ⟨rfl, by omega, by omega, by omega⟩) ?_)
  refine hK3 _ ?_
  refine AWP_block ?_
  refine AWP_seq_k fun K4 hK4 => ?_
  refine AWP_region (G := G) (T := T_l06HasA) T_l06HasA_ok ?_
  simp only [go_sem]
  refine hK4 _ ?_
  refine AWP_cond rfl ?_ ?_
  ·
   intro c0
   try simp only [decide_eq_true_eq, decide_eq_false_iff_not, Bool.not_eq_true', Bool.not_eq_false', ne_eq, Int.not_lt, Int.not_le] at c0
   refine AWP_seq_k fun K5 hK5 => ?_
   refine AWP_region (G := G) (T := T_l06HasA) T_l06HasA_ok ?_
   simp (maxSteps := 2000000) only [go_sem]
   repeat (with_reducible refine And.intro (by first | omega | exact ⟨rfl, by omega, by omega, by omega⟩) ?_)
   refine hK5 _ ?_
   refine AWP_ret ?_
   simp only [hres, go_sem]
   first
     | exact finOk_mk (by rfl) (by decide)
     | refine ⟨?_, finOk_mk (by rfl) (by decide)⟩
       clear hK1 hK2 hK3 hK4 hK5; simp_all [l06aB, iMin, iMax]
  ·
   intro c0
   try simp only [decide_eq_true_eq, decide_eq_false_iff_not, Bool.not_eq_true', Bool.not_eq_false', ne_eq, Int.not_lt, Int.not_le] at c0
   refine AWP_seq_k fun K6 hK6 => ?_
   refine AWP_region (G := G) (T := T_l06HasA) T_l06HasA_ok ?_
   simp only [go_sem]
   refine hK6 _ ?_
   refine AWP_cond rfl ?_ ?_
   ·
    intro c1
    try simp only [decide_eq_true_eq, decide_eq_false_iff_not, Bool.not_eq_true', Bool.not_eq_false', ne_eq, Int.not_lt, Int.not_le] at c1
    refine AWP_seq_k fun K7 hK7 => ?_
    refine AWP_region (G := G) (T := T_l06HasA) T_l06HasA_ok ?_
    simp (maxSteps := 2000000) only [go_sem]
    repeat (with_reducible refine And.intro (by first | omega | exact ⟨rfl, by omega, by omega, by omega⟩) ?_)
    refine hK7 _ ?_
    refine AWP_ret ?_
    simp only [hres, go_sem]
    first
      | exact finOk_mk (by rfl) (by decide)
      | refine ⟨?_, finOk_mk (by rfl) (by decide)⟩
        clear hK1 hK2 hK3 hK4 hK6 hK7; simp_all [l06aB, iMin, iMax]
   ·
    intro c1
    try simp only [decide_eq_true_eq, decide_eq_false_iff_not, Bool.not_eq_true', Bool.not_eq_false', ne_eq, Int.not_lt, Int.not_le] at c1
    refine AWP_seq_k fun K8 hK8 => ?_
    refine AWP_region (G := G) (T := T_l06HasA) T_l06HasA_ok ?_
    simp only [go_sem]
    refine hK8 _ ?_
    refine AWP_cond rfl ?_ ?_
    ·
     intro c2
     try simp only [decide_eq_true_eq, decide_eq_false_iff_not, Bool.not_eq_true', Bool.not_eq_false', ne_eq, Int.not_lt, Int.not_le] at c2
     refine AWP_seq_k fun K9 hK9 => ?_
     refine AWP_region (G := G) (T := T_l06HasA) T_l06HasA_ok ?_
     simp (maxSteps := 2000000) only [go_sem]
     repeat (with_reducible refine And.intro (by first | omega | exact ⟨rfl, by omega, by omega, by omega⟩) ?_)
     refine hK9 _ ?_
     refine AWP_ret ?_
     simp only [hres, go_sem]
     first
       | exact finOk_mk (by rfl) (by decide)
       | refine ⟨?_, finOk_mk (by rfl) (by decide)⟩
         clear hK1 hK2 hK3 hK4 hK6 hK8 hK9; simp_all [l06aB, iMin, iMax]
    ·
     intro c2
     try simp only [decide_eq_true_eq, decide_eq_false_iff_not, Bool.not_eq_true', Bool.not_eq_false', ne_eq, Int.not_lt, Int.not_le] at c2
     refine AWP_seq_k fun K10 hK10 => ?_
     refine AWP_region (G := G) (T := T_l06HasA) T_l06HasA_ok ?_
     simp only [go_sem]
     refine hK10 _ ?_
     refine AWP_cond rfl ?_ ?_
     ·
      intro c3
      try simp only [decide_eq_true_eq, decide_eq_false_iff_not, Bool.not_eq_true', Bool.not_eq_false', ne_eq, Int.not_lt, Int.not_le] at c3
      refine AWP_seq_k fun K11 hK11 => ?_
      refine AWP_region (G := G) (T := T_l06HasA) T_l06HasA_ok ?_
      simp (maxSteps := 2000000) only [go_sem]
      repeat (with_reducible refine And.intro (by first | omega | exact ⟨rfl, by omega, by omega, by omega⟩) ?_)
      refine hK11 _ ?_
      refine AWP_ret ?_
      simp only [hres, go_sem]
      first
        | exact finOk_mk (by rfl) (by decide)
        | refine ⟨?_, finOk_mk (by rfl) (by decide)⟩
          clear hK1 hK2 hK3 hK4 hK6 hK8 hK10 hK11; simp_all [l06aB, iMin, iMax]
     ·
      intro c3
      try simp only [decide_eq_true_eq, decide_eq_false_iff_not, Bool.not_eq_true', Bool.not_eq_false', ne_eq, Int.not_lt, Int.not_le] at c3
      refine AWP_seq_k fun K12 hK12 => ?_
      refine AWP_region (G := G) (T := T_l06HasA) T_l06HasA_ok ?_
      simp only [go_sem]
      refine hK12 _ ?_
      refine AWP_cond rfl ?_ ?_
      ·
       intro c4
       try simp only [decide_eq_true_eq, decide_eq_false_iff_not, Bool.not_eq_true', Bool.not_eq_false', ne_eq, Int.not_lt, Int.not_le] at c4
       refine AWP_seq_k fun K13 hK13 => ?_
       have hw : IntKind.i64.wrap (iMin (iMax tb 0) 4 - 1) = iMin (iMax tb 0) 4 - 1 := wrapI (by unfold iMin iMax; omega)
       refine AWP_draw (G := G) (T := T_l06HasA) T_l06HasA_ok mixed
         [[], [0], [0, 1], [0, 1, 2], [], [4], [4, 5], [4, 5, 6], [0, 1, 2, 3, 4, 5, 6, 7], [0, 1, 2, 3, 4, 5, 6, 7, 8]]
         [[], [], [], [], [], [], [], [], [], []]
         [[], [], [], [], [], [], [], [], [], []] (by kernel_rfl) (by kernel_rfl) (adrawR_ok (acc := []) ?_)
       simp (maxSteps := 2000000) only [hw, go_sem]
       repeat (with_reducible refine And.intro (by first | exact chk_leaf (by kernel_rfl) | omega | exact ⟨rfl, by omega, by omega, by omega⟩) ?_)
       refine hK13 _ ?_
       refine AWP_ret ?_
       simp only [hres, go_sem]
       first
         | exact finOk_mk (by rfl) (by decide)
         | refine ⟨?_, finOk_mk (by rfl) (by decide)⟩
           clear hK1 hK2 hK3 hK4 hK6 hK8 hK10 hK12 hK13; simp_all [l06aB, iMin, iMax]
      ·
       intro c4
       try simp only [decide_eq_true_eq, decide_eq_false_iff_not, Bool.not_eq_true', Bool.not_eq_false', ne_eq, Int.not_lt, Int.not_le] at c4
       refine AWP_skip ?_
       simp only [go_sem]
       refine hK2 _ ?_
       refine AWP_seq_k fun K14 hK14 => ?_
       refine AWP_seq_k fun K15 hK15 => ?_
       refine AWP_region (G := G) (T := T_l06HasA) T_l06HasA_ok ?_
       simp (maxSteps := 2000000) only [go_sem]
       repeat (with_reducible refine And.intro (by first | omega | exact ⟨rfl, by omega, by omega, by omega⟩) ?_)
       refine hK15 _ ?_
       refine AWP_cond rfl ?_ ?_
       ·
        intro c5
        try simp only [decide_eq_true_eq, decide_eq_false_iff_not, Bool.not_eq_true', Bool.not_eq_false', ne_eq, Int.not_lt, Int.not_le] at c5
        refine AWP_seq_k fun K16 hK16 => ?_
        refine AWP_region (G := G) (T := T_l06HasA) T_l06HasA_ok ?_
        simp (maxSteps := 2000000) only [go_sem]
        repeat (with_reducible refine And.intro (by first | omega | exact ⟨rfl, by omega, by omega, by omega⟩) ?_)
        refine hK16 _ ?_
        refine AWP_ret ?_
        simp only [hres, go_sem]
        first
          | exact finOk_mk (by rfl) (by decide)
          | refine ⟨?_, finOk_mk (by rfl) (by decide)⟩
            clear hK1 hK2 hK3 hK4 hK6 hK8 hK10 hK12 hK14 hK15 hK16; simp_all [l06aB, iMin, iMax]
       ·
        intro c5
        try simp only [decide_eq_true_eq, decide_eq_false_iff_not, Bool.not_eq_true', Bool.not_eq_false', ne_eq, Int.not_lt, Int.not_le] at c5
        refine AWP_skip ?_
        simp only [go_sem]
        refine hK14 _ ?_
        refine AWP_seq_k fun K17 hK17 => ?_
        refine AWP_region (G := G) (T := T_l06HasA) T_l06HasA_ok ?_
        simp (maxSteps := 2000000) only [go_sem]
        repeat (with_reducible refine And.intro (by first | omega | exact ⟨rfl, by omega, by omega, by omega⟩) ?_)
        refine hK17 _ ?_
        refine AWP_ret ?_
        simp only [hres, go_sem]
        first
          | exact finOk_mk (by rfl) (by decide)
          | refine ⟨?_, finOk_mk (by rfl) (by decide)⟩
            clear hK1 hK2 hK3 hK4 hK6 hK8 hK10 hK12 hK14 hK15 hK17; simp_all [l06aB, iMin, iMax]

theorem l06A_fn : FnOk Try.prog 177 := fnOk_of Try.func177 rfl (by decide)

def T_l06A : Tab := fun f => if f = 177 then some (.p K_l06A) else T_l06HasA f
theorem T_l06A_ok : TabOk Try.prog T_l06A := fun f k h => by
  unfold T_l06A at h
  split at h
  · rename_i e; cases h; subst e; exact ⟨l06A_ok, l06A_fn⟩
  · exact T_l06HasA_ok f k h
attribute [go_sem] T_l06A K_l06A

end Go.Proofs.Ythglggjgjlmhlaa
