/-
  Contracts of functions: at, l03At, isSignal, areSignals, isCount, areInputs, l08Signals.
-/
import Derived.Test.YthglggjgjlmhlaaGreatHr1
import Derived.Test.YthglggjgjlmhlaaGreatGa1
import Derived.Test.YthglggjgjlmhlaaGreatGb1
import Derived.Test.YthglggjgjlmhlaaGreatPi
namespace Go.Proofs.YthglggjgjlmhlaaGreat
open Go.RowKit
set_option linter.unusedSimpArgs false
set_option linter.unusedVariables false

def T_mHb100 : Tab := fun f => match T_l07Map f with
  | some k => some k
  | none => T_kinds f
theorem T_mHb100_ok : TabOk Tryz.prog T_mHb100 := fun f k h => by
  unfold T_mHb100 at h
  split at h
  · rename_i e; cases h; exact T_l07Map_ok f _ e
  · exact T_kinds_ok f k h
attribute [go_sem] T_mHb100 T0


def T_mHb101 : Tab := fun f => match T_mHb100 f with
  | some k => some k
  | none => T_l06A f
theorem T_mHb101_ok : TabOk Tryz.prog T_mHb101 := fun f k h => by
  unfold T_mHb101 at h
  split at h
  · rename_i e; cases h; exact T_mHb100_ok f _ e
  · exact T_l06A_ok f k h
attribute [go_sem] T_mHb101 T0


def K_implAt : Con := ⟨[.val ((.row 2 (.int .i64))), .val (.int .i64)], [⟨.int .i64, true⟩], fun x => inR x.2.1 0 9223372036854775807 = true, fun x => x.1.getD (Int.toNat x.2.1) 0⟩
set_option maxRecDepth 100000 in
set_option maxHeartbeats 1000000 in
theorem implAt_ok : PureT Tryz.prog 58 K_implAt := by
  refine pure_of_body Tryz.func58 rfl ?_
  have hres : Tryz.f58.results.toList = [.tmp 4] := rfl
  rintro ⟨(xs : List Int), (x : Int), _⟩ hc hL
  simp only [K_implAt, lensOk, PK.lenOk, glensOk, GP.lenOk, flensOk, GO.lenOk, olensOk, Ty.lenOk, Ty.flat, Bool.and_true, Bool.true_and, Bool.and_false, Bool.false_and, true_and, and_true, implies_true, forall_const] at hL
  obtain lxs := hL
  simp only [K_implAt, St.init, St.initG, Tryz.ntmps58, go_sem] 
  have hx : 0 ≤ x := (inR_iff.1 (show inR x _ _ = true from hc)).1
  refine AWP_seq_k fun K1 hK1 => ?_
  refine AWP_region (G := G) (T := T_mHb101) T_mHb101_ok ?_
  simp only [go_sem]
  refine hK1 _ ?_
  refine AWP_seq_k fun K2 hK2 => ?_
  refine AWP_seq_k fun K3 hK3 => ?_
  refine AWP_region (G := G) (T := T_mHb101) T_mHb101_ok ?_
  simp only [go_sem]
  repeat (with_reducible refine And.intro (by first | omega | exact ⟨rfl, by omega, by omega, by omega⟩) ?_)
  refine hK3 _ ?_
  refine AWP_cond rfl ?_ ?_
  ·
   intro c0
   try simp only [decide_eq_true_eq, decide_eq_false_iff_not, Bool.not_eq_true', Bool.not_eq_false', ne_eq, Int.not_lt, Int.not_le] at c0
   refine AWP_seq_k fun K4 hK4 => ?_
   refine AWP_region (G := G) (T := T_mHb101) T_mHb101_ok ?_
   simp only [go_sem]
   refine hK4 _ ?_
   refine AWP_ret ?_
   simp only [hres, go_sem]
   first
     | exact finOk_mk (by rfl) (by decide)
     | refine ⟨?_, finOk_mk (by rfl) (by decide)⟩
       exact (getD_out (by omega)).symm
  ·
   intro c0
   try simp only [decide_eq_true_eq, decide_eq_false_iff_not, Bool.not_eq_true', Bool.not_eq_false', ne_eq, Int.not_lt, Int.not_le] at c0
   refine AWP_skip ?_
   simp only [go_sem]
   refine hK2 _ ?_
   refine AWP_seq_k fun K5 hK5 => ?_
   refine AWP_region (G := G) (T := T_mHb101) T_mHb101_ok ?_
   simp (maxSteps := 2000000) only [go_sem]
   repeat (with_reducible refine And.intro (by first | omega | exact ⟨rfl, by omega, by omega, by omega⟩) ?_)
   refine hK5 _ ?_
   refine AWP_ret ?_
   simp only [hres, go_sem]
   first
     | exact finOk_mk (by rfl) (by decide)
     | refine ⟨?_, finOk_mk (by rfl) (by decide)⟩
       rfl

theorem implAt_fn : FnOk Tryz.prog 58 := fnOk_of Tryz.func58 rfl (by decide)

def T_implAt : Tab := fun f => if f = 58 then some (.p K_implAt) else T_mHb101 f
theorem T_implAt_ok : TabOk Tryz.prog T_implAt := fun f k h => by
  unfold T_implAt at h
  split at h
  · rename_i e; cases h; subst e; exact ⟨implAt_ok, implAt_fn⟩
  · exact T_mHb101_ok f k h
attribute [go_sem] T_implAt K_implAt


def K_l03At : Con := ⟨[.val ((.row 2 (.int .i64))), .val (.int .i64)], [⟨.int .i64, true⟩], fun x => inR x.2.1 0 9223372036854775807 = true, fun x => x.1.getD (Int.toNat x.2.1) 0⟩
set_option maxRecDepth 100000 in
set_option maxHeartbeats 1000000 in
theorem l03At_ok : PureT Tryz.prog 45 K_l03At := by
  refine pure_of_body Tryz.func45 rfl ?_
  have hres : Tryz.f45.results.toList = [.tmp 4] := rfl
  rintro ⟨(xs : List Int), (x : Int), _⟩ hc hL
  simp only [K_l03At, lensOk, PK.lenOk, glensOk, GP.lenOk, flensOk, GO.lenOk, olensOk, Ty.lenOk, Ty.flat, Bool.and_true, Bool.true_and, Bool.and_false, Bool.false_and, true_and, and_true, implies_true, forall_const] at hL
  obtain lxs := hL
  simp only [K_l03At, St.init, St.initG, Tryz.ntmps45, go_sem] 
  have hx : 0 ≤ x := (inR_iff.1 (show inR x _ _ = true from hc)).1
  have hw : IntKind.i64.wrap ((xs.length : Int) - 1) = xs.length - 1 := wrapI (by omega)
  refine AWP_seq_k fun K1 hK1 => ?_
  refine AWP_region (G := G) (T := T_implAt) T_implAt_ok ?_
  simp only [go_sem]
  refine hK1 _ ?_
  refine AWP_seq_k fun K2 hK2 => ?_
  refine AWP_seq_k fun K3 hK3 => ?_
  refine AWP_region (G := G) (T := T_implAt) T_implAt_ok ?_
  simp (maxSteps := 2000000) only [hw, go_sem]
  repeat (with_reducible refine And.intro (by first | omega | exact ⟨rfl, by omega, by omega, by omega⟩) ?_)
  refine hK3 _ ?_
  refine AWP_cond rfl ?_ ?_
  ·
   intro c0
   try simp only [decide_eq_true_eq, decide_eq_false_iff_not, Bool.not_eq_true', Bool.not_eq_false', ne_eq, Int.not_lt, Int.not_le] at c0
   have hq : xs.length ≤ x.toNat := by have := inR_iff_f.1 c0; omega
   refine AWP_seq_k fun K4 hK4 => ?_
   refine AWP_region (G := G) (T := T_implAt) T_implAt_ok ?_
   simp only [go_sem]
   refine hK4 _ ?_
   refine AWP_ret ?_
   simp only [hres, go_sem]
   first
     | exact finOk_mk (by rfl) (by decide)
     | refine ⟨?_, finOk_mk (by rfl) (by decide)⟩
       exact (getD_out hq).symm
  ·
   intro c0
   try simp only [decide_eq_true_eq, decide_eq_false_iff_not, Bool.not_eq_true', Bool.not_eq_false', ne_eq, Int.not_lt, Int.not_le] at c0
   obtain ⟨hq1, hq2⟩ := inR_iff.1 c0
   refine AWP_skip ?_
   simp only [go_sem]
   refine hK2 _ ?_
   refine AWP_seq_k fun K5 hK5 => ?_
   refine AWP_region (G := G) (T := T_implAt) T_implAt_ok ?_
   simp (maxSteps := 2000000) only [go_sem]
   repeat (with_reducible refine And.intro (by first | omega | exact ⟨rfl, by omega, by omega, by omega⟩) ?_)
   refine hK5 _ ?_
   refine AWP_ret ?_
   simp only [hres, go_sem]
   first
     | exact finOk_mk (by rfl) (by decide)
     | refine ⟨?_, finOk_mk (by rfl) (by decide)⟩
       rfl

theorem l03At_fn : FnOk Tryz.prog 45 := fnOk_of Tryz.func45 rfl (by decide)

def T_l03At : Tab := fun f => if f = 45 then some (.p K_l03At) else T_implAt f
theorem T_l03At_ok : TabOk Tryz.prog T_l03At := fun f k h => by
  unfold T_l03At at h
  split at h
  · rename_i e; cases h; subst e; exact ⟨l03At_ok, l03At_fn⟩
  · exact T_implAt_ok f k h
attribute [go_sem] T_l03At K_l03At


def K_isSignal : Con := ⟨[.val ((.row 2 (.int .i64)))], [⟨.bool, true⟩], fun _ => True, fun x => l03B x.1⟩
set_option maxRecDepth 100000 in
set_option maxHeartbeats 1000000 in
theorem isSignal_ok : PureT Tryz.prog 74 K_isSignal := by
  refine pure_of_body Tryz.func74 rfl ?_
  have hres : Tryz.f74.results.toList = [.tmp 2] := rfl
  rintro ⟨(xs : List Int), _⟩ hc hL
  simp only [K_isSignal, lensOk, PK.lenOk, glensOk, GP.lenOk, flensOk, GO.lenOk, olensOk, Ty.lenOk, Ty.flat, Bool.and_true, Bool.true_and, Bool.and_false, Bool.false_and, true_and, and_true, implies_true, forall_const] at hL
  simp only [K_isSignal, St.init, St.initG, Tryz.ntmps74, go_sem] 
  refine AWP_seq_k fun K1 hK1 => ?_
  refine AWP_region (G := G) (T := T_l03At) T_l03At_ok ?_
  simp only [go_sem]
  refine hK1 _ ?_
  refine AWP_seq_k fun K2 hK2 => ?_
  refine AWP_region (G := G) (T := T_l03At) T_l03At_ok ?_
  simp (maxSteps := 2000000) only [go_sem]
  repeat' (first | (with_reducible refine And.intro (by first | omega | exact ⟨rfl, by omega, by omega, by omega⟩) ?_) | (with_reducible refine gcase_dt (fun g1 => ?_) (fun g1 => ?_)) | (with_reducible refine gcase_df (fun g1 => ?_) (fun g1 => ?_)) | (with_reducible refine gcase_ndt (fun g1 => ?_) (fun g1 => ?_)) | (with_reducible refine gcase_ndf (fun g1 => ?_) (fun g1 => ?_)) | (with_reducible refine gcase_nt (fun g1 => ?_) (fun g1 => ?_)) | (with_reducible refine gcase_nf (fun g1 => ?_) (fun g1 => ?_)) | (with_reducible refine gcase_mk (fun g1 => ?_) (fun g1 => ?_)))
  all_goals
   refine hK2 _ ?_
   refine AWP_ret ?_
   simp only [hres, go_sem]
   first
     | exact finOk_mk (by rfl) (by decide)
     | refine ⟨?_, finOk_mk (by rfl) (by decide)⟩
       first | exact (l03B_s (by omega)).symm | (unfold l03B; rw [decide_eq_false (by omega)]; rfl)

theorem isSignal_fn : FnOk Tryz.prog 74 := fnOk_of Tryz.func74 rfl (by decide)

def T_isSignal : Tab := fun f => if f = 74 then some (.p K_isSignal) else T_l03At f
theorem T_isSignal_ok : TabOk Tryz.prog T_isSignal := fun f k h => by
  unfold T_isSignal at h
  split at h
  · rename_i e; cases h; subst e; exact ⟨isSignal_ok, isSignal_fn⟩
  · exact T_l03At_ok f k h
attribute [go_sem] T_isSignal K_isSignal


def K_areSignals : Con := ⟨[.val ((.row 24 (.row 2 (.int .i64))))], [⟨.bool, true⟩], fun _ => True, fun x => x.1.all l03B⟩
set_option maxRecDepth 100000 in
set_option maxHeartbeats 1000000 in
theorem areSignals_ok : PureT Tryz.prog 52 K_areSignals := by
  refine pure_of_body Tryz.func52 rfl ?_
  have hres : Tryz.f52.results.toList = [.tmp 2] := rfl
  rintro ⟨(xs : List (List Int)), _⟩ hc hL
  simp only [K_areSignals, lensOk, PK.lenOk, glensOk, GP.lenOk, flensOk, GO.lenOk, olensOk, Ty.lenOk, Ty.flat, Bool.and_true, Bool.true_and, Bool.and_false, Bool.false_and, true_and, and_true, implies_true, forall_const] at hL
  obtain ⟨lxs, lxs2⟩ := hL
  simp only [K_areSignals, St.init, St.initG, Tryz.ntmps52, go_sem] 
  refine AWP_seq_k fun K1 hK1 => ?_
  refine AWP_region (G := G) (T := T_isSignal) T_isSignal_ok ?_
  simp only [go_sem]
  refine hK1 _ ?_
  refine AWP_seq_k fun K2 hK2 => ?_
  refine AWP_seq_k fun K3 hK3 => ?_
  refine AWP_region (G := G) (T := T_isSignal) T_isSignal_ok ?_
  simp only [go_sem]
  refine hK3 _ ?_
  refine AWP_block ?_
  refine AWP_loop_k (ι := { k : Nat // k ≤ xs.length ∧ (xs.take k).all l03B = true }) (fun k => ⟨[zz, zz, zz, zz, zz, .c (.rd [] 24 (.row 2 (.int .i64)) (xs)), .c (.sc (.int .i64 (xs.length))), .c (.sc (.int .i64 (k.1))), zz, zz, zz, zz, zz, zz, zz], []⟩) (fun k => xs.length - k.1) ⟨0, by simp⟩ ?_ ?_
  ·
   refine Wk_to (by rfl) ?_
   simp (maxSteps := 2000000) only [go_sem]
   all_goals (first | rfl | ((repeat' refine And.intro ?_ ?_) <;> first | rfl | simp))
  rintro ⟨k, hk, hp⟩ K4 hL4
  refine AWP_seq_k fun K5 hK5 => ?_
  refine AWP_region (G := G) (T := T_isSignal) T_isSignal_ok ?_
  simp only [go_sem]
  refine hK5 _ ?_
  refine AWP_seq_k fun K6 hK6 => ?_
  refine AWP_cond rfl ?_ ?_
  ·
   intro c0
   try simp only [decide_eq_true_eq, decide_eq_false_iff_not, Bool.not_eq_true', Bool.not_eq_false', ne_eq, Int.not_lt, Int.not_le] at c0
   refine AWP_skip ?_
   simp only [go_sem]
   refine hK6 _ ?_
   refine AWP_seq_k fun K7 hK7 => ?_
   refine AWP_block ?_
   refine AWP_seq_k fun K8 hK8 => ?_
   refine AWP_region (G := G) (T := T_isSignal) T_isSignal_ok ?_
   simp only [go_sem]
   repeat (with_reducible refine And.intro (by first | omega | exact ⟨rfl, by omega, by omega, by omega⟩) ?_)
   refine hK8 _ ?_
   refine AWP_seq_k fun K9 hK9 => ?_
   refine AWP_region (G := G) (T := T_isSignal) T_isSignal_ok ?_
   simp only [go_sem]
   repeat (with_reducible refine And.intro (by first | omega | exact ⟨rfl, by omega, by omega, by omega⟩) ?_)
   refine hK9 _ ?_
   refine AWP_cond rfl ?_ ?_
   ·
    intro c1
    try simp only [decide_eq_true_eq, decide_eq_false_iff_not, Bool.not_eq_true', Bool.not_eq_false', ne_eq, Int.not_lt, Int.not_le] at c1
    refine AWP_seq_k fun K10 hK10 => ?_
    refine AWP_region (G := G) (T := T_isSignal) T_isSignal_ok ?_
    simp only [go_sem]
    refine hK10 _ ?_
    refine AWP_ret ?_
    simp only [hres, go_sem]
    first
      | exact finOk_mk (by rfl) (by decide)
      | refine ⟨?_, finOk_mk (by rfl) (by decide)⟩
        exact (all_stop (k := k) (d := []) (by omega) (by first | assumption | (clear hp; clear hK1 hK2 hK3 hL4 hK5 hK6 hK7 hK8 hK9 hK10; simp_all))).symm
   ·
    intro c1
    try simp only [decide_eq_true_eq, decide_eq_false_iff_not, Bool.not_eq_true', Bool.not_eq_false', ne_eq, Int.not_lt, Int.not_le] at c1
    refine AWP_skip ?_
    simp only [go_sem]
    refine hK7 _ ?_
    refine AWP_region (G := G) (T := T_isSignal) T_isSignal_ok ?_
    simp only [go_sem]
    refine hL4 ⟨k + 1, by omega, all_next (d := []) (by omega) hp (by first | assumption | (clear hK1 hK2 hK3 hL4 hK5 hK6 hK7 hK8 hK9; simp_all))⟩ _ (Wk_to (by rfl) ?_) ?_
    ·
     simp (maxSteps := 2000000) only [go_sem]
     first | rfl | exact wk (by omega)
    ·
     first | (simp only []; omega) | omega | (simp; omega)
  ·
   intro c0
   try simp only [decide_eq_true_eq, decide_eq_false_iff_not, Bool.not_eq_true', Bool.not_eq_false', ne_eq, Int.not_lt, Int.not_le] at c0
   refine AWP_exit ?_
   simp only [go_sem]
   refine hK2 _ ?_
   refine AWP_seq_k fun K11 hK11 => ?_
   refine AWP_region (G := G) (T := T_isSignal) T_isSignal_ok ?_
   simp only [go_sem]
   refine hK11 _ ?_
   refine AWP_ret ?_
   simp only [hres, go_sem]
   first
     | exact finOk_mk (by rfl) (by decide)
     | refine ⟨?_, finOk_mk (by rfl) (by decide)⟩
       exact (all_done hp (by omega)).symm

theorem areSignals_fn : FnOk Tryz.prog 52 := fnOk_of Tryz.func52 rfl (by decide)

def T_areSignals : Tab := fun f => if f = 52 then some (.p K_areSignals) else T_isSignal f
theorem T_areSignals_ok : TabOk Tryz.prog T_areSignals := fun f k h => by
  unfold T_areSignals at h
  split at h
  · rename_i e; cases h; subst e; exact ⟨areSignals_ok, areSignals_fn⟩
  · exact T_isSignal_ok f k h
attribute [go_sem] T_areSignals K_areSignals


def K_isCount : Con := ⟨[.val (.int .i64)], [⟨.bool, true⟩], fun _ => True, fun x => inR x.1 0 4000⟩
set_option maxRecDepth 100000 in
set_option maxHeartbeats 1000000 in
theorem isCount_ok : PureT Tryz.prog 31 K_isCount := by
  refine pure_of_body Tryz.func31 rfl ?_
  have hres : Tryz.f31.results.toList = [.tmp 2] := rfl
  rintro ⟨(x : Int), _⟩ hc hL
  simp only [K_isCount, lensOk, PK.lenOk, glensOk, GP.lenOk, flensOk, GO.lenOk, olensOk, Ty.lenOk, Ty.flat, Bool.and_true, Bool.true_and, Bool.and_false, Bool.false_and, true_and, and_true, implies_true, forall_const] at hL
  simp only [K_isCount, St.init, St.initG, Tryz.ntmps31, go_sem] 
  refine AWP_seq_k fun K1 hK1 => ?_
  refine AWP_region (G := G) (T := T_areSignals) T_areSignals_ok ?_
  simp only [go_sem]
  refine hK1 _ ?_
  refine AWP_seq_k fun K2 hK2 => ?_
  refine AWP_region (G := G) (T := T_areSignals) T_areSignals_ok ?_
  simp only [go_sem]
  repeat (with_reducible refine And.intro (by first | omega | exact ⟨rfl, by omega, by omega, by omega⟩) ?_)
  refine hK2 _ ?_
  refine AWP_ret ?_
  simp only [hres, go_sem]
  first
    | exact finOk_mk (by rfl) (by decide)
    | refine ⟨?_, finOk_mk (by rfl) (by decide)⟩
      rfl

theorem isCount_fn : FnOk Tryz.prog 31 := fnOk_of Tryz.func31 rfl (by decide)

def T_isCount : Tab := fun f => if f = 31 then some (.p K_isCount) else T_areSignals f
theorem T_isCount_ok : TabOk Tryz.prog T_isCount := fun f k h => by
  unfold T_isCount at h
  split at h
  · rename_i e; cases h; subst e; exact ⟨isCount_ok, isCount_fn⟩
  · exact T_areSignals_ok f k h
attribute [go_sem] T_isCount K_isCount


def K_areInputs : Con := ⟨[.val ((.prod (.int .i64) (.prod (.row 24 (.row 2 (.int .i64))) (.prod (.row 75 (.prod (.int .i64) (.prod (.int .i64) (.prod (.int .i64) (.row 2 (.int .i64)))))) (.row 2 (.int .i64)))))), .val ((.row 24 (.row 2 (.int .i64))))], [⟨.bool, true⟩], fun _ => True, fun x => sigB x.1 x.2.1⟩
set_option maxRecDepth 100000 in
set_option maxHeartbeats 1000000 in
theorem areInputs_ok : PureT Tryz.prog 30 K_areInputs := by
  refine pure_of_body Tryz.func30 rfl ?_
  have hres : Tryz.f30.results.toList = [.tmp 4] := rfl
  rintro ⟨⟨(pi : Int), (ts : List (List Int)), (ns : List NodeD), (os : List Int)⟩, (ins : List (List Int)), _⟩ hc hL
  simp only [K_areInputs, lensOk, PK.lenOk, glensOk, GP.lenOk, flensOk, GO.lenOk, olensOk, Ty.lenOk, Ty.flat, Bool.and_true, Bool.true_and, Bool.and_false, Bool.false_and, true_and, and_true, implies_true, forall_const] at hL
  simp only [K_areInputs, St.init, St.initG, Tryz.ntmps30, go_sem] 
  refine AWP_seq_k fun K1 hK1 => ?_
  refine AWP_region (G := G) (T := T_isCount) T_isCount_ok ?_
  simp only [go_sem]
  refine hK1 _ ?_
  refine AWP_seq_k fun K2 hK2 => ?_
  refine AWP_draw (G := G) (T := T_isCount) T_isCount_ok mixed
    [[], [0], [], [2], [0, 1, 2, 3], [0, 1, 2, 3, 4], [0, 1, 2, 3, 4, 5], [0, 1, 2, 3, 4, 5, 6], [0, 1, 2, 3, 4, 5, 6, 7], [0, 1, 2, 3, 4, 5, 6, 7, 8]]
    [[], [], [], [], [], [], [], [], [], []]
    [[], [], [], [], [], [], [], [], [], []] (by kernel_rfl) (by kernel_rfl) (adrawR_ok (acc := []) ?_)
  simp (maxSteps := 2000000) only [go_sem]
  repeat' (first | (with_reducible refine And.intro (by first | exact chk_leaf (by kernel_rfl) | omega | exact ⟨rfl, by omega, by omega, by omega⟩) ?_) | (with_reducible refine gcase_dt (fun g1 => ?_) (fun g1 => ?_)) | (with_reducible refine gcase_df (fun g1 => ?_) (fun g1 => ?_)) | (with_reducible refine gcase_ndt (fun g1 => ?_) (fun g1 => ?_)) | (with_reducible refine gcase_ndf (fun g1 => ?_) (fun g1 => ?_)) | (with_reducible refine gcase_nt (fun g1 => ?_) (fun g1 => ?_)) | (with_reducible refine gcase_nf (fun g1 => ?_) (fun g1 => ?_)) | (with_reducible refine gcase_mk (fun g1 => ?_) (fun g1 => ?_)))
  all_goals
   refine hK2 _ ?_
   refine AWP_ret ?_
   simp only [hres, go_sem]
   first
     | exact finOk_mk (by rfl) (by decide)
     | refine ⟨?_, finOk_mk (by rfl) (by decide)⟩
       clear hK1 hK2; simp_all [sigB]

theorem areInputs_fn : FnOk Tryz.prog 30 := fnOk_of Tryz.func30 rfl (by decide)

def T_areInputs : Tab := fun f => if f = 30 then some (.p K_areInputs) else T_isCount f
theorem T_areInputs_ok : TabOk Tryz.prog T_areInputs := fun f k h => by
  unfold T_areInputs at h
  split at h
  · rename_i e; cases h; subst e; exact ⟨areInputs_ok, areInputs_fn⟩
  · exact T_isCount_ok f k h
attribute [go_sem] T_areInputs K_areInputs


def K_l08Signals : Con := ⟨[.ptr (.prod (.int .i64) (.prod (.row 24 (.row 2 (.int .i64))) (.prod (.row 75 (.prod (.int .i64) (.prod (.int .i64) (.prod (.int .i64) (.row 2 (.int .i64)))))) (.row 2 (.int .i64))))), .val ((.row 24 (.row 2 (.int .i64))))], [⟨.bool, true⟩], fun _ => True, fun x => sigB x.1 x.2.1⟩
set_option maxRecDepth 100000 in
set_option maxHeartbeats 1000000 in
theorem l08Signals_ok : PureT Tryz.prog 23 K_l08Signals := by
  refine pure_of_body Tryz.func23 rfl ?_
  have hres : Tryz.f23.results.toList = [.tmp 4] := rfl
  rintro ⟨⟨(pi : Int), (ts : List (List Int)), (ns : List NodeD), (os : List Int)⟩, (ins : List (List Int)), _⟩ hc hL
  simp only [K_l08Signals, lensOk, PK.lenOk, glensOk, GP.lenOk, flensOk, GO.lenOk, olensOk, Ty.lenOk, Ty.flat, Bool.and_true, Bool.true_and, Bool.and_false, Bool.false_and, true_and, and_true, implies_true, forall_const] at hL
  simp only [K_l08Signals, St.init, St.initG, Tryz.ntmps23, go_sem] 
  refine AWP_seq_k fun K1 hK1 => ?_
  refine AWP_region (G := G) (T := T_areInputs) T_areInputs_ok ?_
  simp only [go_sem]
  refine hK1 _ ?_
  refine AWP_seq_k fun K2 hK2 => ?_
  refine AWP_seq_k fun K3 hK3 => ?_
  refine AWP_region (G := G) (T := T_areInputs) T_areInputs_ok ?_
  simp only [go_sem]
  refine hK3 _ ?_
  refine AWP_block ?_
  refine AWP_loop_k (ι := { k : Nat // k ≤ ins.length ∧ (ins.take k).all l03B = true }) (fun k => ⟨[.c (.pt [] ((.prod (.int .i64) (.prod (.row 24 (.row 2 (.int .i64))) (.prod (.row 75 (.prod (.int .i64) (.prod (.int .i64) (.prod (.int .i64) (.row 2 (.int .i64)))))) (.row 2 (.int .i64)))))) (pi, ts, ns, os) 0), .c (.rd [] 24 (.row 2 (.int .i64)) (ins)), zz, zz, zz, .c (.sc (.int .i64 (k.1))), zz, zz, zz, zz, zz, zz, zz, zz, zz, zz, zz, zz, zz, zz, zz, zz, zz, zz, zz], []⟩) (fun k => ins.length - k.1) ⟨0, by simp⟩ ?_ ?_
  ·
   refine Wk_to (by rfl) ?_
   simp (maxSteps := 2000000) only [go_sem]
   all_goals (first | rfl | ((repeat' refine And.intro ?_ ?_) <;> first | rfl | simp))
  rintro ⟨k, hk, hp⟩ K4 hL4
  refine AWP_seq_k fun K5 hK5 => ?_
  refine AWP_seq_k fun K6 hK6 => ?_
  refine AWP_region (G := G) (T := T_areInputs) T_areInputs_ok ?_
  simp only [go_sem]
  refine hK6 _ ?_
  refine AWP_cond rfl ?_ ?_
  ·
   intro c0
   try simp only [decide_eq_true_eq, decide_eq_false_iff_not, Bool.not_eq_true', Bool.not_eq_false', ne_eq, Int.not_lt, Int.not_le] at c0
   refine AWP_skip ?_
   simp only [go_sem]
   refine hK5 _ ?_
   refine AWP_seq_k fun K7 hK7 => ?_
   refine AWP_block ?_
   refine AWP_seq_k fun K8 hK8 => ?_
   refine AWP_region (G := G) (T := T_areInputs) T_areInputs_ok ?_
   simp (maxSteps := 2000000) only [go_sem]
   repeat (with_reducible refine And.intro (by first | omega | exact ⟨rfl, by omega, by omega, by omega⟩) ?_)
   refine hK8 _ ?_
   refine AWP_cond rfl ?_ ?_
   ·
    intro c1
    try simp only [decide_eq_true_eq, decide_eq_false_iff_not, Bool.not_eq_true', Bool.not_eq_false', ne_eq, Int.not_lt, Int.not_le] at c1
    refine AWP_seq_k fun K9 hK9 => ?_
    refine AWP_region (G := G) (T := T_areInputs) T_areInputs_ok ?_
    simp only [go_sem]
    refine hK9 _ ?_
    refine AWP_ret ?_
    simp only [hres, go_sem]
    first
      | exact finOk_mk (by rfl) (by decide)
      | refine ⟨?_, finOk_mk (by rfl) (by decide)⟩
        have hal : ins.all l03B = false := all_stop (k := k) (d := []) (by omega) (by first | assumption | (clear hK1 hK2 hK3 hL4 hK5 hK6 hK7 hK8 hK9; simp_all))
        unfold sigB; rw [hal, Bool.and_false]
   ·
    intro c1
    try simp only [decide_eq_true_eq, decide_eq_false_iff_not, Bool.not_eq_true', Bool.not_eq_false', ne_eq, Int.not_lt, Int.not_le] at c1
    refine AWP_skip ?_
    simp only [go_sem]
    refine hK7 _ ?_
    refine AWP_region (G := G) (T := T_areInputs) T_areInputs_ok ?_
    simp only [go_sem]
    refine hL4 ⟨k + 1, by omega, all_next (d := []) (by omega) hp (by first | assumption | (clear hK1 hK2 hK3 hL4 hK5 hK6 hK7 hK8; simp_all))⟩ _ (Wk_to (by rfl) ?_) ?_
    ·
     simp (maxSteps := 2000000) only [go_sem]
     first | rfl | exact wk (by omega)
    ·
     first | (simp only []; omega) | omega | (simp; omega)
  ·
   intro c0
   try simp only [decide_eq_true_eq, decide_eq_false_iff_not, Bool.not_eq_true', Bool.not_eq_false', ne_eq, Int.not_lt, Int.not_le] at c0
   refine AWP_exit ?_
   simp only [go_sem]
   refine hK2 _ ?_
   refine AWP_seq_k fun K10 hK10 => ?_
   refine AWP_region (G := G) (T := T_areInputs) T_areInputs_ok ?_
   simp (maxSteps := 2000000) only [go_sem]
   repeat (with_reducible refine And.intro (by first | omega | exact ⟨rfl, by omega, by omega, by omega⟩) ?_)
   refine hK10 _ ?_
   refine AWP_ret ?_
   simp only [hres, go_sem]
   first
     | exact finOk_mk (by rfl) (by decide)
     | refine ⟨?_, finOk_mk (by rfl) (by decide)⟩
       have hal : ins.all l03B = true := all_done hp (by omega)
       unfold sigB; rw [hal, Bool.and_true]

theorem l08Signals_fn : FnOk Tryz.prog 23 := fnOk_of Tryz.func23 rfl (by decide)

def T_l08Signals : Tab := fun f => if f = 23 then some (.p K_l08Signals) else T_areInputs f
theorem T_l08Signals_ok : TabOk Tryz.prog T_l08Signals := fun f k h => by
  unfold T_l08Signals at h
  split at h
  · rename_i e; cases h; subst e; exact ⟨l08Signals_ok, l08Signals_fn⟩
  · exact T_areInputs_ok f k h
attribute [go_sem] T_l08Signals K_l08Signals

end Go.Proofs.YthglggjgjlmhlaaGreat
