/-
  Contracts of functions: within, l00In, isSample, l01Sample, areSamples, size[int64], Node], size[[]int64], isKind, hasA, kinds.
-/
import Derived.Test.YthglggjgjlmhlaaPe
namespace Go.Proofs.Ythglggjgjlmhlaa
open Go.RowKit
set_option linter.unusedSimpArgs false
set_option linter.unusedVariables false

def K_within : Con := ⟨[.val (.int .i64), .val (.int .i64), .val (.int .i64)], [⟨.bool, true⟩], fun _ => True, fun x => inR x.1 x.2.1 x.2.2.1⟩
set_option maxRecDepth 100000 in
set_option maxHeartbeats 1000000 in
theorem within_ok : PureT Try.prog 79 K_within := by
  refine pure_of_body Try.func79 rfl ?_
  have hres : Try.f79.results.toList = [.tmp 6] := rfl
  rintro ⟨(x : Int), (lo : Int), (hi : Int), _⟩ hc hL
  simp only [K_within, lensOk, PK.lenOk, glensOk, GP.lenOk, flensOk, GO.lenOk, olensOk, Ty.lenOk, Ty.flat, Bool.and_true, Bool.true_and, Bool.and_false, Bool.false_and, true_and, and_true, implies_true, forall_const] at hL
  simp only [K_within, St.init, St.initG, Try.ntmps79, go_sem] 
  refine AWP_seq_k fun K1 hK1 => ?_
  refine AWP_region (G := G) (T := T0) T0_ok ?_
  simp only [go_sem]
  refine hK1 _ ?_
  refine AWP_seq_k fun K2 hK2 => ?_
  refine AWP_region (G := G) (T := T0) T0_ok ?_
  simp (maxSteps := 2000000) only [go_sem]
  repeat' (first | (with_reducible refine And.intro (by first | omega | exact ⟨rfl, by omega, by omega, by omega⟩) ?_) | (with_reducible refine gcase_dt (fun g1 => ?_) (fun g1 => ?_)) | (with_reducible refine gcase_df (fun g1 => ?_) (fun g1 => ?_)) | (with_reducible refine gcase_ndt (fun g1 => ?_) (fun g1 => ?_)) | (with_reducible refine gcase_ndf (fun g1 => ?_) (fun g1 => ?_)) | (with_reducible refine gcase_nt (fun g1 => ?_) (fun g1 => ?_)) | (with_reducible refine gcase_nf (fun g1 => ?_) (fun g1 => ?_)) | (with_reducible refine gcase_mk (fun g1 => ?_) (fun g1 => ?_)))
  all_goals
   refine hK2 _ ?_
   refine AWP_ret ?_
   simp only [hres, go_sem]
   first
     | exact finOk_mk (by rfl) (by decide)
     | refine ⟨?_, finOk_mk (by rfl) (by decide)⟩
       first | rw [inR, decide_eq_true (show lo ≤ x from g1), Bool.true_and] | rw [inR, decide_eq_false (show ¬ lo ≤ x from g1), Bool.false_and]

theorem within_fn : FnOk Try.prog 79 := fnOk_of Try.func79 rfl (by decide)

def T_within : Tab := fun f => if f = 79 then some (.p K_within) else T0 f
theorem T_within_ok : TabOk Try.prog T_within := fun f k h => by
  unfold T_within at h
  split at h
  · rename_i e; cases h; subst e; exact ⟨within_ok, within_fn⟩
  · exact T0_ok f k h
attribute [go_sem] T_within K_within


def K_l00In : Con := ⟨[.val (.int .i64), .val (.int .i64), .val (.int .i64)], [⟨.bool, true⟩], fun _ => True, fun x => inR x.1 x.2.1 x.2.2.1⟩
set_option maxRecDepth 100000 in
set_option maxHeartbeats 1000000 in
theorem l00In_ok : PureT Try.prog 72 K_l00In := by
  refine pure_of_body Try.func72 rfl ?_
  have hres : Try.f72.results.toList = [.tmp 6] := rfl
  rintro ⟨(x : Int), (lo : Int), (hi : Int), _⟩ hc hL
  simp only [K_l00In, lensOk, PK.lenOk, glensOk, GP.lenOk, flensOk, GO.lenOk, olensOk, Ty.lenOk, Ty.flat, Bool.and_true, Bool.true_and, Bool.and_false, Bool.false_and, true_and, and_true, implies_true, forall_const] at hL
  simp only [K_l00In, St.init, St.initG, Try.ntmps72, go_sem] 
  refine AWP_seq_k fun K1 hK1 => ?_
  refine AWP_region (G := G) (T := T_within) T_within_ok ?_
  simp only [go_sem]
  refine hK1 _ ?_
  refine AWP_seq_k fun K2 hK2 => ?_
  refine AWP_region (G := G) (T := T_within) T_within_ok ?_
  simp (maxSteps := 2000000) only [go_sem]
  repeat' (first | (with_reducible refine And.intro (by first | omega | exact ⟨rfl, by omega, by omega, by omega⟩) ?_) | (with_reducible refine gcase_dt (fun g1 => ?_) (fun g1 => ?_)) | (with_reducible refine gcase_df (fun g1 => ?_) (fun g1 => ?_)) | (with_reducible refine gcase_ndt (fun g1 => ?_) (fun g1 => ?_)) | (with_reducible refine gcase_ndf (fun g1 => ?_) (fun g1 => ?_)) | (with_reducible refine gcase_nt (fun g1 => ?_) (fun g1 => ?_)) | (with_reducible refine gcase_nf (fun g1 => ?_) (fun g1 => ?_)) | (with_reducible refine gcase_mk (fun g1 => ?_) (fun g1 => ?_)))
  all_goals
   refine hK2 _ ?_
   refine AWP_ret ?_
   simp only [hres, go_sem]
   first
     | exact finOk_mk (by rfl) (by decide)
     | refine ⟨?_, finOk_mk (by rfl) (by decide)⟩
       first | rw [inR, decide_eq_true (show lo ≤ x from g1), Bool.true_and] | rw [inR, decide_eq_false (show ¬ lo ≤ x from g1), Bool.false_and]

theorem l00In_fn : FnOk Try.prog 72 := fnOk_of Try.func72 rfl (by decide)

def T_l00In : Tab := fun f => if f = 72 then some (.p K_l00In) else T_within f
theorem T_l00In_ok : TabOk Try.prog T_l00In := fun f k h => by
  unfold T_l00In at h
  split at h
  · rename_i e; cases h; subst e; exact ⟨l00In_ok, l00In_fn⟩
  · exact T_within_ok f k h
attribute [go_sem] T_l00In K_l00In


def K_isSample : Con := ⟨[.val (.int .i64)], [⟨.bool, true⟩], fun _ => True, fun x => smp x.1⟩
set_option maxRecDepth 100000 in
set_option maxHeartbeats 1000000 in
theorem isSample_ok : PureT Try.prog 157 K_isSample := by
  refine pure_of_body Try.func157 rfl ?_
  have hres : Try.f157.results.toList = [.tmp 2] := rfl
  rintro ⟨(x : Int), _⟩ hc hL
  simp only [K_isSample, lensOk, PK.lenOk, glensOk, GP.lenOk, flensOk, GO.lenOk, olensOk, Ty.lenOk, Ty.flat, Bool.and_true, Bool.true_and, Bool.and_false, Bool.false_and, true_and, and_true, implies_true, forall_const] at hL
  simp only [K_isSample, St.init, St.initG, Try.ntmps157, go_sem] 
  refine AWP_seq_k fun K1 hK1 => ?_
  refine AWP_region (G := G) (T := T_l00In) T_l00In_ok ?_
  simp only [go_sem]
  refine hK1 _ ?_
  refine AWP_seq_k fun K2 hK2 => ?_
  refine AWP_region (G := G) (T := T_l00In) T_l00In_ok ?_
  simp only [go_sem]
  repeat (with_reducible refine And.intro (by first | omega | exact ⟨rfl, by omega, by omega, by omega⟩) ?_)
  refine hK2 _ ?_
  refine AWP_ret ?_
  simp only [hres, go_sem]
  first
    | exact finOk_mk (by rfl) (by decide)
    | refine ⟨?_, finOk_mk (by rfl) (by decide)⟩
      rfl

theorem isSample_fn : FnOk Try.prog 157 := fnOk_of Try.func157 rfl (by decide)

def T_isSample : Tab := fun f => if f = 157 then some (.p K_isSample) else T_l00In f
theorem T_isSample_ok : TabOk Try.prog T_isSample := fun f k h => by
  unfold T_isSample at h
  split at h
  · rename_i e; cases h; subst e; exact ⟨isSample_ok, isSample_fn⟩
  · exact T_l00In_ok f k h
attribute [go_sem] T_isSample K_isSample


def K_l01Sample : Con := ⟨[.val (.int .i64)], [⟨.bool, true⟩], fun _ => True, fun x => smp x.1⟩
set_option maxRecDepth 100000 in
set_option maxHeartbeats 1000000 in
theorem l01Sample_ok : PureT Try.prog 143 K_l01Sample := by
  refine pure_of_body Try.func143 rfl ?_
  have hres : Try.f143.results.toList = [.tmp 2] := rfl
  rintro ⟨(x : Int), _⟩ hc hL
  simp only [K_l01Sample, lensOk, PK.lenOk, glensOk, GP.lenOk, flensOk, GO.lenOk, olensOk, Ty.lenOk, Ty.flat, Bool.and_true, Bool.true_and, Bool.and_false, Bool.false_and, true_and, and_true, implies_true, forall_const] at hL
  simp only [K_l01Sample, St.init, St.initG, Try.ntmps143, go_sem] 
  refine AWP_seq_k fun K1 hK1 => ?_
  refine AWP_region (G := G) (T := T_isSample) T_isSample_ok ?_
  simp only [go_sem]
  refine hK1 _ ?_
  refine AWP_seq_k fun K2 hK2 => ?_
  refine AWP_region (G := G) (T := T_isSample) T_isSample_ok ?_
  simp only [go_sem]
  repeat (with_reducible refine And.intro (by first | omega | exact ⟨rfl, by omega, by omega, by omega⟩) ?_)
  refine hK2 _ ?_
  refine AWP_ret ?_
  simp only [hres, go_sem]
  first
    | exact finOk_mk (by rfl) (by decide)
    | refine ⟨?_, finOk_mk (by rfl) (by decide)⟩
      rfl

theorem l01Sample_fn : FnOk Try.prog 143 := fnOk_of Try.func143 rfl (by decide)

def T_l01Sample : Tab := fun f => if f = 143 then some (.p K_l01Sample) else T_isSample f
theorem T_l01Sample_ok : TabOk Try.prog T_l01Sample := fun f k h => by
  unfold T_l01Sample at h
  split at h
  · rename_i e; cases h; subst e; exact ⟨l01Sample_ok, l01Sample_fn⟩
  · exact T_isSample_ok f k h
attribute [go_sem] T_l01Sample K_l01Sample


def K_areSamples : Con := ⟨[.val ((.row 2 (.int .i64)))], [⟨.bool, true⟩], fun _ => True, fun x => smps x.1⟩
set_option maxRecDepth 100000 in
set_option maxHeartbeats 1000000 in
theorem areSamples_ok : PureT Try.prog 114 K_areSamples := by
  refine pure_of_body Try.func114 rfl ?_
  have hres : Try.f114.results.toList = [.tmp 2] := rfl
  rintro ⟨(xs : List Int), _⟩ hc hL
  simp only [K_areSamples, lensOk, PK.lenOk, glensOk, GP.lenOk, flensOk, GO.lenOk, olensOk, Ty.lenOk, Ty.flat, Bool.and_true, Bool.true_and, Bool.and_false, Bool.false_and, true_and, and_true, implies_true, forall_const] at hL
  simp only [K_areSamples, St.init, St.initG, Try.ntmps114, go_sem] 
  refine AWP_seq_k fun K1 hK1 => ?_
  refine AWP_region (G := G) (T := T_l01Sample) T_l01Sample_ok ?_
  simp only [go_sem]
  refine hK1 _ ?_
  refine AWP_seq_k fun K2 hK2 => ?_
  refine AWP_seq_k fun K3 hK3 => ?_
  refine AWP_region (G := G) (T := T_l01Sample) T_l01Sample_ok ?_
  simp only [go_sem]
  refine hK3 _ ?_
  refine AWP_block ?_
  refine AWP_loop_k (ι := { k : Nat // k ≤ xs.length ∧ (xs.take k).all smp = true }) (fun k => ⟨[zz, zz, zz, zz, zz, .c (.rd [] 2 (.int .i64) (xs)), .c (.sc (.int .i64 (xs.length))), .c (.sc (.int .i64 (k.1))), zz, zz, zz, zz, zz, zz, zz], []⟩) (fun k => xs.length - k.1) ⟨0, by simp⟩ ?_ ?_
  ·
   refine Wk_to (by rfl) ?_
   simp (maxSteps := 2000000) only [go_sem]
   all_goals (first | rfl | ((repeat' refine And.intro ?_ ?_) <;> first | rfl | simp))
  rintro ⟨k, hk, hp⟩ K4 hL4
  refine AWP_seq_k fun K5 hK5 => ?_
  refine AWP_region (G := G) (T := T_l01Sample) T_l01Sample_ok ?_
  simp only [go_sem]
  refine hK5 _ ?_
  refine AWP_seq_k fun K6 hK6 => ?_
  refine AWP_cond rfl ?_ ?_
  ·
   intro c0
   try simp only [decide_eq_true_eq, decide_eq_false_iff_not, Bool.not_eq_true', Bool.not_eq_false', ne_eq, Int.not_lt, Int.not_le] at c0
   refine AWP_skip ?_
   simp only [go_sem]
   refine hK6 _ ?_
   refine AWP_seq_k fun K7 hK7 => ?_
   refine AWP_block ?_
   refine AWP_seq_k fun K8 hK8 => ?_
   refine AWP_region (G := G) (T := T_l01Sample) T_l01Sample_ok ?_
   simp only [go_sem]
   repeat (with_reducible refine And.intro (by first | omega | exact ⟨rfl, by omega, by omega, by omega⟩) ?_)
   refine hK8 _ ?_
   refine AWP_seq_k fun K9 hK9 => ?_
   refine AWP_region (G := G) (T := T_l01Sample) T_l01Sample_ok ?_
   simp only [go_sem]
   repeat (with_reducible refine And.intro (by first | omega | exact ⟨rfl, by omega, by omega, by omega⟩) ?_)
   refine hK9 _ ?_
   refine AWP_cond rfl ?_ ?_
   ·
    intro c1
    try simp only [decide_eq_true_eq, decide_eq_false_iff_not, Bool.not_eq_true', Bool.not_eq_false', ne_eq, Int.not_lt, Int.not_le] at c1
    refine AWP_seq_k fun K10 hK10 => ?_
    refine AWP_region (G := G) (T := T_l01Sample) T_l01Sample_ok ?_
    simp only [go_sem]
    refine hK10 _ ?_
    refine AWP_ret ?_
    simp only [hres, go_sem]
    first
      | exact finOk_mk (by rfl) (by decide)
      | refine ⟨?_, finOk_mk (by rfl) (by decide)⟩
        exact (all_stop (k := k) (d := 0) (by omega) (by first | assumption | (clear hp; clear hK1 hK2 hK3 hL4 hK5 hK6 hK7 hK8 hK9 hK10; simp_all))).symm
   ·
    intro c1
    try simp only [decide_eq_true_eq, decide_eq_false_iff_not, Bool.not_eq_true', Bool.not_eq_false', ne_eq, Int.not_lt, Int.not_le] at c1
    refine AWP_skip ?_
    simp only [go_sem]
    refine hK7 _ ?_
    refine AWP_region (G := G) (T := T_l01Sample) T_l01Sample_ok ?_
    simp only [go_sem]
    refine hL4 ⟨k + 1, by omega, all_next (d := 0) (by omega) hp (by first | assumption | (clear hK1 hK2 hK3 hL4 hK5 hK6 hK7 hK8 hK9; simp_all))⟩ _ (Wk_to (by rfl) ?_) ?_
    ·
     simp (maxSteps := 2000000) only [go_sem]
     first | rfl | exact wk (by omega)
    ·
     first | (simp only []; omega) | omega | (simp; omega)
  ·
   intro c0
   try simp only [decide_eq_true_eq, decide_eq_false_iff_not, Bool.not_eq_true', Bool.not_eq_false', ne_eq, Int.not_lt, Int.not_le] at c0
   refine AWP_exit ?_
   simp only [go_sem]
   refine hK2 _ ?_
   refine AWP_seq_k fun K11 hK11 => ?_
   refine AWP_region (G := G) (T := T_l01Sample) T_l01Sample_ok ?_
   simp only [go_sem]
   refine hK11 _ ?_
   refine AWP_ret ?_
   simp only [hres, go_sem]
   first
     | exact finOk_mk (by rfl) (by decide)
     | refine ⟨?_, finOk_mk (by rfl) (by decide)⟩
       exact (all_done hp (by omega)).symm

theorem areSamples_fn : FnOk Try.prog 114 := fnOk_of Try.func114 rfl (by decide)

def T_areSamples : Tab := fun f => if f = 114 then some (.p K_areSamples) else T_l01Sample f
theorem T_areSamples_ok : TabOk Try.prog T_areSamples := fun f k h => by
  unfold T_areSamples at h
  split at h
  · rename_i e; cases h; subst e; exact ⟨areSamples_ok, areSamples_fn⟩
  · exact T_l01Sample_ok f k h
attribute [go_sem] T_areSamples K_areSamples


def K_sizeI : Con := ⟨[.val ((.row 2 (.int .i64)))], [⟨.int .i64, true⟩], fun _ => True, fun x => (x.1.length : Int)⟩
set_option maxRecDepth 100000 in
set_option maxHeartbeats 1000000 in
theorem sizeI_ok : PureT Try.prog 80 K_sizeI := by
  refine pure_of_body Try.func80 rfl ?_
  have hres : Try.f80.results.toList = [.tmp 2] := rfl
  rintro ⟨xs, _⟩ hc hL
  simp only [K_sizeI, lensOk, PK.lenOk, glensOk, GP.lenOk, flensOk, GO.lenOk, olensOk, Ty.lenOk, Ty.flat, Bool.and_true, Bool.true_and, Bool.and_false, Bool.false_and, true_and, and_true, implies_true, forall_const] at hL
  simp only [K_sizeI, St.init, St.initG, Try.ntmps80, go_sem] 
  refine AWP_seq_k fun K1 hK1 => ?_
  refine AWP_region (G := G) (T := T_areSamples) T_areSamples_ok ?_
  simp only [go_sem]
  refine hK1 _ ?_
  refine AWP_seq_k fun K2 hK2 => ?_
  refine AWP_region (G := G) (T := T_areSamples) T_areSamples_ok ?_
  simp only [go_sem]
  refine hK2 _ ?_
  refine AWP_ret ?_
  simp only [hres, go_sem]
  first
    | exact finOk_mk (by rfl) (by decide)
    | refine ⟨?_, finOk_mk (by rfl) (by decide)⟩
      rfl

theorem sizeI_fn : FnOk Try.prog 80 := fnOk_of Try.func80 rfl (by decide)

def T_sizeI : Tab := fun f => if f = 80 then some (.p K_sizeI) else T_areSamples f
theorem T_sizeI_ok : TabOk Try.prog T_sizeI := fun f k h => by
  unfold T_sizeI at h
  split at h
  · rename_i e; cases h; subst e; exact ⟨sizeI_ok, sizeI_fn⟩
  · exact T_areSamples_ok f k h
attribute [go_sem] T_sizeI K_sizeI


def K_sizeN : Con := ⟨[.val ((.row 140 (.prod (.int .i64) (.prod (.int .i64) (.prod (.int .i64) (.row 2 (.int .i64)))))))], [⟨.int .i64, true⟩], fun _ => True, fun x => (x.1.length : Int)⟩
set_option maxRecDepth 100000 in
set_option maxHeartbeats 1000000 in
theorem sizeN_ok : PureT Try.prog 117 K_sizeN := by
  refine pure_of_body Try.func117 rfl ?_
  have hres : Try.f117.results.toList = [.tmp 2] := rfl
  rintro ⟨xs, _⟩ hc hL
  simp only [K_sizeN, lensOk, PK.lenOk, glensOk, GP.lenOk, flensOk, GO.lenOk, olensOk, Ty.lenOk, Ty.flat, Bool.and_true, Bool.true_and, Bool.and_false, Bool.false_and, true_and, and_true, implies_true, forall_const] at hL
  simp only [K_sizeN, St.init, St.initG, Try.ntmps117, go_sem] 
  refine AWP_seq_k fun K1 hK1 => ?_
  refine AWP_region (G := G) (T := T_sizeI) T_sizeI_ok ?_
  simp only [go_sem]
  refine hK1 _ ?_
  refine AWP_seq_k fun K2 hK2 => ?_
  refine AWP_region (G := G) (T := T_sizeI) T_sizeI_ok ?_
  simp only [go_sem]
  refine hK2 _ ?_
  refine AWP_ret ?_
  simp only [hres, go_sem]
  first
    | exact finOk_mk (by rfl) (by decide)
    | refine ⟨?_, finOk_mk (by rfl) (by decide)⟩
      rfl

theorem sizeN_fn : FnOk Try.prog 117 := fnOk_of Try.func117 rfl (by decide)

def T_sizeN : Tab := fun f => if f = 117 then some (.p K_sizeN) else T_sizeI f
theorem T_sizeN_ok : TabOk Try.prog T_sizeN := fun f k h => by
  unfold T_sizeN at h
  split at h
  · rename_i e; cases h; subst e; exact ⟨sizeN_ok, sizeN_fn⟩
  · exact T_sizeI_ok f k h
attribute [go_sem] T_sizeN K_sizeN


def K_sizeL : Con := ⟨[.val ((.row 24 (.row 2 (.int .i64))))], [⟨.int .i64, true⟩], fun _ => True, fun x => (x.1.length : Int)⟩
set_option maxRecDepth 100000 in
set_option maxHeartbeats 1000000 in
theorem sizeL_ok : PureT Try.prog 125 K_sizeL := by
  refine pure_of_body Try.func125 rfl ?_
  have hres : Try.f125.results.toList = [.tmp 2] := rfl
  rintro ⟨xs, _⟩ hc hL
  simp only [K_sizeL, lensOk, PK.lenOk, glensOk, GP.lenOk, flensOk, GO.lenOk, olensOk, Ty.lenOk, Ty.flat, Bool.and_true, Bool.true_and, Bool.and_false, Bool.false_and, true_and, and_true, implies_true, forall_const] at hL
  simp only [K_sizeL, St.init, St.initG, Try.ntmps125, go_sem] 
  refine AWP_seq_k fun K1 hK1 => ?_
  refine AWP_region (G := G) (T := T_sizeN) T_sizeN_ok ?_
  simp only [go_sem]
  refine hK1 _ ?_
  refine AWP_seq_k fun K2 hK2 => ?_
  refine AWP_region (G := G) (T := T_sizeN) T_sizeN_ok ?_
  simp only [go_sem]
  refine hK2 _ ?_
  refine AWP_ret ?_
  simp only [hres, go_sem]
  first
    | exact finOk_mk (by rfl) (by decide)
    | refine ⟨?_, finOk_mk (by rfl) (by decide)⟩
      rfl

theorem sizeL_fn : FnOk Try.prog 125 := fnOk_of Try.func125 rfl (by decide)

def T_sizeL : Tab := fun f => if f = 125 then some (.p K_sizeL) else T_sizeN f
theorem T_sizeL_ok : TabOk Try.prog T_sizeL := fun f k h => by
  unfold T_sizeL at h
  split at h
  · rename_i e; cases h; subst e; exact ⟨sizeL_ok, sizeL_fn⟩
  · exact T_sizeN_ok f k h
attribute [go_sem] T_sizeL K_sizeL


def K_isKind : Con := ⟨[.val (.int .i64)], [⟨.bool, true⟩], fun _ => True, fun x => inR x.1 1 17⟩
set_option maxRecDepth 100000 in
set_option maxHeartbeats 1000000 in
theorem isKind_ok : PureT Try.prog 178 K_isKind := by
  refine pure_of_body Try.func178 rfl ?_
  have hres : Try.f178.results.toList = [.tmp 2] := rfl
  rintro ⟨(x : Int), _⟩ hc hL
  simp only [K_isKind, lensOk, PK.lenOk, glensOk, GP.lenOk, flensOk, GO.lenOk, olensOk, Ty.lenOk, Ty.flat, Bool.and_true, Bool.true_and, Bool.and_false, Bool.false_and, true_and, and_true, implies_true, forall_const] at hL
  simp only [K_isKind, St.init, St.initG, Try.ntmps178, go_sem] 
  refine AWP_seq_k fun K1 hK1 => ?_
  refine AWP_region (G := G) (T := T_sizeL) T_sizeL_ok ?_
  simp only [go_sem]
  refine hK1 _ ?_
  refine AWP_seq_k fun K2 hK2 => ?_
  refine AWP_region (G := G) (T := T_sizeL) T_sizeL_ok ?_
  simp only [go_sem]
  repeat (with_reducible refine And.intro (by first | omega | exact ⟨rfl, by omega, by omega, by omega⟩) ?_)
  refine hK2 _ ?_
  refine AWP_ret ?_
  simp only [hres, go_sem]
  first
    | exact finOk_mk (by rfl) (by decide)
    | refine ⟨?_, finOk_mk (by rfl) (by decide)⟩
      rfl

theorem isKind_fn : FnOk Try.prog 178 := fnOk_of Try.func178 rfl (by decide)

def T_isKind : Tab := fun f => if f = 178 then some (.p K_isKind) else T_sizeL f
theorem T_isKind_ok : TabOk Try.prog T_isKind := fun f k h => by
  unfold T_isKind at h
  split at h
  · rename_i e; cases h; subst e; exact ⟨isKind_ok, isKind_fn⟩
  · exact T_sizeL_ok f k h
attribute [go_sem] T_isKind K_isKind


def K_hasA : Con := ⟨[.val ((.prod (.str) (.prod (.int .i64) (.prod (.int .i64) (.prod (.int .i64) (.prod (.bool) (.bool)))))))], [⟨.bool, true⟩], fun _ => True, fun x => decide (x.1.2.2.1 ≤ x.1.2.2.2.1)⟩
set_option maxRecDepth 100000 in
set_option maxHeartbeats 1000000 in
theorem hasA_ok : PureT Try.prog 180 K_hasA := by
  refine pure_of_body Try.func180 rfl ?_
  have hres : Try.f180.results.toList = [.tmp 2] := rfl
  rintro ⟨⟨nm, (inp : Int), (lo : Int), (hi : Int), (lin : Bool), (hb : Bool)⟩, _⟩ hc hL
  simp only [K_hasA, lensOk, PK.lenOk, glensOk, GP.lenOk, flensOk, GO.lenOk, olensOk, Ty.lenOk, Ty.flat, Bool.and_true, Bool.true_and, Bool.and_false, Bool.false_and, true_and, and_true, implies_true, forall_const] at hL
  simp only [K_hasA, St.init, St.initG, Try.ntmps180, go_sem] 
  refine AWP_seq_k fun K1 hK1 => ?_
  refine AWP_region (G := G) (T := T_isKind) T_isKind_ok ?_
  simp only [go_sem]
  refine hK1 _ ?_
  refine AWP_seq_k fun K2 hK2 => ?_
  refine AWP_region (G := G) (T := T_isKind) T_isKind_ok ?_
  simp (maxSteps := 2000000) only [go_sem]
  repeat (with_reducible refine And.intro (by first | omega | exact ⟨rfl, by omega, by omega, by omega⟩) ?_)
  refine hK2 _ ?_
  refine AWP_ret ?_
  simp only [hres, go_sem]
  first
    | exact finOk_mk (by rfl) (by decide)
    | refine ⟨?_, finOk_mk (by rfl) (by decide)⟩
      rfl

theorem hasA_fn : FnOk Try.prog 180 := fnOk_of Try.func180 rfl (by decide)

def T_hasA : Tab := fun f => if f = 180 then some (.p K_hasA) else T_isKind f
theorem T_hasA_ok : TabOk Try.prog T_hasA := fun f k h => by
  unfold T_hasA at h
  split at h
  · rename_i e; cases h; subst e; exact ⟨hasA_ok, hasA_fn⟩
  · exact T_isKind_ok f k h
attribute [go_sem] T_hasA K_hasA


def K_kinds : Con := ⟨[], [⟨(.row 187 (.prod (.str) (.prod (.int .i64) (.prod (.int .i64) (.prod (.int .i64) (.prod (.bool) (.bool))))))), true⟩], fun _ => True, fun _ => kindsL⟩
set_option maxRecDepth 100000 in
set_option maxHeartbeats 1000000 in
theorem kinds_ok : PureT Try.prog 179 K_kinds := by
  refine pure_of_body Try.func179 rfl ?_
  have hres : Try.f179.results.toList = [.tmp 0] := rfl
  rintro _ hc hL
  simp only [K_kinds, lensOk, PK.lenOk, glensOk, GP.lenOk, flensOk, GO.lenOk, olensOk, Ty.lenOk, Ty.flat, Bool.and_true, Bool.true_and, Bool.and_false, Bool.false_and, true_and, and_true, implies_true, forall_const] at hL
  simp only [K_kinds, St.init, St.initG, Try.ntmps179, go_sem] 
  refine AWP_seq_k fun K1 hK1 => ?_
  refine AWP_region (G := G) (T := T_hasA) T_hasA_ok ?_
  simp only [go_sem]
  refine hK1 _ ?_
  refine AWP_seq_k fun K2 hK2 => ?_
  refine AWP_region (G := G) (T := T_hasA) T_hasA_ok ?_
  simp (maxSteps := 2000000) only [go_sem]
  repeat (with_reducible refine And.intro (by first | omega | exact ⟨rfl, by omega, by omega, by omega⟩) ?_)
  refine hK2 _ ?_
  refine AWP_ret ?_
  simp only [hres, go_sem]
  first
    | exact finOk_mk (by rfl) (by decide)
    | refine ⟨?_, finOk_mk (by rfl) (by decide)⟩
      rfl

theorem kinds_fn : FnOk Try.prog 179 := fnOk_of Try.func179 rfl (by decide)

def T_kinds : Tab := fun f => if f = 179 then some (.p K_kinds) else T_hasA f
theorem T_kinds_ok : TabOk Try.prog T_kinds := fun f k h => by
  unfold T_kinds at h
  split at h
  · rename_i e; cases h; subst e; exact ⟨kinds_ok, kinds_fn⟩
  · exact T_hasA_ok f k h
attribute [go_sem] T_kinds K_kinds

end Go.Proofs.Ythglggjgjlmhlaa
