/-
  Contracts of functions: Wrap, unsigned, isOdd, noise, zeros, l03Zeros, mapped, l07Map.
-/
import Derived.Test.YthfopaimihmgiaaGa1
import Derived.Test.YthfopaimihmgiaaPe
namespace Go.Proofs.Ythfopaimihmgiaa
open Go.RowKit
set_option linter.unusedSimpArgs false
set_option linter.unusedVariables false

def K_zeros : Con := ⟨[.val (.int .i64)], [⟨(.row 2 (.int .i64)), true⟩], fun x => inR x.1 0 1099511627776 = true, fun x => List.replicate (Int.toNat x.1) 0⟩
set_option maxRecDepth 100000 in
set_option maxHeartbeats 1000000 in
theorem zeros_ok : PureT Try.prog 84 K_zeros := by
  refine pure_of_body Try.func84 rfl ?_
  have hres : Try.f84.results.toList = [.tmp 2] := rfl
  rintro ⟨(x : Int), _⟩ hc hL
  simp only [K_zeros, lensOk, PK.lenOk, glensOk, GP.lenOk, flensOk, GO.lenOk, olensOk, Ty.lenOk, Ty.flat, Bool.and_true, Bool.true_and, Bool.and_false, Bool.false_and, true_and, and_true, implies_true, forall_const] at hL
  simp only [K_zeros, St.init, St.initG, Try.ntmps84, go_sem] 
  obtain ⟨h1, h2⟩ := inR_iff.1 (show inR x _ _ = true from hc)
  refine AWP_seq_k fun K1 hK1 => ?_
  refine AWP_region (G := G) (T := T_kinds) T_kinds_ok ?_
  simp only [go_sem]
  refine hK1 _ ?_
  refine AWP_seq_k fun K2 hK2 => ?_
  refine AWP_region (G := G) (T := T_kinds) T_kinds_ok ?_
  simp only [List.nodup_nil, go_sem]
  repeat (with_reducible refine And.intro (by first | omega | exact ⟨rfl, by omega, by omega, by omega⟩) ?_)
  refine hK2 _ ?_
  refine AWP_ret ?_
  simp only [hres, go_sem]
  first
    | exact finOk_mk (by rfl) (by decide)
    | refine ⟨?_, finOk_mk (by rfl) (by decide)⟩
      rfl

theorem zeros_fn : FnOk Try.prog 84 := fnOk_of Try.func84 rfl (by decide)

def T_zeros : Tab := fun f => if f = 84 then some (.p K_zeros) else T_kinds f
theorem T_zeros_ok : TabOk Try.prog T_zeros := fun f k h => by
  unfold T_zeros at h
  split at h
  · rename_i e; cases h; subst e; exact ⟨zeros_ok, zeros_fn⟩
  · exact T_kinds_ok f k h
attribute [go_sem] T_zeros K_zeros


def K_mapped : Con := ⟨[.val ((.row 2 (.int .i64))), .val ((.row 2 (.int .i64)))], [⟨(.row 2 (.int .i64)), true⟩], fun x => x.1.length ≤ 1000 ∧ idxs x.2.1.length x.1 = true, fun x => x.1.map (fun q => x.2.1.getD (Int.toNat q) 0)⟩
set_option maxRecDepth 100000 in
set_option maxHeartbeats 1000000 in
theorem mapped_ok : PureT Try.prog 49 K_mapped := by
  refine pure_of_body Try.func49 rfl ?_
  have hres : Try.f49.results.toList = [.tmp 4] := rfl
  rintro ⟨(xs : List Int), (vs : List Int), _⟩ hc hL
  simp only [K_mapped, lensOk, PK.lenOk, glensOk, GP.lenOk, flensOk, GO.lenOk, olensOk, Ty.lenOk, Ty.flat, Bool.and_true, Bool.true_and, Bool.and_false, Bool.false_and, true_and, and_true, implies_true, forall_const] at hL
  obtain ⟨lxs, lvs⟩ := hL
  simp only [K_mapped, St.init, St.initG, Try.ntmps49, go_sem] 
  obtain ⟨h1, h2⟩ := (show xs.length ≤ 1000 ∧ idxs vs.length xs = true from hc)
  refine AWP_seq_k fun K1 hK1 => ?_
  refine AWP_region (G := G) (T := T_zeros) T_zeros_ok ?_
  simp only [go_sem]
  refine hK1 _ ?_
  refine AWP_seq_k fun K2 hK2 => ?_
  refine AWP_region (G := G) (T := T_zeros) T_zeros_ok ?_
  simp only [List.nodup_nil, go_sem]
  repeat (with_reducible refine And.intro (by first | omega | exact ⟨rfl, by omega, by omega, by omega⟩) ?_)
  refine hK2 _ ?_
  refine AWP_seq_k fun K3 hK3 => ?_
  refine AWP_seq_k fun K4 hK4 => ?_
  refine AWP_region (G := G) (T := T_zeros) T_zeros_ok ?_
  simp only [go_sem]
  refine hK4 _ ?_
  refine AWP_block ?_
  refine AWP_loop_k (ι := { k : Nat // k ≤ xs.length }) (fun k => ⟨[zz, .c (.rd [] 2 (.int .i64) (vs)), zz, zz, zz, .c (.ow 9001), zz, zz, zz, .c (.rd [] 2 (.int .i64) (xs)), .c (.sc (.int .i64 (xs.length))), .c (.sc (.int .i64 (k.1))), zz, zz, zz, zz, zz, zz, zz, zz, zz, zz, zz, zz], [(9001, .row 2 (.int .i64) ((xs.take k.1).map (fun q => vs.getD (Int.toNat q) 0)) [])]⟩) (fun k => xs.length - k.1) ⟨0, by simp⟩ ?_ ?_
  ·
   refine Wk_to (by rfl) ?_
   simp (maxSteps := 2000000) only [go_sem]
   all_goals first | rfl | ((repeat' refine And.intro ?_ ?_) <;> first | rfl | simp)
  rintro ⟨k, hk⟩ K5 hL5
  have hml : ((xs.take k).map (fun q => vs.getD (Int.toNat q) 0)).length ≤ 1000 := by rw [List.length_map, List.length_take]; omega
  have hix : k < xs.length → 0 ≤ xs.getD k 0 ∧ xs.getD k 0 ≤ vs.length - 1 := fun h => idxs_at h2 (getD_mem h)
  refine AWP_seq_k fun K6 hK6 => ?_
  refine AWP_region (G := G) (T := T_zeros) T_zeros_ok ?_
  simp only [go_sem]
  refine hK6 _ ?_
  refine AWP_seq_k fun K7 hK7 => ?_
  refine AWP_cond rfl ?_ ?_
  ·
   intro c0
   try simp only [decide_eq_true_eq, decide_eq_false_iff_not, Bool.not_eq_true', Bool.not_eq_false', ne_eq, Int.not_lt, Int.not_le] at c0
   obtain ⟨hi1, hi2⟩ := hix (by omega)
   refine AWP_skip ?_
   simp only [go_sem]
   refine hK7 _ ?_
   refine AWP_seq_k fun K8 hK8 => ?_
   refine AWP_block ?_
   refine AWP_seq_k fun K9 hK9 => ?_
   refine AWP_region (G := G) (T := T_zeros) T_zeros_ok ?_
   simp only [go_sem]
   repeat (with_reducible refine And.intro (by first | omega | exact ⟨rfl, by omega, by omega, by omega⟩) ?_)
   refine hK9 _ ?_
   refine AWP_region (G := G) (T := T_zeros) T_zeros_ok ?_
   simp (maxSteps := 2000000) only [go_sem]
   repeat (with_reducible refine And.intro (by first | omega | exact ⟨rfl, by omega, by omega, by omega⟩) ?_)
   refine hK8 _ ?_
   refine AWP_region (G := G) (T := T_zeros) T_zeros_ok ?_
   simp only [go_sem]
   refine hL5 ⟨k + 1, by omega⟩ _ (Wk_to (by rfl) ?_) ?_
   ·
    simp (maxSteps := 2000000) only [go_sem]
    all_goals ((repeat' refine And.intro ?_ ?_) <;> first | rfl | exact wk (by omega) | exact map_next3 (0 : Int) (by omega))
   ·
    first | (simp only []; omega) | omega | (simp; omega)
  ·
   intro c0
   try simp only [decide_eq_true_eq, decide_eq_false_iff_not, Bool.not_eq_true', Bool.not_eq_false', ne_eq, Int.not_lt, Int.not_le] at c0
   refine AWP_exit ?_
   simp only [go_sem]
   refine hK3 _ ?_
   refine AWP_seq_k fun K10 hK10 => ?_
   refine AWP_region (G := G) (T := T_zeros) T_zeros_ok ?_
   simp only [go_sem]
   refine hK10 _ ?_
   refine AWP_ret ?_
   simp only [hres, go_sem]
   first
     | exact finOk_mk (by rfl) (by decide)
     | refine ⟨?_, finOk_mk (by rfl) (by decide)⟩
       exact congrArg (List.map _) (List.take_of_length_le (by omega))

theorem mapped_fn : FnOk Try.prog 49 := fnOk_of Try.func49 rfl (by decide)

def T_mapped : Tab := fun f => if f = 49 then some (.p K_mapped) else T_zeros f
theorem T_mapped_ok : TabOk Try.prog T_mapped := fun f k h => by
  unfold T_mapped at h
  split at h
  · rename_i e; cases h; subst e; exact ⟨mapped_ok, mapped_fn⟩
  · exact T_zeros_ok f k h
attribute [go_sem] T_mapped K_mapped


def K_l07Map : Con := ⟨[.val ((.row 2 (.int .i64))), .val ((.row 2 (.int .i64)))], [⟨(.row 2 (.int .i64)), true⟩], fun x => x.1.length ≤ 1000 ∧ idxs x.2.1.length x.1 = true, fun x => x.1.map (fun q => x.2.1.getD (Int.toNat q) 0)⟩
set_option maxRecDepth 100000 in
set_option maxHeartbeats 1000000 in
theorem l07Map_ok : PureT Try.prog 55 K_l07Map := by
  refine pure_of_body Try.func55 rfl ?_
  have hres : Try.f55.results.toList = [.tmp 4] := rfl
  rintro ⟨(xs : List Int), (vs : List Int), _⟩ hc hL
  simp only [K_l07Map, lensOk, PK.lenOk, glensOk, GP.lenOk, flensOk, GO.lenOk, olensOk, Ty.lenOk, Ty.flat, Bool.and_true, Bool.true_and, Bool.and_false, Bool.false_and, true_and, and_true, implies_true, forall_const] at hL
  obtain ⟨lxs, lvs⟩ := hL
  simp only [K_l07Map, St.init, St.initG, Try.ntmps55, go_sem] 
  obtain ⟨h1, h2⟩ := (show xs.length ≤ 1000 ∧ idxs vs.length xs = true from hc)
  refine AWP_seq_k fun K1 hK1 => ?_
  refine AWP_region (G := G) (T := T_mapped) T_mapped_ok ?_
  simp only [go_sem]
  refine hK1 _ ?_
  refine AWP_seq_k fun K2 hK2 => ?_
  refine AWP_region (G := G) (T := T_mapped) T_mapped_ok ?_
  simp only [List.nodup_nil, go_sem]
  repeat (with_reducible refine And.intro (by first | omega | exact ⟨rfl, by omega, by omega, by omega⟩) ?_)
  refine hK2 _ ?_
  refine AWP_seq_k fun K3 hK3 => ?_
  refine AWP_seq_k fun K4 hK4 => ?_
  refine AWP_region (G := G) (T := T_mapped) T_mapped_ok ?_
  simp only [go_sem]
  refine hK4 _ ?_
  refine AWP_block ?_
  refine AWP_loop_k (ι := { k : Nat // k ≤ xs.length }) (fun k => ⟨[.c (.rd [] 2 (.int .i64) (xs)), .c (.rd [] 2 (.int .i64) (vs)), zz, zz, zz, .c (.ow 9001), .c (.sc (.int .i64 (k.1))), zz, zz, zz, zz, zz, zz, zz, zz, zz, zz, zz, zz, zz, zz, zz, zz, zz, zz], [(9001, .row 2 (.int .i64) ((xs.take k.1).map (fun q => vs.getD (Int.toNat q) 0)) [])]⟩) (fun k => xs.length - k.1) ⟨0, by simp⟩ ?_ ?_
  ·
   refine Wk_to (by rfl) ?_
   simp (maxSteps := 2000000) only [go_sem]
   all_goals first | rfl | ((repeat' refine And.intro ?_ ?_) <;> first | rfl | simp)
  rintro ⟨k, hk⟩ K5 hL5
  have hml : ((xs.take k).map (fun q => vs.getD (Int.toNat q) 0)).length ≤ 1000 := by rw [List.length_map, List.length_take]; omega
  have hix : k < xs.length → 0 ≤ xs.getD k 0 ∧ xs.getD k 0 ≤ vs.length - 1 := fun h => idxs_at h2 (getD_mem h)
  refine AWP_seq_k fun K6 hK6 => ?_
  refine AWP_seq_k fun K7 hK7 => ?_
  refine AWP_region (G := G) (T := T_mapped) T_mapped_ok ?_
  simp only [go_sem]
  refine hK7 _ ?_
  refine AWP_cond rfl ?_ ?_
  ·
   intro c0
   try simp only [decide_eq_true_eq, decide_eq_false_iff_not, Bool.not_eq_true', Bool.not_eq_false', ne_eq, Int.not_lt, Int.not_le] at c0
   obtain ⟨hi1, hi2⟩ := hix (by omega)
   refine AWP_skip ?_
   simp only [go_sem]
   refine hK6 _ ?_
   refine AWP_seq_k fun K8 hK8 => ?_
   refine AWP_block ?_
   refine AWP_region (G := G) (T := T_mapped) T_mapped_ok ?_
   simp (maxSteps := 2000000) only [go_sem]
   repeat (with_reducible refine And.intro (by first | omega | exact ⟨rfl, by omega, by omega, by omega⟩) ?_)
   refine hK8 _ ?_
   refine AWP_region (G := G) (T := T_mapped) T_mapped_ok ?_
   simp only [go_sem]
   refine hL5 ⟨k + 1, by omega⟩ _ (Wk_to (by rfl) ?_) ?_
   ·
    simp (maxSteps := 2000000) only [go_sem]
    all_goals ((repeat' refine And.intro ?_ ?_) <;> first | rfl | exact wk (by omega) | exact map_next3 (0 : Int) (by omega))
   ·
    first | (simp only []; omega) | omega | (simp; omega)
  ·
   intro c0
   try simp only [decide_eq_true_eq, decide_eq_false_iff_not, Bool.not_eq_true', Bool.not_eq_false', ne_eq, Int.not_lt, Int.not_le] at c0
   refine AWP_exit ?_
   simp only [go_sem]
   refine hK3 _ ?_
   refine AWP_seq_k fun K9 hK9 => ?_
   refine AWP_region (G := G) (T := T_mapped) T_mapped_ok ?_
   simp only [go_sem]
   refine hK9 _ ?_
   refine AWP_ret ?_
   simp only [hres, go_sem]
   first
     | exact finOk_mk (by rfl) (by decide)
     | refine ⟨?_, finOk_mk (by rfl) (by decide)⟩
       exact congrArg (List.map _) (List.take_of_length_le (by omega))

theorem l07Map_fn : FnOk Try.prog 55 := fnOk_of Try.func55 rfl (by decide)

def T_l07Map : Tab := fun f => if f = 55 then some (.p K_l07Map) else T_mapped f
theorem T_l07Map_ok : TabOk Try.prog T_l07Map := fun f k h => by
  unfold T_l07Map at h
  split at h
  · rename_i e; cases h; subst e; exact ⟨l07Map_ok, l07Map_fn⟩
  · exact T_mapped_ok f k h
attribute [go_sem] T_l07Map K_l07Map

end Go.Proofs.Ythfopaimihmgiaa
