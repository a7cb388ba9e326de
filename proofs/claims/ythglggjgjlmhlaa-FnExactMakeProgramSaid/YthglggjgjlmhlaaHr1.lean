/-
  Contracts of functions: Wrap, unsigned, isOdd, noise, zeros, l03Zeros, mapped, l07Map.
-/
import Derived.Test.YthglggjgjlmhlaaGa1
import Derived.Test.YthglggjgjlmhlaaPe
namespace Go.Proofs.Ythglggjgjlmhlaa
open Go.RowKit
set_option linter.unusedSimpArgs false
set_option linter.unusedVariables false

def K_Wrap : Con := ⟨[.val (.int .i64)], [⟨.int .i64, true⟩], fun _ => True, fun x => wrap32 x.1⟩
set_option maxRecDepth 100000 in
set_option maxHeartbeats 1000000 in
theorem Wrap_ok : PureT Try.prog 160 K_Wrap := by
  refine pure_of_body Try.func160 rfl ?_
  have hres : Try.f160.results.toList = [.tmp 2] := rfl
  rintro ⟨(x : Int), _⟩ hc hL
  simp only [K_Wrap, lensOk, PK.lenOk, glensOk, GP.lenOk, flensOk, GO.lenOk, olensOk, Ty.lenOk, Ty.flat, Bool.and_true, Bool.true_and, Bool.and_false, Bool.false_and, true_and, and_true, implies_true, forall_const] at hL
  simp only [K_Wrap, St.init, St.initG, Try.ntmps160, go_sem] 
  refine AWP_seq_k fun K1 hK1 => ?_
  refine AWP_region (G := G) (T := T_kinds) T_kinds_ok ?_
  simp only [go_sem]
  refine hK1 _ ?_
  refine AWP_seq_k fun K2 hK2 => ?_
  refine AWP_region (G := G) (T := T_kinds) T_kinds_ok ?_
  simp only [Try.underlying21, go_sem]
  refine hK2 _ ?_
  refine AWP_ret ?_
  simp only [hres, go_sem]
  first
    | exact finOk_mk (by rfl) (by decide)
    | refine ⟨?_, finOk_mk (by rfl) (by decide)⟩
      exact w3264 x

theorem Wrap_fn : FnOk Try.prog 160 := fnOk_of Try.func160 rfl (by decide)

def T_Wrap : Tab := fun f => if f = 160 then some (.p K_Wrap) else T_kinds f
theorem T_Wrap_ok : TabOk Try.prog T_Wrap := fun f k h => by
  unfold T_Wrap at h
  split at h
  · rename_i e; cases h; subst e; exact ⟨Wrap_ok, Wrap_fn⟩
  · exact T_kinds_ok f k h
attribute [go_sem] T_Wrap K_Wrap


def K_unsigned : Con := ⟨[.val (.int .i64)], [⟨.int .i64, true⟩], fun _ => True, fun x => uns x.1⟩
set_option maxRecDepth 100000 in
set_option maxHeartbeats 1000000 in
theorem unsigned_ok : PureT Try.prog 174 K_unsigned := by
  refine pure_of_body Try.func174 rfl ?_
  have hres : Try.f174.results.toList = [.tmp 2] := rfl
  rintro ⟨(x : Int), _⟩ hc hL
  simp only [K_unsigned, lensOk, PK.lenOk, glensOk, GP.lenOk, flensOk, GO.lenOk, olensOk, Ty.lenOk, Ty.flat, Bool.and_true, Bool.true_and, Bool.and_false, Bool.false_and, true_and, and_true, implies_true, forall_const] at hL
  simp only [K_unsigned, St.init, St.initG, Try.ntmps174, go_sem] 
  refine AWP_seq_k fun K1 hK1 => ?_
  refine AWP_region (G := G) (T := T_Wrap) T_Wrap_ok ?_
  simp only [go_sem]
  refine hK1 _ ?_
  refine AWP_seq_k fun K2 hK2 => ?_
  refine AWP_region (G := G) (T := T_Wrap) T_Wrap_ok ?_
  simp only [go_sem]
  refine hK2 _ ?_
  refine AWP_ret ?_
  simp only [hres, go_sem]
  first
    | exact finOk_mk (by rfl) (by decide)
    | refine ⟨?_, finOk_mk (by rfl) (by decide)⟩
      exact unsE x

theorem unsigned_fn : FnOk Try.prog 174 := fnOk_of Try.func174 rfl (by decide)

def T_unsigned : Tab := fun f => if f = 174 then some (.p K_unsigned) else T_Wrap f
theorem T_unsigned_ok : TabOk Try.prog T_unsigned := fun f k h => by
  unfold T_unsigned at h
  split at h
  · rename_i e; cases h; subst e; exact ⟨unsigned_ok, unsigned_fn⟩
  · exact T_Wrap_ok f k h
attribute [go_sem] T_unsigned K_unsigned


def K_isOdd : Con := ⟨[.val (.int .i64)], [⟨.bool, true⟩], fun _ => True, fun x => decide (x.1 % 2 = 1)⟩
set_option maxRecDepth 100000 in
set_option maxHeartbeats 1000000 in
theorem isOdd_ok : PureT Try.prog 175 K_isOdd := by
  refine pure_of_body Try.func175 rfl ?_
  have hres : Try.f175.results.toList = [.tmp 2] := rfl
  rintro ⟨(x : Int), _⟩ hc hL
  simp only [K_isOdd, lensOk, PK.lenOk, glensOk, GP.lenOk, flensOk, GO.lenOk, olensOk, Ty.lenOk, Ty.flat, Bool.and_true, Bool.true_and, Bool.and_false, Bool.false_and, true_and, and_true, implies_true, forall_const] at hL
  simp only [K_isOdd, St.init, St.initG, Try.ntmps175, go_sem] 
  refine AWP_seq_k fun K1 hK1 => ?_
  refine AWP_region (G := G) (T := T_unsigned) T_unsigned_ok ?_
  simp only [go_sem]
  refine hK1 _ ?_
  refine AWP_seq_k fun K2 hK2 => ?_
  refine AWP_region (G := G) (T := T_unsigned) T_unsigned_ok ?_
  simp only [go_sem]
  refine hK2 _ ?_
  refine AWP_ret ?_
  simp only [hres, go_sem]
  first
    | exact finOk_mk (by rfl) (by decide)
    | refine ⟨?_, finOk_mk (by rfl) (by decide)⟩
      exact congrArg (fun z => decide (z = 1)) (and1 x)

theorem isOdd_fn : FnOk Try.prog 175 := fnOk_of Try.func175 rfl (by decide)

def T_isOdd : Tab := fun f => if f = 175 then some (.p K_isOdd) else T_unsigned f
theorem T_isOdd_ok : TabOk Try.prog T_isOdd := fun f k h => by
  unfold T_isOdd at h
  split at h
  · rename_i e; cases h; subst e; exact ⟨isOdd_ok, isOdd_fn⟩
  · exact T_unsigned_ok f k h
attribute [go_sem] T_isOdd K_isOdd


def K_noise : Con := ⟨[.val (.int .i64)], [⟨.int .i64, true⟩], fun _ => True, fun x => noiseV x.1⟩
set_option maxRecDepth 100000 in
set_option maxHeartbeats 1000000 in
theorem noise_ok : PureT Try.prog 161 K_noise := by
  refine pure_of_body Try.func161 rfl ?_
  have hres : Try.f161.results.toList = [.tmp 2] := rfl
  rintro ⟨(x : Int), _⟩ hc hL
  simp only [K_noise, lensOk, PK.lenOk, glensOk, GP.lenOk, flensOk, GO.lenOk, olensOk, Ty.lenOk, Ty.flat, Bool.and_true, Bool.true_and, Bool.and_false, Bool.false_and, true_and, and_true, implies_true, forall_const] at hL
  simp only [K_noise, St.init, St.initG, Try.ntmps161, go_sem] 
  have hu := uns_bd x
  have hq : IntKind.i64.wrap (Int.tdiv (uns x) 2) = uns x / 2 := by rw [Int.tdiv_eq_ediv_of_nonneg hu.1]; exact wrapI (by omega)
  refine AWP_seq_k fun K1 hK1 => ?_
  refine AWP_region (G := G) (T := T_isOdd) T_isOdd_ok ?_
  simp only [go_sem]
  refine hK1 _ ?_
  refine AWP_seq_k fun K2 hK2 => ?_
  refine AWP_region (G := G) (T := T_isOdd) T_isOdd_ok ?_
  simp only [hq, go_sem]
  repeat (with_reducible refine And.intro (by first | omega | exact ⟨rfl, by omega, by omega, by omega⟩ | decide) ?_)
  refine hK2 _ ?_
  refine AWP_seq_k fun K3 hK3 => ?_
  refine AWP_seq_k fun K4 hK4 => ?_
  refine AWP_region (G := G) (T := T_isOdd) T_isOdd_ok ?_
  simp only [go_sem]
  repeat (with_reducible refine And.intro (by first | omega | exact ⟨rfl, by omega, by omega, by omega⟩) ?_)
  refine hK4 _ ?_
  refine AWP_cond rfl ?_ ?_
  ·
   intro c0
   try simp only [decide_eq_true_eq, decide_eq_false_iff_not, Bool.not_eq_true', Bool.not_eq_false', ne_eq, Int.not_lt, Int.not_le] at c0
   refine AWP_region (G := G) (T := T_isOdd) T_isOdd_ok ?_
   simp only [xorE, go_sem]
   refine hK3 _ ?_
   refine AWP_seq_k fun K5 hK5 => ?_
   refine AWP_region (G := G) (T := T_isOdd) T_isOdd_ok ?_
   simp only [go_sem]
   repeat (with_reducible refine And.intro (by first | omega | exact ⟨rfl, by omega, by omega, by omega⟩) ?_)
   refine hK5 _ ?_
   refine AWP_ret ?_
   simp only [hres, go_sem]
   first
     | exact finOk_mk (by rfl) (by decide)
     | refine ⟨?_, finOk_mk (by rfl) (by decide)⟩
       first | exact (noiseV_t c0).symm | exact (noiseV_f c0).symm
  ·
   intro c0
   try simp only [decide_eq_true_eq, decide_eq_false_iff_not, Bool.not_eq_true', Bool.not_eq_false', ne_eq, Int.not_lt, Int.not_le] at c0
   refine AWP_skip ?_
   simp only [go_sem]
   refine hK3 _ ?_
   refine AWP_seq_k fun K6 hK6 => ?_
   refine AWP_region (G := G) (T := T_isOdd) T_isOdd_ok ?_
   simp only [go_sem]
   repeat (with_reducible refine And.intro (by first | omega | exact ⟨rfl, by omega, by omega, by omega⟩) ?_)
   refine hK6 _ ?_
   refine AWP_ret ?_
   simp only [hres, go_sem]
   first
     | exact finOk_mk (by rfl) (by decide)
     | refine ⟨?_, finOk_mk (by rfl) (by decide)⟩
       first | exact (noiseV_t c0).symm | exact (noiseV_f c0).symm

theorem noise_fn : FnOk Try.prog 161 := fnOk_of Try.func161 rfl (by decide)

def T_noise : Tab := fun f => if f = 161 then some (.p K_noise) else T_isOdd f
theorem T_noise_ok : TabOk Try.prog T_noise := fun f k h => by
  unfold T_noise at h
  split at h
  · rename_i e; cases h; subst e; exact ⟨noise_ok, noise_fn⟩
  · exact T_isOdd_ok f k h
attribute [go_sem] T_noise K_noise


def K_zeros : Con := ⟨[.val (.int .i64)], [⟨(.row 2 (.int .i64)), true⟩], fun x => inR x.1 0 1099511627776 = true, fun x => List.replicate (Int.toNat x.1) 0⟩
set_option maxRecDepth 100000 in
set_option maxHeartbeats 1000000 in
theorem zeros_ok : PureT Try.prog 116 K_zeros := by
  refine pure_of_body Try.func116 rfl ?_
  have hres : Try.f116.results.toList = [.tmp 2] := rfl
  rintro ⟨(x : Int), _⟩ hc hL
  simp only [K_zeros, lensOk, PK.lenOk, glensOk, GP.lenOk, flensOk, GO.lenOk, olensOk, Ty.lenOk, Ty.flat, Bool.and_true, Bool.true_and, Bool.and_false, Bool.false_and, true_and, and_true, implies_true, forall_const] at hL
  simp only [K_zeros, St.init, St.initG, Try.ntmps116, go_sem] 
  obtain ⟨h1, h2⟩ := inR_iff.1 (show inR x _ _ = true from hc)
  refine AWP_seq_k fun K1 hK1 => ?_
  refine AWP_region (G := G) (T := T_noise) T_noise_ok ?_
  simp only [go_sem]
  refine hK1 _ ?_
  refine AWP_seq_k fun K2 hK2 => ?_
  refine AWP_region (G := G) (T := T_noise) T_noise_ok ?_
  simp only [List.nodup_nil, go_sem]
  repeat (with_reducible refine And.intro (by first | omega | exact ⟨rfl, by omega, by omega, by omega⟩) ?_)
  refine hK2 _ ?_
  refine AWP_ret ?_
  simp only [hres, go_sem]
  first
    | exact finOk_mk (by rfl) (by decide)
    | refine ⟨?_, finOk_mk (by rfl) (by decide)⟩
      rfl

theorem zeros_fn : FnOk Try.prog 116 := fnOk_of Try.func116 rfl (by decide)

def T_zeros : Tab := fun f => if f = 116 then some (.p K_zeros) else T_noise f
theorem T_zeros_ok : TabOk Try.prog T_zeros := fun f k h => by
  unfold T_zeros at h
  split at h
  · rename_i e; cases h; subst e; exact ⟨zeros_ok, zeros_fn⟩
  · exact T_noise_ok f k h
attribute [go_sem] T_zeros K_zeros


def K_l03Zeros : Con := ⟨[.val (.int .i64)], [⟨(.row 2 (.int .i64)), true⟩], fun x => inR x.1 0 1099511627776 = true, fun x => List.replicate (Int.toNat x.1) 0⟩
set_option maxRecDepth 100000 in
set_option maxHeartbeats 1000000 in
theorem l03Zeros_ok : PureT Try.prog 98 K_l03Zeros := by
  refine pure_of_body Try.func98 rfl ?_
  have hres : Try.f98.results.toList = [.tmp 2] := rfl
  rintro ⟨(x : Int), _⟩ hc hL
  simp only [K_l03Zeros, lensOk, PK.lenOk, glensOk, GP.lenOk, flensOk, GO.lenOk, olensOk, Ty.lenOk, Ty.flat, Bool.and_true, Bool.true_and, Bool.and_false, Bool.false_and, true_and, and_true, implies_true, forall_const] at hL
  simp only [K_l03Zeros, St.init, St.initG, Try.ntmps98, go_sem] 
  obtain ⟨h1, h2⟩ := inR_iff.1 (show inR x _ _ = true from hc)
  refine AWP_seq_k fun K1 hK1 => ?_
  refine AWP_region (G := G) (T := T_zeros) T_zeros_ok ?_
  simp only [go_sem]
  refine hK1 _ ?_
  refine AWP_seq_k fun K2 hK2 => ?_
  refine AWP_region (G := G) (T := T_zeros) T_zeros_ok ?_
  simp only [List.nodup_nil, go_sem]
  repeat (with_reducible refine And.intro (by first | omega | exact ⟨rfl, by omega, by omega, by omega⟩) ?_)
  refine hK2 _ ?_
  refine AWP_seq_k fun K3 hK3 => ?_
  refine AWP_block ?_
  refine AWP_loop_k (ι := { k : Nat // k ≤ x.toNat }) (fun k => ⟨[.c (.sc (.int .i64 (x - k.1))), zz, zz, .c (.ow 9001), zz, zz, zz, zz, zz, zz, zz, zz, zz], [(9001, .row 2 (.int .i64) (List.replicate k.1 0) [])]⟩) (fun k => x.toNat - k.1) ⟨0, by simp⟩ ?_ ?_
  ·
   refine Wk_to (by rfl) ?_
   simp (maxSteps := 2000000) only [go_sem]
   all_goals first | rfl | omega | ((repeat' refine And.intro ?_ ?_) <;> first | rfl | omega | simp)
  rintro ⟨k, hk⟩ K4 hL4
  have hw : IntKind.i64.wrap (x - (k : Int) - 1) = x - ((k + 1 : Nat) : Int) := by rw [wrapI (by omega)]; omega
  have hrl : (List.replicate k (0 : Int)).length = k := List.length_replicate
  refine AWP_seq_k fun K5 hK5 => ?_
  refine AWP_seq_k fun K6 hK6 => ?_
  refine AWP_region (G := G) (T := T_zeros) T_zeros_ok ?_
  simp only [go_sem]
  refine hK6 _ ?_
  refine AWP_cond rfl ?_ ?_
  ·
   intro c0
   try simp only [decide_eq_true_eq, decide_eq_false_iff_not, Bool.not_eq_true', Bool.not_eq_false', ne_eq, Int.not_lt, Int.not_le] at c0
   refine AWP_skip ?_
   simp only [go_sem]
   refine hK5 _ ?_
   refine AWP_seq_k fun K7 hK7 => ?_
   refine AWP_block ?_
   refine AWP_region (G := G) (T := T_zeros) T_zeros_ok ?_
   simp only [go_sem]
   repeat (with_reducible refine And.intro (by first | omega | exact ⟨rfl, by omega, by omega, by omega⟩) ?_)
   refine hK7 _ ?_
   refine AWP_region (G := G) (T := T_zeros) T_zeros_ok ?_
   simp only [go_sem]
   refine hL4 ⟨k + 1, by omega⟩ _ (Wk_to (by rfl) ?_) ?_
   ·
    simp (maxSteps := 2000000) only [go_sem]
    all_goals ((repeat' refine And.intro ?_ ?_) <;> first | rfl | exact hw | exact List.replicate_succ'.symm)
   ·
    first | (simp only []; omega) | omega | (simp; omega)
  ·
   intro c0
   try simp only [decide_eq_true_eq, decide_eq_false_iff_not, Bool.not_eq_true', Bool.not_eq_false', ne_eq, Int.not_lt, Int.not_le] at c0
   refine AWP_exit ?_
   simp only [go_sem]
   refine hK3 _ ?_
   refine AWP_seq_k fun K8 hK8 => ?_
   refine AWP_region (G := G) (T := T_zeros) T_zeros_ok ?_
   simp only [go_sem]
   refine hK8 _ ?_
   refine AWP_ret ?_
   simp only [hres, go_sem]
   first
     | exact finOk_mk (by rfl) (by decide)
     | refine ⟨?_, finOk_mk (by rfl) (by decide)⟩
       rw [show x.toNat = k by omega]

theorem l03Zeros_fn : FnOk Try.prog 98 := fnOk_of Try.func98 rfl (by decide)

def T_l03Zeros : Tab := fun f => if f = 98 then some (.p K_l03Zeros) else T_zeros f
theorem T_l03Zeros_ok : TabOk Try.prog T_l03Zeros := fun f k h => by
  unfold T_l03Zeros at h
  split at h
  · rename_i e; cases h; subst e; exact ⟨l03Zeros_ok, l03Zeros_fn⟩
  · exact T_zeros_ok f k h
attribute [go_sem] T_l03Zeros K_l03Zeros


def K_mapped : Con := ⟨[.val ((.row 2 (.int .i64))), .val ((.row 2 (.int .i64)))], [⟨(.row 2 (.int .i64)), true⟩], fun x => x.1.length ≤ 1000 ∧ idxs x.2.1.length x.1 = true, fun x => x.1.map (fun q => x.2.1.getD (Int.toNat q) 0)⟩
set_option maxRecDepth 100000 in
set_option maxHeartbeats 1000000 in
theorem mapped_ok : PureT Try.prog 121 K_mapped := by
  refine pure_of_body Try.func121 rfl ?_
  have hres : Try.f121.results.toList = [.tmp 4] := rfl
  rintro ⟨(xs : List Int), (vs : List Int), _⟩ hc hL
  simp only [K_mapped, lensOk, PK.lenOk, glensOk, GP.lenOk, flensOk, GO.lenOk, olensOk, Ty.lenOk, Ty.flat, Bool.and_true, Bool.true_and, Bool.and_false, Bool.false_and, true_and, and_true, implies_true, forall_const] at hL
  obtain ⟨lxs, lvs⟩ := hL
  simp only [K_mapped, St.init, St.initG, Try.ntmps121, go_sem] 
  obtain ⟨h1, h2⟩ := (show xs.length ≤ 1000 ∧ idxs vs.length xs = true from hc)
  refine AWP_seq_k fun K1 hK1 => ?_
  refine AWP_region (G := G) (T := T_l03Zeros) T_l03Zeros_ok ?_
  simp only [go_sem]
  refine hK1 _ ?_
  refine AWP_seq_k fun K2 hK2 => ?_
  refine AWP_region (G := G) (T := T_l03Zeros) T_l03Zeros_ok ?_
  simp only [List.nodup_nil, go_sem]
  repeat (with_reducible refine And.intro (by first | omega | exact ⟨rfl, by omega, by omega, by omega⟩) ?_)
  refine hK2 _ ?_
  refine AWP_seq_k fun K3 hK3 => ?_
  refine AWP_seq_k fun K4 hK4 => ?_
  refine AWP_region (G := G) (T := T_l03Zeros) T_l03Zeros_ok ?_
  simp only [go_sem]
  refine hK4 _ ?_
  refine AWP_block ?_
  refine AWP_loop_k (ι := { k : Nat // k ≤ xs.length }) (fun k => ⟨[zz, .c (.rd [] 2 (.int .i64) (vs)), zz, zz, zz, .c (.ow 9001), zz, zz, zz, .c (.rd [] 2 (.int .i64) (xs)), .c (.sc (.int .i64 (xs.length))), .c (.sc (.int .i64 (k.1))), zz, zz, zz, zz, zz, zz, zz, zz, zz, zz, zz, zz], [(9001, .row 2 (.int .i64) ((xs.take k.1).map (fun q => vs.getD (Int.toNat q) 0)) [])]⟩) (fun k => xs.length - k.1) ⟨0, by simp⟩ ?_ ?_
  ·
   refine Wk_to (by rfl) ?_
   simp (maxSteps := 2000000) only [go_sem]
   all_goals first | rfl | ((repeat' refine And.intro ?_ ?_) <;> first | rfl | simp)
  rintro ⟨k, hk⟩ K5 hL5
  have hml : ((xs.take k).map (fun q => vs.getD (Int.toNat q) 0)).length ≤ 1000 := by rw [List.length_map, List.length_take]; omega
  have hix : k < xs.length → 0 ≤ xs.getD k 0 ∧ xs.getD k 0 ≤ vs.length - 1 := fun h => idxs_at h2 (getD_mem h)
  refine AWP_seq_k fun K6 hK6 => ?_
  refine AWP_region (G := G) (T := T_l03Zeros) T_l03Zeros_ok ?_
  simp only [go_sem]
  refine hK6 _ ?_
  refine AWP_seq_k fun K7 hK7 => ?_
  refine AWP_cond rfl ?_ ?_
  ·
   intro c0
   try simp only [decide_eq_true_eq, decide_eq_false_iff_not, Bool.not_eq_true', Bool.not_eq_false', ne_eq, Int.not_lt, Int.not_le] at c0
   obtain ⟨hi1, hi2⟩ := hix (by omega)
   refine AWP_skip ?_
   simp only [go_sem]
   refine hK7 _ ?_
   refine AWP_seq_k fun K8 hK8 => ?_
   refine AWP_block ?_
   refine AWP_seq_k fun K9 hK9 => ?_
   refine AWP_region (G := G) (T := T_l03Zeros) T_l03Zeros_ok ?_
   simp only [go_sem]
   repeat (with_reducible refine And.intro (by first | omega | exact ⟨rfl, by omega, by omega, by omega⟩) ?_)
   refine hK9 _ ?_
   refine AWP_region (G := G) (T := T_l03Zeros) T_l03Zeros_ok ?_
   simp (maxSteps := 2000000) only [go_sem]
   repeat (with_reducible refine And.intro (by first | omega | exact ⟨rfl, by omega, by omega, by omega⟩) ?_)
   refine hK8 _ ?_
   refine AWP_region (G := G) (T := T_l03Zeros) T_l03Zeros_ok ?_
   simp only [go_sem]
   refine hL5 ⟨k + 1, by omega⟩ _ (Wk_to (by rfl) ?_) ?_
   ·
    simp (maxSteps := 2000000) only [go_sem]
    all_goals ((repeat' refine And.intro ?_ ?_) <;> first | rfl | exact wk (by omega) | exact map_next3 (0 : Int) (by omega))
   ·
    first | (simp only []; omega) | omega | (simp; omega)
  ·
   intro c0
   try simp only [decide_eq_true_eq, decide_eq_false_iff_not, Bool.not_eq_true', Bool.not_eq_false', ne_eq, Int.not_lt, Int.not_le] at c0
   refine AWP_exit ?_
   simp only [go_sem]
   refine hK3 _ ?_
   refine AWP_seq_k fun K10 hK10 => ?_
   refine AWP_region (G := G) (T := T_l03Zeros) T_l03Zeros_ok ?_
   simp only [go_sem]
   refine hK10 _ ?_
   refine AWP_ret ?_
   simp only [hres, go_sem]
   first
     | exact finOk_mk (by rfl) (by decide)
     | refine ⟨?_, finOk_mk (by rfl) (by decide)⟩
       exact congrArg (List.map _) (List.take_of_length_le (by omega))

theorem mapped_fn : FnOk Try.prog 121 := fnOk_of Try.func121 rfl (by decide)

def T_mapped : Tab := fun f => if f = 121 then some (.p K_mapped) else T_l03Zeros f
theorem T_mapped_ok : TabOk Try.prog T_mapped := fun f k h => by
  unfold T_mapped at h
  split at h
  · rename_i e; cases h; subst e; exact ⟨mapped_ok, mapped_fn⟩
  · exact T_l03Zeros_ok f k h
attribute [go_sem] T_mapped K_mapped


def K_l07Map : Con := ⟨[.val ((.row 2 (.int .i64))), .val ((.row 2 (.int .i64)))], [⟨(.row 2 (.int .i64)), true⟩], fun x => x.1.length ≤ 1000 ∧ idxs x.2.1.length x.1 = true, fun x => x.1.map (fun q => x.2.1.getD (Int.toNat q) 0)⟩
set_option maxRecDepth 100000 in
set_option maxHeartbeats 1000000 in
theorem l07Map_ok : PureT Try.prog 62 K_l07Map := by
  refine pure_of_body Try.func62 rfl ?_
  have hres : Try.f62.results.toList = [.tmp 4] := rfl
  rintro ⟨(xs : List Int), (vs : List Int), _⟩ hc hL
  simp only [K_l07Map, lensOk, PK.lenOk, glensOk, GP.lenOk, flensOk, GO.lenOk, olensOk, Ty.lenOk, Ty.flat, Bool.and_true, Bool.true_and, Bool.and_false, Bool.false_and, true_and, and_true, implies_true, forall_const] at hL
  obtain ⟨lxs, lvs⟩ := hL
  simp only [K_l07Map, St.init, St.initG, Try.ntmps62, go_sem] 
  obtain ⟨h1, h2⟩ := (show xs.length ≤ 1000 ∧ idxs vs.length xs = true from hc)
  refine AWP_seq_k fun K1 hK1 => ?_
  refine AWP_region (G := G) (T := T_mapped) T_mapped_ok ?_
  simp only [go_sem]
  refine hK1 _ ?_
  refine AWP_seq_k fun K2 hK2 => ?_
  refine AWP_region (G := G) (T := T_mapped) T_mapped_ok ?_
  simp only [List.nodup_nil, go_sem]
  repeat (with_reducible refine And.intro (by first | omega | exact ⟨rfl, by omega, by omega, by omega⟩) ?_)
  refine hK2 _ ?_
  refine AWP_seq_k fun K3 hK3 => ?_
  refine AWP_seq_k fun K4 hK4 => ?_
  refine AWP_region (G := G) (T := T_mapped) T_mapped_ok ?_
  simp only [go_sem]
  refine hK4 _ ?_
  refine AWP_block ?_
  refine AWP_loop_k (ι := { k : Nat // k ≤ xs.length }) (fun k => ⟨[.c (.rd [] 2 (.int .i64) (xs)), .c (.rd [] 2 (.int .i64) (vs)), zz, zz, zz, .c (.ow 9001), .c (.sc (.int .i64 (k.1))), zz, zz, zz, zz, zz, zz, zz, zz, zz, zz, zz, zz, zz, zz, zz, zz, zz, zz], [(9001, .row 2 (.int .i64) ((xs.take k.1).map (fun q => vs.getD (Int.toNat q) 0)) [])]⟩) (fun k => xs.length - k.1) ⟨0, by simp⟩ ?_ ?_
  ·
   refine Wk_to (by rfl) ?_
   simp (maxSteps := 2000000) only [go_sem]
   all_goals first | rfl | ((repeat' refine And.intro ?_ ?_) <;> first | rfl | simp)
  rintro ⟨k, hk⟩ K5 hL5
  have hml : ((xs.take k).map (fun q => vs.getD (Int.toNat q) 0)).length ≤ 1000 := by rw [List.length_map, List.length_take]; omega
  have hix : k < xs.length → 0 ≤ xs.getD k 0 ∧ xs.getD k 0 ≤ vs.length - 1 := fun h => idxs_at h2 (getD_mem h)
  refine AWP_seq_k fun K6 hK6 => ?_
  refine AWP_seq_k fun K7 hK7 => ?_
  refine AWP_region (G := G) (T := T_mapped) T_mapped_ok ?_
  simp only [go_sem]
  refine hK7 _ ?_
  refine AWP_cond rfl ?_ ?_
  ·
   intro c0
   try simp only [decide_eq_true_eq, decide_eq_false_iff_not, Bool.not_eq_true', Bool.not_eq_false', ne_eq, Int.not_lt, Int.not_le] at c0
   obtain ⟨hi1, hi2⟩ := hix (by omega)
   refine AWP_skip ?_
   simp only [go_sem]
   refine hK6 _ ?_
   refine AWP_seq_k fun K8 hK8 => ?_
   refine AWP_block ?_
   refine AWP_region (G := G) (T := T_mapped) T_mapped_ok ?_
   simp (maxSteps := 2000000) only [go_sem]
   repeat (with_reducible refine And.intro (by first | omega | exact ⟨rfl, by omega, by omega, by omega⟩) ?_)
   refine hK8 _ ?_
   refine AWP_region (G := G) (T := T_mapped) T_mapped_ok ?_
   simp only [go_sem]
   refine hL5 ⟨k + 1, by omega⟩ _ (Wk_to (by rfl) ?_) ?_
   ·
    simp (maxSteps := 2000000) only [go_sem]
    all_goals ((repeat' refine And.intro ?_ ?_) <;> first | rfl | exact wk (by omega) | exact map_next3 (0 : Int) (by omega))
   ·
    first | (simp only []; omega) | omega | (simp; omega)
  ·
   intro c0
   try simp only [decide_eq_true_eq, decide_eq_false_iff_not, Bool.not_eq_true', Bool.not_eq_false', ne_eq, Int.not_lt, Int.not_le] at c0
   refine AWP_exit ?_
   simp only [go_sem]
   refine hK3 _ ?_
   refine AWP_seq_k fun K9 hK9 => ?_
   refine AWP_region (G := G) (T := T_mapped) T_mapped_ok ?_
   simp only [go_sem]
   refine hK9 _ ?_
   refine AWP_ret ?_
   simp only [hres, go_sem]
   first
     | exact finOk_mk (by rfl) (by decide)
     | refine ⟨?_, finOk_mk (by rfl) (by decide)⟩
       exact congrArg (List.map _) (List.take_of_length_le (by omega))

theorem l07Map_fn : FnOk Try.prog 62 := fnOk_of Try.func62 rfl (by decide)

def T_l07Map : Tab := fun f => if f = 62 then some (.p K_l07Map) else T_mapped f
theorem T_l07Map_ok : TabOk Try.prog T_l07Map := fun f k h => by
  unfold T_l07Map at h
  split at h
  · rename_i e; cases h; subst e; exact ⟨l07Map_ok, l07Map_fn⟩
  · exact T_mapped_ok f k h
attribute [go_sem] T_l07Map K_l07Map

end Go.Proofs.Ythglggjgjlmhlaa
