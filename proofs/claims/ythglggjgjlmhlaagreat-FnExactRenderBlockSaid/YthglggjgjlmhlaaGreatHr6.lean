/-
  Contracts of functions: l01Wrap, l01Add, l01Sub, l01Mul, l06Noise, l06Look.
-/
import Derived.Test.YthglggjgjlmhlaaGreatHr3
namespace Go.Proofs.YthglggjgjlmhlaaGreat
open Go.RowKit
set_option linter.unusedSimpArgs false
set_option linter.unusedVariables false

def K_l01Wrap : Con := ⟨[.val (.int .i64)], [⟨.int .i64, true⟩], fun _ => True, fun x => wrap32 x.1⟩
set_option maxRecDepth 100000 in
set_option maxHeartbeats 1000000 in
theorem l01Wrap_ok : PureT Tryz.prog 101 K_l01Wrap := by
  refine pure_of_body Tryz.func101 rfl ?_
  have hres : Tryz.f101.results.toList = [.tmp 2] := rfl
  rintro ⟨(x : Int), _⟩ hc hL
  simp only [K_l01Wrap, lensOk, PK.lenOk, glensOk, GP.lenOk, flensOk, GO.lenOk, olensOk, Ty.lenOk, Ty.flat, Bool.and_true, Bool.true_and, Bool.and_false, Bool.false_and, true_and, and_true, implies_true, forall_const] at hL
  simp only [K_l01Wrap, St.init, St.initG, Tryz.ntmps101, go_sem] 
  have hu := uns_bd x
  refine AWP_seq_k fun K1 hK1 => ?_
  refine AWP_region (G := G) (T := T_l06Start) T_l06Start_ok ?_
  simp only [go_sem]
  refine hK1 _ ?_
  refine AWP_seq_k fun K2 hK2 => ?_
  refine AWP_region (G := G) (T := T_l06Start) T_l06Start_ok ?_
  simp only [andM', go_sem]
  refine hK2 _ ?_
  refine AWP_seq_k fun K3 hK3 => ?_
  refine AWP_seq_k fun K4 hK4 => ?_
  refine AWP_region (G := G) (T := T_l06Start) T_l06Start_ok ?_
  simp only [go_sem]
  refine hK4 _ ?_
  refine AWP_cond rfl ?_ ?_
  ·
   intro c0
   try simp only [decide_eq_true_eq, decide_eq_false_iff_not, Bool.not_eq_true', Bool.not_eq_false', ne_eq, Int.not_lt, Int.not_le] at c0
   have hw : IntKind.i64.wrap (uns x - 4294967296) = uns x - 4294967296 := wrapI (by omega)
   refine AWP_region (G := G) (T := T_l06Start) T_l06Start_ok ?_
   simp only [hw, go_sem]
   refine hK3 _ ?_
   refine AWP_seq_k fun K5 hK5 => ?_
   refine AWP_region (G := G) (T := T_l06Start) T_l06Start_ok ?_
   simp only [go_sem]
   refine hK5 _ ?_
   refine AWP_ret ?_
   simp only [hres, go_sem]
   first
     | exact finOk_mk (by rfl) (by decide)
     | refine ⟨?_, finOk_mk (by rfl) (by decide)⟩
       first | exact wrap32_t c0 | exact wrap32_f c0
  ·
   intro c0
   try simp only [decide_eq_true_eq, decide_eq_false_iff_not, Bool.not_eq_true', Bool.not_eq_false', ne_eq, Int.not_lt, Int.not_le] at c0
   refine AWP_skip ?_
   simp only [go_sem]
   refine hK3 _ ?_
   refine AWP_seq_k fun K6 hK6 => ?_
   refine AWP_region (G := G) (T := T_l06Start) T_l06Start_ok ?_
   simp only [go_sem]
   refine hK6 _ ?_
   refine AWP_ret ?_
   simp only [hres, go_sem]
   first
     | exact finOk_mk (by rfl) (by decide)
     | refine ⟨?_, finOk_mk (by rfl) (by decide)⟩
       first | exact wrap32_t c0 | exact wrap32_f c0

theorem l01Wrap_fn : FnOk Tryz.prog 101 := fnOk_of Tryz.func101 rfl (by decide)

def T_l01Wrap : Tab := fun f => if f = 101 then some (.p K_l01Wrap) else T_l06Start f
theorem T_l01Wrap_ok : TabOk Tryz.prog T_l01Wrap := fun f k h => by
  unfold T_l01Wrap at h
  split at h
  · rename_i e; cases h; subst e; exact ⟨l01Wrap_ok, l01Wrap_fn⟩
  · exact T_l06Start_ok f k h
attribute [go_sem] T_l01Wrap K_l01Wrap


def K_l01Add : Con := ⟨[.val (.int .i64), .val (.int .i64)], [⟨.int .i64, true⟩], fun _ => True, fun x => wrap32 (x.1 + x.2.1)⟩
set_option maxRecDepth 100000 in
set_option maxHeartbeats 1000000 in
theorem l01Add_ok : PureT Tryz.prog 83 K_l01Add := by
  refine pure_of_body Tryz.func83 rfl ?_
  have hres : Tryz.f83.results.toList = [.tmp 4] := rfl
  rintro ⟨(x : Int), (y : Int), _⟩ hc hL
  simp only [K_l01Add, lensOk, PK.lenOk, glensOk, GP.lenOk, flensOk, GO.lenOk, olensOk, Ty.lenOk, Ty.flat, Bool.and_true, Bool.true_and, Bool.and_false, Bool.false_and, true_and, and_true, implies_true, forall_const] at hL
  simp only [K_l01Add, St.init, St.initG, Tryz.ntmps83, go_sem] 
  refine AWP_seq_k fun K1 hK1 => ?_
  refine AWP_region (G := G) (T := T_l01Wrap) T_l01Wrap_ok ?_
  simp only [go_sem]
  refine hK1 _ ?_
  refine AWP_seq_k fun K2 hK2 => ?_
  refine AWP_region (G := G) (T := T_l01Wrap) T_l01Wrap_ok ?_
  simp (maxSteps := 2000000) only [go_sem]
  repeat (with_reducible refine And.intro (by first | omega | exact ⟨rfl, by omega, by omega, by omega⟩) ?_)
  refine hK2 _ ?_
  refine AWP_ret ?_
  simp only [hres, go_sem]
  first
    | exact finOk_mk (by rfl) (by decide)
    | refine ⟨?_, finOk_mk (by rfl) (by decide)⟩
      exact wAdd x y

theorem l01Add_fn : FnOk Tryz.prog 83 := fnOk_of Tryz.func83 rfl (by decide)

def T_l01Add : Tab := fun f => if f = 83 then some (.p K_l01Add) else T_l01Wrap f
theorem T_l01Add_ok : TabOk Tryz.prog T_l01Add := fun f k h => by
  unfold T_l01Add at h
  split at h
  · rename_i e; cases h; subst e; exact ⟨l01Add_ok, l01Add_fn⟩
  · exact T_l01Wrap_ok f k h
attribute [go_sem] T_l01Add K_l01Add


def K_l01Sub : Con := ⟨[.val (.int .i64), .val (.int .i64)], [⟨.int .i64, true⟩], fun _ => True, fun x => wrap32 (x.1 - x.2.1)⟩
set_option maxRecDepth 100000 in
set_option maxHeartbeats 1000000 in
theorem l01Sub_ok : PureT Tryz.prog 84 K_l01Sub := by
  refine pure_of_body Tryz.func84 rfl ?_
  have hres : Tryz.f84.results.toList = [.tmp 4] := rfl
  rintro ⟨(x : Int), (y : Int), _⟩ hc hL
  simp only [K_l01Sub, lensOk, PK.lenOk, glensOk, GP.lenOk, flensOk, GO.lenOk, olensOk, Ty.lenOk, Ty.flat, Bool.and_true, Bool.true_and, Bool.and_false, Bool.false_and, true_and, and_true, implies_true, forall_const] at hL
  simp only [K_l01Sub, St.init, St.initG, Tryz.ntmps84, go_sem] 
  refine AWP_seq_k fun K1 hK1 => ?_
  refine AWP_region (G := G) (T := T_l01Add) T_l01Add_ok ?_
  simp only [go_sem]
  refine hK1 _ ?_
  refine AWP_seq_k fun K2 hK2 => ?_
  refine AWP_region (G := G) (T := T_l01Add) T_l01Add_ok ?_
  simp (maxSteps := 2000000) only [go_sem]
  repeat (with_reducible refine And.intro (by first | omega | exact ⟨rfl, by omega, by omega, by omega⟩) ?_)
  refine hK2 _ ?_
  refine AWP_ret ?_
  simp only [hres, go_sem]
  first
    | exact finOk_mk (by rfl) (by decide)
    | refine ⟨?_, finOk_mk (by rfl) (by decide)⟩
      exact wSub x y

theorem l01Sub_fn : FnOk Tryz.prog 84 := fnOk_of Tryz.func84 rfl (by decide)

def T_l01Sub : Tab := fun f => if f = 84 then some (.p K_l01Sub) else T_l01Add f
theorem T_l01Sub_ok : TabOk Tryz.prog T_l01Sub := fun f k h => by
  unfold T_l01Sub at h
  split at h
  · rename_i e; cases h; subst e; exact ⟨l01Sub_ok, l01Sub_fn⟩
  · exact T_l01Add_ok f k h
attribute [go_sem] T_l01Sub K_l01Sub


def K_l01Mul : Con := ⟨[.val (.int .i64), .val (.int .i64)], [⟨.int .i64, true⟩], fun _ => True, fun x => wrap32 (x.1 * x.2.1)⟩
set_option maxRecDepth 100000 in
set_option maxHeartbeats 1000000 in
theorem l01Mul_ok : PureT Tryz.prog 85 K_l01Mul := by
  refine pure_of_body Tryz.func85 rfl ?_
  have hres : Tryz.f85.results.toList = [.tmp 4] := rfl
  rintro ⟨(x : Int), (y : Int), _⟩ hc hL
  simp only [K_l01Mul, lensOk, PK.lenOk, glensOk, GP.lenOk, flensOk, GO.lenOk, olensOk, Ty.lenOk, Ty.flat, Bool.and_true, Bool.true_and, Bool.and_false, Bool.false_and, true_and, and_true, implies_true, forall_const] at hL
  simp only [K_l01Mul, St.init, St.initG, Tryz.ntmps85, go_sem] 
  refine AWP_seq_k fun K1 hK1 => ?_
  refine AWP_region (G := G) (T := T_l01Sub) T_l01Sub_ok ?_
  simp only [go_sem]
  refine hK1 _ ?_
  refine AWP_seq_k fun K2 hK2 => ?_
  refine AWP_region (G := G) (T := T_l01Sub) T_l01Sub_ok ?_
  simp (maxSteps := 2000000) only [go_sem]
  repeat (with_reducible refine And.intro (by first | omega | exact ⟨rfl, by omega, by omega, by omega⟩) ?_)
  refine hK2 _ ?_
  refine AWP_ret ?_
  simp only [hres, go_sem]
  first
    | exact finOk_mk (by rfl) (by decide)
    | refine ⟨?_, finOk_mk (by rfl) (by decide)⟩
      exact wMul x y

theorem l01Mul_fn : FnOk Tryz.prog 85 := fnOk_of Tryz.func85 rfl (by decide)

def T_l01Mul : Tab := fun f => if f = 85 then some (.p K_l01Mul) else T_l01Sub f
theorem T_l01Mul_ok : TabOk Tryz.prog T_l01Mul := fun f k h => by
  unfold T_l01Mul at h
  split at h
  · rename_i e; cases h; subst e; exact ⟨l01Mul_ok, l01Mul_fn⟩
  · exact T_l01Sub_ok f k h
attribute [go_sem] T_l01Mul K_l01Mul


def K_l06Noise : Con := ⟨[.val (.int .i64)], [⟨.int .i64, true⟩], fun _ => True, fun x => noiseV x.1⟩
set_option maxRecDepth 100000 in
set_option maxHeartbeats 1000000 in
theorem l06Noise_ok : PureT Tryz.prog 90 K_l06Noise := by
  refine pure_of_body Tryz.func90 rfl ?_
  have hres : Tryz.f90.results.toList = [.tmp 2] := rfl
  rintro ⟨(x : Int), _⟩ hc hL
  simp only [K_l06Noise, lensOk, PK.lenOk, glensOk, GP.lenOk, flensOk, GO.lenOk, olensOk, Ty.lenOk, Ty.flat, Bool.and_true, Bool.true_and, Bool.and_false, Bool.false_and, true_and, and_true, implies_true, forall_const] at hL
  simp only [K_l06Noise, St.init, St.initG, Tryz.ntmps90, go_sem] 
  have hu := uns_bd x
  refine AWP_seq_k fun K1 hK1 => ?_
  refine AWP_region (G := G) (T := T_l01Mul) T_l01Mul_ok ?_
  simp only [go_sem]
  repeat (with_reducible refine And.intro (by first | omega | exact ⟨rfl, by omega, by omega, by omega⟩ | decide) ?_)
  refine hK1 _ ?_
  refine AWP_seq_k fun K2 hK2 => ?_
  refine AWP_region (G := G) (T := T_l01Mul) T_l01Mul_ok ?_
  simp only [andM', go_sem]
  repeat (with_reducible refine And.intro (by first | omega | exact ⟨rfl, by omega, by omega, by omega⟩ | decide) ?_)
  refine hK2 _ ?_
  refine AWP_seq_k fun K3 hK3 => ?_
  refine AWP_seq_k fun K4 hK4 => ?_
  refine AWP_region (G := G) (T := T_l01Mul) T_l01Mul_ok ?_
  simp only [and1', go_sem]
  repeat (with_reducible refine And.intro (by first | omega | exact ⟨rfl, by omega, by omega, by omega⟩ | decide) ?_)
  refine hK4 _ ?_
  refine AWP_cond rfl ?_ ?_
  ·
   intro c0
   try simp only [decide_eq_true_eq, decide_eq_false_iff_not, Bool.not_eq_true', Bool.not_eq_false', ne_eq, Int.not_lt, Int.not_le] at c0
   refine AWP_seq_k fun K5 hK5 => ?_
   refine AWP_region (G := G) (T := T_l01Mul) T_l01Mul_ok ?_
   simp (maxSteps := 2000000) only [fdiv1', xorE', go_sem]
   repeat (with_reducible refine And.intro (by first | omega | exact ⟨rfl, by omega, by omega, by omega⟩ | decide) ?_)
   refine hK5 _ ?_
   refine AWP_ret ?_
   simp only [hres, go_sem]
   first
     | exact finOk_mk (by rfl) (by decide)
     | refine ⟨?_, finOk_mk (by rfl) (by decide)⟩
       first | exact (noiseU_t c0).symm | exact (noiseU_f c0).symm
  ·
   intro c0
   try simp only [decide_eq_true_eq, decide_eq_false_iff_not, Bool.not_eq_true', Bool.not_eq_false', ne_eq, Int.not_lt, Int.not_le] at c0
   refine AWP_skip ?_
   simp only [go_sem]
   refine hK3 _ ?_
   refine AWP_seq_k fun K6 hK6 => ?_
   refine AWP_region (G := G) (T := T_l01Mul) T_l01Mul_ok ?_
   simp only [fdiv1', go_sem]
   repeat (with_reducible refine And.intro (by first | omega | exact ⟨rfl, by omega, by omega, by omega⟩ | decide) ?_)
   refine hK6 _ ?_
   refine AWP_ret ?_
   simp only [hres, go_sem]
   first
     | exact finOk_mk (by rfl) (by decide)
     | refine ⟨?_, finOk_mk (by rfl) (by decide)⟩
       first | exact (noiseU_t c0).symm | exact (noiseU_f c0).symm

theorem l06Noise_fn : FnOk Tryz.prog 90 := fnOk_of Tryz.func90 rfl (by decide)

def T_l06Noise : Tab := fun f => if f = 90 then some (.p K_l06Noise) else T_l01Mul f
theorem T_l06Noise_ok : TabOk Tryz.prog T_l06Noise := fun f k h => by
  unfold T_l06Noise at h
  split at h
  · rename_i e; cases h; subst e; exact ⟨l06Noise_ok, l06Noise_fn⟩
  · exact T_l01Mul_ok f k h
attribute [go_sem] T_l06Noise K_l06Noise


def K_l06Look : Con := ⟨[.val ((.row 2 (.int .i64))), .val (.int .i64)], [⟨.int .i64, true⟩], fun x => 1 ≤ x.1.length ∧ x.1.length ≤ 16, fun x => lookV x.1 x.2.1⟩
set_option maxRecDepth 100000 in
set_option maxHeartbeats 1000000 in
theorem l06Look_ok : PureT Tryz.prog 88 K_l06Look := by
  refine pure_of_body Tryz.func88 rfl ?_
  have hres : Tryz.f88.results.toList = [.tmp 4] := rfl
  rintro ⟨(xs : List Int), (x : Int), _⟩ hc hL
  simp only [K_l06Look, lensOk, PK.lenOk, glensOk, GP.lenOk, flensOk, GO.lenOk, olensOk, Ty.lenOk, Ty.flat, Bool.and_true, Bool.true_and, Bool.and_false, Bool.false_and, true_and, and_true, implies_true, forall_const] at hL
  simp only [K_l06Look, St.init, St.initG, Tryz.ntmps88, go_sem] 
  obtain ⟨h1, h2⟩ := (show 1 ≤ xs.length ∧ xs.length ≤ 16 from hc)
  obtain ⟨hl1, hl2, hl3, hl4⟩ := look_bd (t := xs) (x := x) h1 h2
  have hlw : IntKind.i64.wrap ((xs.length : Int) * uns x) = (xs.length : Int) * uns x := wrapI (by omega)
  refine AWP_seq_k fun K1 hK1 => ?_
  refine AWP_region (G := G) (T := T_l06Noise) T_l06Noise_ok ?_
  simp only [go_sem]
  refine hK1 _ ?_
  refine AWP_seq_k fun K2 hK2 => ?_
  refine AWP_region (G := G) (T := T_l06Noise) T_l06Noise_ok ?_
  simp (maxSteps := 2000000) only [andM', hlw, fdiv32', go_sem]
  repeat (with_reducible refine And.intro (by first | omega | exact ⟨rfl, by omega, by omega, by omega⟩ | decide) ?_)
  refine hK2 _ ?_
  refine AWP_ret ?_
  simp only [hres, go_sem]
  first
    | exact finOk_mk (by rfl) (by decide)
    | refine ⟨?_, finOk_mk (by rfl) (by decide)⟩
      rfl

theorem l06Look_fn : FnOk Tryz.prog 88 := fnOk_of Tryz.func88 rfl (by decide)

def T_l06Look : Tab := fun f => if f = 88 then some (.p K_l06Look) else T_l06Noise f
theorem T_l06Look_ok : TabOk Tryz.prog T_l06Look := fun f k h => by
  unfold T_l06Look at h
  split at h
  · rename_i e; cases h; subst e; exact ⟨l06Look_ok, l06Look_fn⟩
  · exact T_l06Noise_ok f k h
attribute [go_sem] T_l06Look K_l06Look

end Go.Proofs.YthglggjgjlmhlaaGreat
