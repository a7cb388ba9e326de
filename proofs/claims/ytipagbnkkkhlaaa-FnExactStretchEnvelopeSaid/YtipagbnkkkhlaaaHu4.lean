/-
  Contracts of functions: szSegmentS, szEnvelope, toSegment, toSegmentS, toEnvelope, toFrac, eqSegment, eqSegmentS, eqEnvelope, markSegmentS, markEnvelope, heldSegmentS, heldEnvelope.
-/
import Derived.Test.YtipagbnkkkhlaaaPv
import Derived.Test.YtipagbnkkkhlaaaGp
namespace Go.Proofs.Ytipagbnkkkhlaaa
open Go.RowKit
set_option linter.unusedSimpArgs false
set_option linter.unusedVariables false

def K_szG : Con := ⟨[.val ((.row 57 (.prod (.int .i64) (.int .i64)))), .val (.int .i64)], [⟨.int .i64, true⟩], fun x => szOk x.2.1, fun x => szR x.1.length x.2.1⟩
set_option maxRecDepth 100000 in
set_option maxHeartbeats 1000000 in
theorem szG_ok : PureT Try.prog 12 K_szG := by
  refine pure_of_body Try.func12 rfl ?_
  have hres : Try.f12.results.toList = [.tmp 4] := rfl
  rintro ⟨(xs : List (Int × Int)), (lf : Int), _⟩ hc hL
  simp only [K_szG, lensOk, PK.lenOk, glensOk, GP.lenOk, flensOk, GO.lenOk, olensOk, Ty.lenOk, Ty.flat, Bool.and_true, Bool.true_and, Bool.and_false, Bool.false_and, true_and, and_true, implies_true, forall_const] at hL
  obtain lxs := hL
  simp only [K_szG, St.init, St.initG, Try.ntmps12, go_sem] 
  obtain ⟨h1, h2⟩ := (show szOk lf from hc)
  have hw : IntKind.i64.wrap (lf - (xs.length : Int)) = lf - xs.length := wrapI (by omega)
  refine AWP_seq_k fun K1 hK1 => ?_
  refine AWP_region (G := G) (T := T0) T0_ok ?_
  simp only [go_sem]
  refine hK1 _ ?_
  refine AWP_seq_k fun K2 hK2 => ?_
  refine AWP_region (G := G) (T := T0) T0_ok ?_
  simp (maxSteps := 2000000) only [hw, go_sem]
  refine hK2 _ ?_
  refine AWP_seq_k fun K3 hK3 => ?_
  refine AWP_seq_k fun K4 hK4 => ?_
  refine AWP_region (G := G) (T := T0) T0_ok ?_
  simp only [go_sem]
  refine hK4 _ ?_
  refine AWP_cond rfl ?_ ?_
  ·
   intro c0
   try simp only [decide_eq_true_eq, decide_eq_false_iff_not, Bool.not_eq_true', Bool.not_eq_false', ne_eq, Int.not_lt, Int.not_le] at c0
   refine AWP_seq_k fun K5 hK5 => ?_
   refine AWP_region (G := G) (T := T0) T0_ok ?_
   simp only [go_sem]
   refine hK5 _ ?_
   refine AWP_ret ?_
   simp only [hres, go_sem]
   first
     | exact finOk_mk (by rfl) (by decide)
     | refine ⟨?_, finOk_mk (by rfl) (by decide)⟩
       exact (szR_t (by omega)).symm
  ·
   intro c0
   try simp only [decide_eq_true_eq, decide_eq_false_iff_not, Bool.not_eq_true', Bool.not_eq_false', ne_eq, Int.not_lt, Int.not_le] at c0
   refine AWP_skip ?_
   simp only [go_sem]
   refine hK3 _ ?_
   refine AWP_seq_k fun K6 hK6 => ?_
   refine AWP_region (G := G) (T := T0) T0_ok ?_
   simp only [go_sem]
   refine hK6 _ ?_
   refine AWP_ret ?_
   simp only [hres, go_sem]
   first
     | exact finOk_mk (by rfl) (by decide)
     | refine ⟨?_, finOk_mk (by rfl) (by decide)⟩
       first | exact (szR_f (by omega)).symm | (rw [szR_f (by omega)]; omega)

theorem szG_fn : FnOk Try.prog 12 := fnOk_of Try.func12 rfl (by decide)

def T_szG : Tab := fun f => if f = 12 then some (.p K_szG) else T0 f
theorem T_szG_ok : TabOk Try.prog T_szG := fun f k h => by
  unfold T_szG at h
  split at h
  · rename_i e; cases h; subst e; exact ⟨szG_ok, szG_fn⟩
  · exact T0_ok f k h
attribute [go_sem] T_szG K_szG


def K_szE : Con := ⟨[.val ((.prod (.int .i64) (.prod (.row 57 (.prod (.int .i64) (.int .i64))) (.int .i64)))), .val (.int .i64)], [⟨.int .i64, true⟩], fun x => szOk x.2.1, fun x => szR x.1.2.1.length x.2.1⟩
set_option maxRecDepth 100000 in
set_option maxHeartbeats 1000000 in
theorem szE_ok : PureT Try.prog 4 K_szE := by
  refine pure_of_body Try.func4 rfl ?_
  have hres : Try.f4.results.toList = [.tmp 4] := rfl
  rintro ⟨⟨(st : Int), (sg : List (Int × Int)), (rl : Int)⟩, (lf : Int), _⟩ hc hL
  simp only [K_szE, lensOk, PK.lenOk, glensOk, GP.lenOk, flensOk, GO.lenOk, olensOk, Ty.lenOk, Ty.flat, Bool.and_true, Bool.true_and, Bool.and_false, Bool.false_and, true_and, and_true, implies_true, forall_const] at hL
  simp only [K_szE, St.init, St.initG, Try.ntmps4, go_sem] 
  obtain ⟨h1, h2⟩ := (show szOk lf from hc)
  refine AWP_seq_k fun K1 hK1 => ?_
  refine AWP_region (G := G) (T := T_szG) T_szG_ok ?_
  simp only [go_sem]
  repeat (with_reducible refine And.intro (by first | omega | exact ⟨rfl, by omega, by omega, by omega⟩ | exact ⟨by omega, by omega⟩) ?_)
  refine hK1 _ ?_
  refine AWP_seq_k fun K2 hK2 => ?_
  refine AWP_region (G := G) (T := T_szG) T_szG_ok ?_
  simp (maxSteps := 2000000) only [go_sem]
  repeat (with_reducible refine And.intro (by first | omega | exact ⟨rfl, by omega, by omega, by omega⟩ | exact ⟨by omega, by omega⟩) ?_)
  refine hK2 _ ?_
  refine AWP_seq_k fun K3 hK3 => ?_
  refine AWP_seq_k fun K4 hK4 => ?_
  refine AWP_region (G := G) (T := T_szG) T_szG_ok ?_
  simp only [go_sem]
  repeat (with_reducible refine And.intro (by first | omega | exact ⟨rfl, by omega, by omega, by omega⟩ | exact ⟨by omega, by omega⟩) ?_)
  refine hK4 _ ?_
  refine AWP_cond rfl ?_ ?_
  ·
   intro c0
   try simp only [decide_eq_true_eq, decide_eq_false_iff_not, Bool.not_eq_true', Bool.not_eq_false', ne_eq, Int.not_lt, Int.not_le] at c0
   obtain ⟨e1, e2⟩ := szR_lt (by omega) c0
   refine AWP_seq_k fun K5 hK5 => ?_
   refine AWP_region (G := G) (T := T_szG) T_szG_ok ?_
   simp only [go_sem]
   repeat (with_reducible refine And.intro (by first | omega | exact ⟨rfl, by omega, by omega, by omega⟩ | exact ⟨by omega, by omega⟩) ?_)
   refine hK5 _ ?_
   refine AWP_ret ?_
   simp only [hres, go_sem]
   first
     | exact finOk_mk (by rfl) (by decide)
     | refine ⟨?_, finOk_mk (by rfl) (by decide)⟩
       exact e1.symm
  ·
   intro c0
   try simp only [decide_eq_true_eq, decide_eq_false_iff_not, Bool.not_eq_true', Bool.not_eq_false', ne_eq, Int.not_lt, Int.not_le] at c0
   refine AWP_skip ?_
   simp only [go_sem]
   refine hK3 _ ?_
   refine AWP_seq_k fun K6 hK6 => ?_
   refine AWP_region (G := G) (T := T_szG) T_szG_ok ?_
   simp only [go_sem]
   repeat (with_reducible refine And.intro (by first | omega | exact ⟨rfl, by omega, by omega, by omega⟩ | exact ⟨by omega, by omega⟩) ?_)
   refine hK6 _ ?_
   refine AWP_ret ?_
   simp only [hres, go_sem]
   first
     | exact finOk_mk (by rfl) (by decide)
     | refine ⟨?_, finOk_mk (by rfl) (by decide)⟩
       rfl

theorem szE_fn : FnOk Try.prog 4 := fnOk_of Try.func4 rfl (by decide)

def T_szE : Tab := fun f => if f = 4 then some (.p K_szE) else T_szG f
theorem T_szE_ok : TabOk Try.prog T_szE := fun f k h => by
  unfold T_szE at h
  split at h
  · rename_i e; cases h; subst e; exact ⟨szE_ok, szE_fn⟩
  · exact T_szG_ok f k h
attribute [go_sem] T_szE K_szE


def K_toSg : Con := ⟨[.val ((.prod (.int .i64) (.int .i64)))], [⟨(.prod (.int .i64) (.int .i64)), true⟩], fun _ => True, fun x => x.1⟩
set_option maxRecDepth 100000 in
set_option maxHeartbeats 1000000 in
theorem toSg_ok : PureT Try.prog 29 K_toSg := by
  refine pure_of_body Try.func29 rfl ?_
  have hres : Try.f29.results.toList = [.cell 2 45] := rfl
  rintro ⟨⟨(ln : Int), (tg : Int)⟩, _⟩ hc hL
  simp only [K_toSg, lensOk, PK.lenOk, glensOk, GP.lenOk, flensOk, GO.lenOk, olensOk, Ty.lenOk, Ty.flat, Bool.and_true, Bool.true_and, Bool.and_false, Bool.false_and, true_and, and_true, implies_true, forall_const] at hL
  simp only [K_toSg, St.init, St.initG, Try.ntmps29, go_sem] 
  refine AWP_seq_k fun K1 hK1 => ?_
  refine AWP_region (G := G) (T := T_szE) T_szE_ok ?_
  simp only [go_sem]
  refine hK1 _ ?_
  refine AWP_seq_k fun K2 hK2 => ?_
  refine AWP_region (G := G) (T := T_szE) T_szE_ok ?_
  simp only [go_sem]
  refine hK2 _ ?_
  refine AWP_seq_k fun K3 hK3 => ?_
  refine AWP_region (G := G) (T := T_szE) T_szE_ok ?_
  simp only [go_sem]
  repeat (with_reducible refine And.intro (by first | omega | exact ⟨rfl, by omega, by omega, by omega⟩) ?_)
  refine hK3 _ ?_
  refine AWP_seq_k fun K4 hK4 => ?_
  refine AWP_region (G := G) (T := T_szE) T_szE_ok ?_
  simp only [go_sem]
  repeat (with_reducible refine And.intro (by first | omega | exact ⟨rfl, by omega, by omega, by omega⟩) ?_)
  refine hK4 _ ?_
  refine AWP_seq_k fun K5 hK5 => ?_
  refine AWP_region (G := G) (T := T_szE) T_szE_ok ?_
  simp only [go_sem]
  repeat (with_reducible refine And.intro (by first | omega | exact ⟨rfl, by omega, by omega, by omega⟩) ?_)
  refine hK5 _ ?_
  refine AWP_ret ?_
  simp only [hres, go_sem]
  first
    | exact finOk_mk (by rfl) (by decide)
    | refine ⟨?_, finOk_mk (by rfl) (by decide)⟩
      rfl

theorem toSg_fn : FnOk Try.prog 29 := fnOk_of Try.func29 rfl (by decide)

def T_toSg : Tab := fun f => if f = 29 then some (.p K_toSg) else T_szE f
theorem T_toSg_ok : TabOk Try.prog T_toSg := fun f k h => by
  unfold T_toSg at h
  split at h
  · rename_i e; cases h; subst e; exact ⟨toSg_ok, toSg_fn⟩
  · exact T_szE_ok f k h
attribute [go_sem] T_toSg K_toSg


def K_toG : Con := ⟨[.val ((.row 57 (.prod (.int .i64) (.int .i64))))], [⟨(.row 45 (.prod (.int .i64) (.int .i64))), true⟩], fun x => x.1.length ≤ 1099511627776, fun x => x.1⟩
set_option maxRecDepth 100000 in
set_option maxHeartbeats 1000000 in
theorem toG_ok : PureT Try.prog 16 K_toG := by
  refine pure_of_body Try.func16 rfl ?_
  have hres : Try.f16.results.toList = [.tmp 2] := rfl
  rintro ⟨(xs : List (Int × Int)), _⟩ hc hL
  simp only [K_toG, lensOk, PK.lenOk, glensOk, GP.lenOk, flensOk, GO.lenOk, olensOk, Ty.lenOk, Ty.flat, Bool.and_true, Bool.true_and, Bool.and_false, Bool.false_and, true_and, and_true, implies_true, forall_const] at hL
  simp only [K_toG, St.init, St.initG, Try.ntmps16, go_sem] 
  have hx : xs.length ≤ 1099511627776 := hc
  refine AWP_seq_k fun K1 hK1 => ?_
  refine AWP_region (G := G) (T := T_toSg) T_toSg_ok ?_
  simp only [go_sem]
  refine hK1 _ ?_
  refine AWP_seq_k fun K2 hK2 => ?_
  refine AWP_region (G := G) (T := T_toSg) T_toSg_ok ?_
  simp only [go_sem]
  repeat (with_reducible refine And.intro (by first | omega | exact ⟨rfl, by omega, by omega, by omega⟩) ?_)
  refine hK2 _ ?_
  refine AWP_seq_k fun K3 hK3 => ?_
  refine AWP_seq_k fun K4 hK4 => ?_
  refine AWP_region (G := G) (T := T_toSg) T_toSg_ok ?_
  simp only [go_sem]
  refine hK4 _ ?_
  refine AWP_block ?_
  refine AWP_loop_k (ι := { k : Nat // k ≤ xs.length }) (fun k => ⟨[.c (.rd [] 57 ((.prod (.int .i64) (.int .i64))) (xs)), zz, zz, .c (.ow 212), .c (.sc (.int .i64 (k.1))), zz, zz, zz, zz, zz, zz, zz, zz, zz, zz, zz, zz, zz, zz, zz, zz, zz, zz], [(212, .row 45 ((.prod (.int .i64) (.int .i64))) (fillT ((0, 0) : Int × Int) xs k.1) [])]⟩) (fun k => xs.length - k.1) ⟨0, by simp⟩ ?_ ?_
  ·
   refine Wk_to (by rfl) ?_
   simp (maxSteps := 2000000) only [go_sem]
   all_goals (first | rfl | ((repeat' refine And.intro ?_ ?_) <;> first | rfl | exact fillT_zero.symm | (rw [fillT_zero]; simp)))
  rintro ⟨k, hk⟩ K5 hL5
  have hfl : (fillT ((0, 0) : Int × Int) xs k).length = xs.length := fillT_len hk
  have hft : k < xs.length → (fillT ((0, 0) : Int × Int) xs k).set k (xs.getD k ((0, 0) : Int × Int)) = fillT ((0, 0) : Int × Int) xs (k + 1) := fun h => fillT_set _ h
  refine AWP_seq_k fun K6 hK6 => ?_
  refine AWP_seq_k fun K7 hK7 => ?_
  refine AWP_region (G := G) (T := T_toSg) T_toSg_ok ?_
  simp only [go_sem]
  refine hK7 _ ?_
  refine AWP_cond rfl ?_ ?_
  ·
   intro c0
   try simp only [decide_eq_true_eq, decide_eq_false_iff_not, Bool.not_eq_true', Bool.not_eq_false', ne_eq, Int.not_lt, Int.not_le] at c0
   refine AWP_skip ?_
   simp only [go_sem]
   refine hK6 _ ?_
   refine AWP_seq_k fun K8 hK8 => ?_
   refine AWP_block ?_
   refine AWP_region (G := G) (T := T_toSg) T_toSg_ok ?_
   simp (maxSteps := 2000000) only [go_sem]
   repeat (with_reducible refine And.intro (by first | omega | exact ⟨rfl, by omega, by omega, by omega⟩) ?_)
   refine hK8 _ ?_
   refine AWP_region (G := G) (T := T_toSg) T_toSg_ok ?_
   simp only [go_sem]
   refine hL5 ⟨k + 1, by omega⟩ _ (Wk_to (by rfl) ?_) ?_
   ·
    simp (maxSteps := 2000000) only [go_sem]
    all_goals (first | rfl | exact wk (by omega) | ((repeat' refine And.intro ?_ ?_) <;> first | rfl | exact wk (by omega) | exact hft (by omega) | (congr 1; exact hft (by omega))))
   ·
    first | (simp only []; omega) | omega | (simp; omega)
  ·
   intro c0
   try simp only [decide_eq_true_eq, decide_eq_false_iff_not, Bool.not_eq_true', Bool.not_eq_false', ne_eq, Int.not_lt, Int.not_le] at c0
   refine AWP_exit ?_
   simp only [go_sem]
   refine hK3 _ ?_
   refine AWP_seq_k fun K9 hK9 => ?_
   refine AWP_region (G := G) (T := T_toSg) T_toSg_ok ?_
   simp only [go_sem]
   refine hK9 _ ?_
   refine AWP_ret ?_
   simp only [hres, go_sem]
   first
     | exact finOk_mk (by rfl) (by decide)
     | refine ⟨?_, finOk_mk (by rfl) (by decide)⟩
       exact fillT_all (by omega)

theorem toG_fn : FnOk Try.prog 16 := fnOk_of Try.func16 rfl (by decide)

def T_toG : Tab := fun f => if f = 16 then some (.p K_toG) else T_toSg f
theorem T_toG_ok : TabOk Try.prog T_toG := fun f k h => by
  unfold T_toG at h
  split at h
  · rename_i e; cases h; subst e; exact ⟨toG_ok, toG_fn⟩
  · exact T_toSg_ok f k h
attribute [go_sem] T_toG K_toG


def K_toE : Con := ⟨[.val ((.prod (.int .i64) (.prod (.row 57 (.prod (.int .i64) (.int .i64))) (.int .i64))))], [⟨(.prod (.int .i64) (.prod (.row 45 (.prod (.int .i64) (.int .i64))) (.int .i64))), true⟩], fun x => x.1.2.1.length ≤ 1099511627776, fun x => x.1⟩
set_option maxRecDepth 100000 in
set_option maxHeartbeats 1000000 in
theorem toE_ok : PureT Try.prog 6 K_toE := by
  refine pure_of_body Try.func6 rfl ?_
  have hres : Try.f6.results.toList = [.cell 2 30] := rfl
  rintro ⟨⟨(st : Int), (sg : List (Int × Int)), (rl : Int)⟩, _⟩ hc hL
  simp only [K_toE, lensOk, PK.lenOk, glensOk, GP.lenOk, flensOk, GO.lenOk, olensOk, Ty.lenOk, Ty.flat, Bool.and_true, Bool.true_and, Bool.and_false, Bool.false_and, true_and, and_true, implies_true, forall_const] at hL
  simp only [K_toE, St.init, St.initG, Try.ntmps6, go_sem] 
  have hx : sg.length ≤ 1099511627776 := hc
  refine AWP_seq_k fun K1 hK1 => ?_
  refine AWP_region (G := G) (T := T_toG) T_toG_ok ?_
  simp only [go_sem]
  repeat (with_reducible refine And.intro (by first | omega | exact ⟨rfl, by omega, by omega, by omega⟩ | assumption) ?_)
  refine hK1 _ ?_
  refine AWP_seq_k fun K2 hK2 => ?_
  refine AWP_region (G := G) (T := T_toG) T_toG_ok ?_
  simp only [go_sem]
  repeat (with_reducible refine And.intro (by first | omega | exact ⟨rfl, by omega, by omega, by omega⟩ | assumption) ?_)
  refine hK2 _ ?_
  refine AWP_seq_k fun K3 hK3 => ?_
  refine AWP_region (G := G) (T := T_toG) T_toG_ok ?_
  simp only [go_sem]
  repeat (with_reducible refine And.intro (by first | omega | exact ⟨rfl, by omega, by omega, by omega⟩ | assumption) ?_)
  refine hK3 _ ?_
  refine AWP_seq_k fun K4 hK4 => ?_
  refine AWP_region (G := G) (T := T_toG) T_toG_ok ?_
  simp (maxSteps := 2000000) only [go_sem]
  repeat (with_reducible refine And.intro (by first | omega | exact ⟨rfl, by omega, by omega, by omega⟩ | assumption) ?_)
  refine hK4 _ ?_
  refine AWP_seq_k fun K5 hK5 => ?_
  refine AWP_region (G := G) (T := T_toG) T_toG_ok ?_
  simp only [go_sem]
  repeat (with_reducible refine And.intro (by first | omega | exact ⟨rfl, by omega, by omega, by omega⟩ | assumption) ?_)
  refine hK5 _ ?_
  refine AWP_seq_k fun K6 hK6 => ?_
  refine AWP_region (G := G) (T := T_toG) T_toG_ok ?_
  simp only [go_sem]
  repeat (with_reducible refine And.intro (by first | omega | exact ⟨rfl, by omega, by omega, by omega⟩ | assumption) ?_)
  refine hK6 _ ?_
  refine AWP_ret ?_
  simp only [hres, go_sem]
  first
    | exact finOk_mk (by rfl) (by decide)
    | refine ⟨?_, finOk_mk (by rfl) (by decide)⟩
      rfl

theorem toE_fn : FnOk Try.prog 6 := fnOk_of Try.func6 rfl (by decide)

def T_toE : Tab := fun f => if f = 6 then some (.p K_toE) else T_toG f
theorem T_toE_ok : TabOk Try.prog T_toE := fun f k h => by
  unfold T_toE at h
  split at h
  · rename_i e; cases h; subst e; exact ⟨toE_ok, toE_fn⟩
  · exact T_toG_ok f k h
attribute [go_sem] T_toE K_toE


def K_toF : Con := ⟨[.val ((.prod (.int .i64) (.int .i64)))], [⟨(.prod (.int .i64) (.int .i64)), true⟩], fun _ => True, fun x => x.1⟩
set_option maxRecDepth 100000 in
set_option maxHeartbeats 1000000 in
theorem toF_ok : PureT Try.prog 7 K_toF := by
  refine pure_of_body Try.func7 rfl ?_
  have hres : Try.f7.results.toList = [.cell 2 34] := rfl
  rintro ⟨⟨(fn : Int), (fd : Int)⟩, _⟩ hc hL
  simp only [K_toF, lensOk, PK.lenOk, glensOk, GP.lenOk, flensOk, GO.lenOk, olensOk, Ty.lenOk, Ty.flat, Bool.and_true, Bool.true_and, Bool.and_false, Bool.false_and, true_and, and_true, implies_true, forall_const] at hL
  simp only [K_toF, St.init, St.initG, Try.ntmps7, go_sem] 
  refine AWP_seq_k fun K1 hK1 => ?_
  refine AWP_region (G := G) (T := T_toE) T_toE_ok ?_
  simp only [go_sem]
  refine hK1 _ ?_
  refine AWP_seq_k fun K2 hK2 => ?_
  refine AWP_region (G := G) (T := T_toE) T_toE_ok ?_
  simp only [go_sem]
  refine hK2 _ ?_
  refine AWP_seq_k fun K3 hK3 => ?_
  refine AWP_region (G := G) (T := T_toE) T_toE_ok ?_
  simp only [go_sem]
  repeat (with_reducible refine And.intro (by first | omega | exact ⟨rfl, by omega, by omega, by omega⟩) ?_)
  refine hK3 _ ?_
  refine AWP_seq_k fun K4 hK4 => ?_
  refine AWP_region (G := G) (T := T_toE) T_toE_ok ?_
  simp only [go_sem]
  repeat (with_reducible refine And.intro (by first | omega | exact ⟨rfl, by omega, by omega, by omega⟩) ?_)
  refine hK4 _ ?_
  refine AWP_seq_k fun K5 hK5 => ?_
  refine AWP_region (G := G) (T := T_toE) T_toE_ok ?_
  simp only [go_sem]
  repeat (with_reducible refine And.intro (by first | omega | exact ⟨rfl, by omega, by omega, by omega⟩) ?_)
  refine hK5 _ ?_
  refine AWP_ret ?_
  simp only [hres, go_sem]
  first
    | exact finOk_mk (by rfl) (by decide)
    | refine ⟨?_, finOk_mk (by rfl) (by decide)⟩
      rfl

theorem toF_fn : FnOk Try.prog 7 := fnOk_of Try.func7 rfl (by decide)

def T_toF : Tab := fun f => if f = 7 then some (.p K_toF) else T_toE f
theorem T_toF_ok : TabOk Try.prog T_toF := fun f k h => by
  unfold T_toF at h
  split at h
  · rename_i e; cases h; subst e; exact ⟨toF_ok, toF_fn⟩
  · exact T_toE_ok f k h
attribute [go_sem] T_toF K_toF


def K_eqSg : Con := ⟨[.val ((.prod (.int .i64) (.int .i64))), .val ((.prod (.int .i64) (.int .i64)))], [⟨.bool, true⟩], fun _ => True, fun x => eqD (x.1 : Int × Int) (x.2.1 : Int × Int)⟩
set_option maxRecDepth 100000 in
set_option maxHeartbeats 1000000 in
theorem eqSg_ok : PureT Try.prog 35 K_eqSg := by
  refine pure_of_body Try.func35 rfl ?_
  have hres : Try.f35.results.toList = [.tmp 4] := rfl
  rintro ⟨⟨(a1 : Int), (b1 : Int)⟩, ⟨(a2 : Int), (b2 : Int)⟩, _⟩ hc hL
  simp only [K_eqSg, lensOk, PK.lenOk, glensOk, GP.lenOk, flensOk, GO.lenOk, olensOk, Ty.lenOk, Ty.flat, Bool.and_true, Bool.true_and, Bool.and_false, Bool.false_and, true_and, and_true, implies_true, forall_const] at hL
  simp only [K_eqSg, St.init, St.initG, Try.ntmps35, go_sem] 
  refine AWP_seq_k fun K1 hK1 => ?_
  refine AWP_region (G := G) (T := T_toF) T_toF_ok ?_
  simp only [go_sem]
  refine hK1 _ ?_
  refine AWP_seq_k fun K2 hK2 => ?_
  refine AWP_seq_k fun K3 hK3 => ?_
  refine AWP_region (G := G) (T := T_toF) T_toF_ok ?_
  simp (maxSteps := 2000000) only [go_sem]
  repeat (with_reducible refine And.intro (by first | omega | exact ⟨rfl, by omega, by omega, by omega⟩) ?_)
  refine hK3 _ ?_
  refine AWP_cond rfl ?_ ?_
  ·
   intro c0
   try simp only [decide_eq_true_eq, decide_eq_false_iff_not, Bool.not_eq_true', Bool.not_eq_false', ne_eq, Int.not_lt, Int.not_le] at c0
   refine AWP_seq_k fun K4 hK4 => ?_
   refine AWP_region (G := G) (T := T_toF) T_toF_ok ?_
   simp only [go_sem]
   refine hK4 _ ?_
   refine AWP_ret ?_
   simp only [hres, go_sem]
   first
     | exact finOk_mk (by rfl) (by decide)
     | refine ⟨?_, finOk_mk (by rfl) (by decide)⟩
       clear hK1 hK2 hK3 hK4; simp_all [eqD]
  ·
   intro c0
   try simp only [decide_eq_true_eq, decide_eq_false_iff_not, Bool.not_eq_true', Bool.not_eq_false', ne_eq, Int.not_lt, Int.not_le] at c0
   refine AWP_skip ?_
   simp only [go_sem]
   refine hK2 _ ?_
   refine AWP_seq_k fun K5 hK5 => ?_
   refine AWP_seq_k fun K6 hK6 => ?_
   refine AWP_region (G := G) (T := T_toF) T_toF_ok ?_
   simp (maxSteps := 2000000) only [go_sem]
   repeat (with_reducible refine And.intro (by first | omega | exact ⟨rfl, by omega, by omega, by omega⟩) ?_)
   refine hK6 _ ?_
   refine AWP_cond rfl ?_ ?_
   ·
    intro c1
    try simp only [decide_eq_true_eq, decide_eq_false_iff_not, Bool.not_eq_true', Bool.not_eq_false', ne_eq, Int.not_lt, Int.not_le] at c1
    refine AWP_seq_k fun K7 hK7 => ?_
    refine AWP_region (G := G) (T := T_toF) T_toF_ok ?_
    simp only [go_sem]
    refine hK7 _ ?_
    refine AWP_ret ?_
    simp only [hres, go_sem]
    first
      | exact finOk_mk (by rfl) (by decide)
      | refine ⟨?_, finOk_mk (by rfl) (by decide)⟩
        clear hK1 hK2 hK3 hK5 hK6 hK7; simp_all [eqD]
   ·
    intro c1
    try simp only [decide_eq_true_eq, decide_eq_false_iff_not, Bool.not_eq_true', Bool.not_eq_false', ne_eq, Int.not_lt, Int.not_le] at c1
    refine AWP_skip ?_
    simp only [go_sem]
    refine hK5 _ ?_
    refine AWP_seq_k fun K8 hK8 => ?_
    refine AWP_region (G := G) (T := T_toF) T_toF_ok ?_
    simp only [go_sem]
    refine hK8 _ ?_
    refine AWP_ret ?_
    simp only [hres, go_sem]
    first
      | exact finOk_mk (by rfl) (by decide)
      | refine ⟨?_, finOk_mk (by rfl) (by decide)⟩
        clear hK1 hK2 hK3 hK5 hK6 hK8; simp_all [eqD]

theorem eqSg_fn : FnOk Try.prog 35 := fnOk_of Try.func35 rfl (by decide)

def T_eqSg : Tab := fun f => if f = 35 then some (.p K_eqSg) else T_toF f
theorem T_eqSg_ok : TabOk Try.prog T_eqSg := fun f k h => by
  unfold T_eqSg at h
  split at h
  · rename_i e; cases h; subst e; exact ⟨eqSg_ok, eqSg_fn⟩
  · exact T_toF_ok f k h
attribute [go_sem] T_eqSg K_eqSg


def K_eqG : Con := ⟨[.val ((.row 45 (.prod (.int .i64) (.int .i64)))), .val ((.row 45 (.prod (.int .i64) (.int .i64))))], [⟨.bool, true⟩], fun _ => True, fun x => eqD (x.1 : List (Int × Int)) (x.2.1 : List (Int × Int))⟩
set_option maxRecDepth 100000 in
set_option maxHeartbeats 1000000 in
theorem eqG_ok : PureT Try.prog 21 K_eqG := by
  refine pure_of_body Try.func21 rfl ?_
  have hres : Try.f21.results.toList = [.tmp 4] := rfl
  rintro ⟨(xs : List (Int × Int)), (ys : List (Int × Int)), _⟩ hc hL
  simp only [K_eqG, lensOk, PK.lenOk, glensOk, GP.lenOk, flensOk, GO.lenOk, olensOk, Ty.lenOk, Ty.flat, Bool.and_true, Bool.true_and, Bool.and_false, Bool.false_and, true_and, and_true, implies_true, forall_const] at hL
  obtain ⟨lxs, lys⟩ := hL
  simp only [K_eqG, St.init, St.initG, Try.ntmps21, go_sem] 
  refine AWP_seq_k fun K1 hK1 => ?_
  refine AWP_region (G := G) (T := T_eqSg) T_eqSg_ok ?_
  simp only [go_sem]
  refine hK1 _ ?_
  refine AWP_seq_k fun K2 hK2 => ?_
  refine AWP_seq_k fun K3 hK3 => ?_
  refine AWP_region (G := G) (T := T_eqSg) T_eqSg_ok ?_
  simp (maxSteps := 2000000) only [go_sem]
  refine hK3 _ ?_
  refine AWP_cond rfl ?_ ?_
  ·
   intro c0
   try simp only [decide_eq_true_eq, decide_eq_false_iff_not, Bool.not_eq_true', Bool.not_eq_false', ne_eq, Int.not_lt, Int.not_le] at c0
   refine AWP_seq_k fun K4 hK4 => ?_
   refine AWP_region (G := G) (T := T_eqSg) T_eqSg_ok ?_
   simp only [go_sem]
   refine hK4 _ ?_
   refine AWP_ret ?_
   simp only [hres, go_sem]
   first
     | exact finOk_mk (by rfl) (by decide)
     | refine ⟨?_, finOk_mk (by rfl) (by decide)⟩
       exact (eq_len (by omega)).symm
  ·
   intro c0
   try simp only [decide_eq_true_eq, decide_eq_false_iff_not, Bool.not_eq_true', Bool.not_eq_false', ne_eq, Int.not_lt, Int.not_le] at c0
   refine AWP_skip ?_
   simp only [go_sem]
   refine hK2 _ ?_
   refine AWP_seq_k fun K5 hK5 => ?_
   refine AWP_seq_k fun K6 hK6 => ?_
   refine AWP_region (G := G) (T := T_eqSg) T_eqSg_ok ?_
   simp only [go_sem]
   refine hK6 _ ?_
   refine AWP_block ?_
   refine AWP_loop_k (ι := { k : Nat // k ≤ xs.length ∧ xs.take k = ys.take k }) (fun k => ⟨[.c (.rd [] 45 ((.prod (.int .i64) (.int .i64))) (xs)), .c (.rd [] 45 ((.prod (.int .i64) (.int .i64))) (ys)), zz, zz, zz, .c (.sc (.int .i64 (k.1))), zz, zz, zz, zz, zz, zz, zz, zz, zz, zz, zz, zz, zz, zz, zz, zz, zz, zz, zz, zz, zz], []⟩) (fun k => xs.length - k.1) ⟨0, by simp, by simp⟩ ?_ ?_
   ·
    refine Wk_to (by rfl) ?_
    simp (maxSteps := 2000000) only [go_sem]
    all_goals (first | rfl | ((repeat' refine And.intro ?_ ?_) <;> first | rfl | simp))
   rintro ⟨k, hk, hp⟩ K7 hL7
   refine AWP_seq_k fun K8 hK8 => ?_
   refine AWP_seq_k fun K9 hK9 => ?_
   refine AWP_region (G := G) (T := T_eqSg) T_eqSg_ok ?_
   simp only [go_sem]
   refine hK9 _ ?_
   refine AWP_cond rfl ?_ ?_
   ·
    intro c1
    try simp only [decide_eq_true_eq, decide_eq_false_iff_not, Bool.not_eq_true', Bool.not_eq_false', ne_eq, Int.not_lt, Int.not_le] at c1
    refine AWP_skip ?_
    simp only [go_sem]
    refine hK8 _ ?_
    refine AWP_seq_k fun K10 hK10 => ?_
    refine AWP_block ?_
    refine AWP_seq_k fun K11 hK11 => ?_
    refine AWP_draw (G := G) (T := T_eqSg) T_eqSg_ok mixed
      [[], [], [0, 1], [0, 1, 2], [], [], [4, 5], [4, 5, 6], [0, 1, 2, 3, 4, 5, 6, 7], [0, 1, 2, 3, 4, 5, 6, 7, 8]]
      [[], [], [], [], [], [], [], [], [], []]
      [[], [], [], [], [], [], [], [], [], []] (by kernel_rfl) (by kernel_rfl) (adrawR_ok (acc := []) ?_)
    simp (maxSteps := 2000000) only [go_sem]
    repeat (with_reducible refine And.intro (by first | exact chk_leaf (by kernel_rfl) | omega | exact ⟨rfl, by omega, by omega, by omega⟩) ?_)
    refine hK11 _ ?_
    refine AWP_cond rfl ?_ ?_
    ·
     intro c2
     try simp only [decide_eq_true_eq, decide_eq_false_iff_not, Bool.not_eq_true', Bool.not_eq_false', ne_eq, Int.not_lt, Int.not_le] at c2
     refine AWP_seq_k fun K12 hK12 => ?_
     refine AWP_region (G := G) (T := T_eqSg) T_eqSg_ok ?_
     simp only [go_sem]
     refine hK12 _ ?_
     refine AWP_ret ?_
     simp only [hres, go_sem]
     first
       | exact finOk_mk (by rfl) (by decide)
       | refine ⟨?_, finOk_mk (by rfl) (by decide)⟩
         exact (eq_stop ((0, 0) : Int × Int) (m := k) (by first | assumption | exact decide_eq_false (by assumption))).symm
    ·
     intro c2
     try simp only [decide_eq_true_eq, decide_eq_false_iff_not, Bool.not_eq_true', Bool.not_eq_false', ne_eq, Int.not_lt, Int.not_le] at c2
     refine AWP_skip ?_
     simp only [go_sem]
     refine hK10 _ ?_
     refine AWP_region (G := G) (T := T_eqSg) T_eqSg_ok ?_
     simp only [go_sem]
     refine hL7 ⟨k + 1, by omega, eq_next (d := ((0, 0) : Int × Int)) (by omega) (by omega) hp (by first | assumption | exact decide_eq_true (by assumption))⟩ _ (Wk_to (by rfl) ?_) ?_
     ·
      simp (maxSteps := 2000000) only [go_sem]
      all_goals (first | rfl | ((repeat' refine And.intro ?_ ?_) <;> first | rfl | exact wk (by omega) | simp))
     ·
      first | (simp only []; omega) | omega | (simp; omega)
   ·
    intro c1
    try simp only [decide_eq_true_eq, decide_eq_false_iff_not, Bool.not_eq_true', Bool.not_eq_false', ne_eq, Int.not_lt, Int.not_le] at c1
    refine AWP_exit ?_
    simp only [go_sem]
    refine hK5 _ ?_
    refine AWP_seq_k fun K13 hK13 => ?_
    refine AWP_region (G := G) (T := T_eqSg) T_eqSg_ok ?_
    simp only [go_sem]
    refine hK13 _ ?_
    refine AWP_ret ?_
    simp only [hres, go_sem]
    first
      | exact finOk_mk (by rfl) (by decide)
      | refine ⟨?_, finOk_mk (by rfl) (by decide)⟩
        exact (eq_done (m := k) (by omega) (by omega) hp).symm

theorem eqG_fn : FnOk Try.prog 21 := fnOk_of Try.func21 rfl (by decide)

def T_eqG : Tab := fun f => if f = 21 then some (.p K_eqG) else T_eqSg f
theorem T_eqG_ok : TabOk Try.prog T_eqG := fun f k h => by
  unfold T_eqG at h
  split at h
  · rename_i e; cases h; subst e; exact ⟨eqG_ok, eqG_fn⟩
  · exact T_eqSg_ok f k h
attribute [go_sem] T_eqG K_eqG


def K_eqE : Con := ⟨[.val ((.prod (.int .i64) (.prod (.row 45 (.prod (.int .i64) (.int .i64))) (.int .i64)))), .val ((.prod (.int .i64) (.prod (.row 45 (.prod (.int .i64) (.int .i64))) (.int .i64))))], [⟨.bool, true⟩], fun _ => True, fun x => eqD (x.1 : EnvD) (x.2.1 : EnvD)⟩
set_option maxRecDepth 100000 in
set_option maxHeartbeats 1000000 in
theorem eqE_ok : PureT Try.prog 9 K_eqE := by
  refine pure_of_body Try.func9 rfl ?_
  have hres : Try.f9.results.toList = [.tmp 4] := rfl
  rintro ⟨⟨(st : Int), (sg : List (Int × Int)), (rl : Int)⟩, ⟨(st2 : Int), (sg2 : List (Int × Int)), (rl2 : Int)⟩, _⟩ hc hL
  simp only [K_eqE, lensOk, PK.lenOk, glensOk, GP.lenOk, flensOk, GO.lenOk, olensOk, Ty.lenOk, Ty.flat, Bool.and_true, Bool.true_and, Bool.and_false, Bool.false_and, true_and, and_true, implies_true, forall_const] at hL
  simp only [K_eqE, St.init, St.initG, Try.ntmps9, go_sem] 
  refine AWP_seq_k fun K1 hK1 => ?_
  refine AWP_region (G := G) (T := T_eqG) T_eqG_ok ?_
  simp only [go_sem]
  refine hK1 _ ?_
  refine AWP_seq_k fun K2 hK2 => ?_
  refine AWP_seq_k fun K3 hK3 => ?_
  refine AWP_region (G := G) (T := T_eqG) T_eqG_ok ?_
  simp (maxSteps := 2000000) only [go_sem]
  repeat (with_reducible refine And.intro (by first | omega | exact ⟨rfl, by omega, by omega, by omega⟩) ?_)
  refine hK3 _ ?_
  refine AWP_cond rfl ?_ ?_
  ·
   intro c0
   try simp only [decide_eq_true_eq, decide_eq_false_iff_not, Bool.not_eq_true', Bool.not_eq_false', ne_eq, Int.not_lt, Int.not_le] at c0
   refine AWP_seq_k fun K4 hK4 => ?_
   refine AWP_region (G := G) (T := T_eqG) T_eqG_ok ?_
   simp only [go_sem]
   refine hK4 _ ?_
   refine AWP_ret ?_
   simp only [hres, go_sem]
   first
     | exact finOk_mk (by rfl) (by decide)
     | refine ⟨?_, finOk_mk (by rfl) (by decide)⟩
       clear hK1 hK2 hK3 hK4; simp_all [eqD]
  ·
   intro c0
   try simp only [decide_eq_true_eq, decide_eq_false_iff_not, Bool.not_eq_true', Bool.not_eq_false', ne_eq, Int.not_lt, Int.not_le] at c0
   refine AWP_skip ?_
   simp only [go_sem]
   refine hK2 _ ?_
   refine AWP_seq_k fun K5 hK5 => ?_
   refine AWP_seq_k fun K6 hK6 => ?_
   refine AWP_region (G := G) (T := T_eqG) T_eqG_ok ?_
   simp (maxSteps := 2000000) only [go_sem]
   repeat (with_reducible refine And.intro (by first | omega | exact ⟨rfl, by omega, by omega, by omega⟩) ?_)
   refine hK6 _ ?_
   refine AWP_cond rfl ?_ ?_
   ·
    intro c1
    try simp only [decide_eq_true_eq, decide_eq_false_iff_not, Bool.not_eq_true', Bool.not_eq_false', ne_eq, Int.not_lt, Int.not_le] at c1
    refine AWP_seq_k fun K7 hK7 => ?_
    refine AWP_region (G := G) (T := T_eqG) T_eqG_ok ?_
    simp only [go_sem]
    refine hK7 _ ?_
    refine AWP_ret ?_
    simp only [hres, go_sem]
    first
      | exact finOk_mk (by rfl) (by decide)
      | refine ⟨?_, finOk_mk (by rfl) (by decide)⟩
        clear hK1 hK2 hK3 hK5 hK6 hK7; simp_all [eqD]
   ·
    intro c1
    try simp only [decide_eq_true_eq, decide_eq_false_iff_not, Bool.not_eq_true', Bool.not_eq_false', ne_eq, Int.not_lt, Int.not_le] at c1
    refine AWP_skip ?_
    simp only [go_sem]
    refine hK5 _ ?_
    refine AWP_seq_k fun K8 hK8 => ?_
    refine AWP_seq_k fun K9 hK9 => ?_
    refine AWP_region (G := G) (T := T_eqG) T_eqG_ok ?_
    simp (maxSteps := 2000000) only [go_sem]
    repeat (with_reducible refine And.intro (by first | omega | exact ⟨rfl, by omega, by omega, by omega⟩) ?_)
    refine hK9 _ ?_
    refine AWP_cond rfl ?_ ?_
    ·
     intro c2
     try simp only [decide_eq_true_eq, decide_eq_false_iff_not, Bool.not_eq_true', Bool.not_eq_false', ne_eq, Int.not_lt, Int.not_le] at c2
     refine AWP_seq_k fun K10 hK10 => ?_
     refine AWP_region (G := G) (T := T_eqG) T_eqG_ok ?_
     simp only [go_sem]
     refine hK10 _ ?_
     refine AWP_ret ?_
     simp only [hres, go_sem]
     first
       | exact finOk_mk (by rfl) (by decide)
       | refine ⟨?_, finOk_mk (by rfl) (by decide)⟩
         clear hK1 hK2 hK3 hK5 hK6 hK8 hK9 hK10; simp_all [eqD]
    ·
     intro c2
     try simp only [decide_eq_true_eq, decide_eq_false_iff_not, Bool.not_eq_true', Bool.not_eq_false', ne_eq, Int.not_lt, Int.not_le] at c2
     refine AWP_skip ?_
     simp only [go_sem]
     refine hK8 _ ?_
     refine AWP_seq_k fun K11 hK11 => ?_
     refine AWP_region (G := G) (T := T_eqG) T_eqG_ok ?_
     simp only [go_sem]
     refine hK11 _ ?_
     refine AWP_ret ?_
     simp only [hres, go_sem]
     first
       | exact finOk_mk (by rfl) (by decide)
       | refine ⟨?_, finOk_mk (by rfl) (by decide)⟩
         clear hK1 hK2 hK3 hK5 hK6 hK8 hK9 hK11; simp_all [eqD]

theorem eqE_fn : FnOk Try.prog 9 := fnOk_of Try.func9 rfl (by decide)

def T_eqE : Tab := fun f => if f = 9 then some (.p K_eqE) else T_eqG f
theorem T_eqE_ok : TabOk Try.prog T_eqE := fun f k h => by
  unfold T_eqE at h
  split at h
  · rename_i e; cases h; subst e; exact ⟨eqE_ok, eqE_fn⟩
  · exact T_eqG_ok f k h
attribute [go_sem] T_eqE K_eqE


def K_markG : GCon where
  ps := [.ow 0, .val (.int .i64)]
  os := [.row 45 ((.prod (.int .i64) (.int .i64)))]
  c := fun x => mkOk x.1.2.1 (2 * x.2.1.length)
  r := fun x => .c (.sc (.int .i64 (x.1.2.1 + ((2 * x.2.1.length : Nat) : Int))))
  o := fun x => [(30, .row 45 ((.prod (.int .i64) (.int .i64))) (markSg x.1.2.1 x.2.1) [])]
  ok := by
    rintro ⟨⟨_, (kk : Int), _⟩, ⟨(xs : List (Int × Int)), _⟩⟩
    exact ⟨rfl, rfl, by decide⟩
set_option maxRecDepth 100000 in
set_option maxHeartbeats 4000000 in
theorem markG_ok : GenT Try.prog 22 K_markG := by
  refine gen_of_body Try.func22 rfl ?_
  have hres : Try.f22.results.toList = [.tmp 4] := rfl
  rintro ⟨⟨_, (kk : Int), _⟩, ⟨(xs : List (Int × Int)), _⟩⟩ hc hL hO
  simp only [K_markG, lensOk, PK.lenOk, glensOk, GP.lenOk, flensOk, GO.lenOk, olensOk, Ty.lenOk, Ty.flat, Bool.and_true, Bool.true_and, Bool.and_false, Bool.false_and, true_and, and_true, implies_true, forall_const] at hL
  simp only [K_markG, lensOk, PK.lenOk, glensOk, GP.lenOk, flensOk, GO.lenOk, olensOk, Ty.lenOk, Ty.flat, Bool.and_true, Bool.true_and, Bool.and_false, Bool.false_and, true_and, and_true, implies_true, forall_const] at hO
  simp only [K_markG, St.init, St.initG, Try.ntmps22, go_sem] 
  obtain ⟨h1, h2⟩ := (show mkOk kk (2 * xs.length) from hc)
  refine AWP_seq_k fun K1 hK1 => ?_
  refine AWP_region (G := G) (T := T_eqE) T_eqE_ok ?_
  simp only [go_sem]
  refine hK1 _ ?_
  refine AWP_seq_k fun K2 hK2 => ?_
  refine AWP_seq_k fun K3 hK3 => ?_
  refine AWP_region (G := G) (T := T_eqE) T_eqE_ok ?_
  simp only [go_sem]
  refine hK3 _ ?_
  refine AWP_block ?_
  refine AWP_loop_k (ι := { k : Nat // k ≤ xs.length }) (fun k => ⟨[.c (.ow 30), .c (.sc (.int .i64 (kk + (cntA ctSg (xs.take k.1) : Nat)))), zz, zz, zz, .c (.sc (.int .i64 (k.1))), zz, zz, zz, zz, zz, zz, zz, zz, zz, zz, zz, zz, zz, zz, zz, zz, zz, zz, zz, zz, zz], [(30, .row 45 ((.prod (.int .i64) (.int .i64))) (markT mkSg ctSg kk xs k.1) [])]⟩) (fun k => xs.length - k.1) ⟨0, by simp⟩ ?_ ?_
  ·
   refine Wk_to (by rfl) ?_
   simp (maxSteps := 2000000) only [go_sem]
   all_goals (first | rfl | ((repeat' refine And.intro ?_ ?_) <;> first | rfl | exact markT_zero.symm | (simp [cntA]; done) | (rw [markT_zero])))
  rintro ⟨k, hk⟩ K4 hL4
  have hml : (markT mkSg ctSg kk xs k).length = xs.length := markT_len hk
  have hma : k < xs.length → (markT mkSg ctSg kk xs k).getD k ((0, 0) : Int × Int) = xs.getD k ((0, 0) : Int × Int) := fun h => markT_at _ h
  have hms : k < xs.length → (markT mkSg ctSg kk xs k).set k (mkSg (kk + (cntA ctSg (xs.take k) : Nat)) (xs.getD k ((0, 0) : Int × Int))) = markT mkSg ctSg kk xs (k + 1) := fun h => markT_set _ h
  have hnx : k < xs.length → cntA ctSg (xs.take (k + 1)) = cntA ctSg (xs.take k) + 2 := fun h => cntA_next ((0, 0) : Int × Int) h
  have hle : cntA ctSg (xs.take (k + 1)) ≤ cntA ctSg xs := cntA_take _
  have hci : cntA ctSg xs = 2 * xs.length := cntSg xs
  have gs : k < xs.length → ∀ x, ((markT mkSg ctSg kk xs k).set k x).getD k ((0, 0) : Int × Int) = x := fun h x => getD_setk (by omega)
  have hw1 : k < xs.length → IntKind.i64.wrap (kk + (cntA ctSg (xs.take k) : Nat) + 1) = kk + (cntA ctSg (xs.take k) : Nat) + 1 := fun h => wrapI (by have := hnx h; omega)
  have hw2 : k < xs.length → IntKind.i64.wrap (kk + (cntA ctSg (xs.take k) : Nat) + 1 + 1) = kk + (cntA ctSg (xs.take k) : Nat) + 2 := fun h => by rw [wrapI (by have := hnx h; omega)]; omega
  refine AWP_seq_k fun K5 hK5 => ?_
  refine AWP_seq_k fun K6 hK6 => ?_
  refine AWP_region (G := G) (T := T_eqE) T_eqE_ok ?_
  simp only [go_sem]
  refine hK6 _ ?_
  refine AWP_cond rfl ?_ ?_
  ·
   intro c0
   try simp only [decide_eq_true_eq, decide_eq_false_iff_not, Bool.not_eq_true', Bool.not_eq_false', ne_eq, Int.not_lt, Int.not_le] at c0
   refine AWP_skip ?_
   simp only [go_sem]
   refine hK5 _ ?_
   refine AWP_seq_k fun K7 hK7 => ?_
   refine AWP_block ?_
   refine AWP_seq_k fun K8 hK8 => ?_
   have hma' := hma (by omega)
   have hms' := hms (by omega)
   have hw1 := hw1 (by omega)
   have hw2 := hw2 (by omega)
   have hq := hnx (by omega)
   have gs := gs (by omega)
   refine AWP_region (G := G) (T := T_eqE) T_eqE_ok ?_
   simp (maxSteps := 2000000) only [gs, List.set_set, hma', hml, List.length_set, hw1, hw2, go_sem]
   repeat (with_reducible refine And.intro (by first | omega | exact ⟨rfl, by omega, by omega, by omega⟩) ?_)
   refine hK8 _ ?_
   refine AWP_seq_k fun K9 hK9 => ?_
   refine AWP_region (G := G) (T := T_eqE) T_eqE_ok ?_
   simp only [gs, List.set_set, hma', hml, List.length_set, hw1, hw2, go_sem]
   refine hK9 _ ?_
   refine AWP_seq_k fun K10 hK10 => ?_
   refine AWP_region (G := G) (T := T_eqE) T_eqE_ok ?_
   simp (maxSteps := 2000000) only [gs, List.set_set, hma', hml, List.length_set, hw1, hw2, go_sem]
   repeat (with_reducible refine And.intro (by first | omega | exact ⟨rfl, by omega, by omega, by omega⟩) ?_)
   refine hK10 _ ?_
   refine AWP_region (G := G) (T := T_eqE) T_eqE_ok ?_
   simp only [gs, List.set_set, hma', hml, List.length_set, hw1, hw2, go_sem]
   refine hK7 _ ?_
   refine AWP_region (G := G) (T := T_eqE) T_eqE_ok ?_
   simp only [go_sem]
   refine hL4 ⟨k + 1, by omega⟩ _ (Wk_to (by rfl) ?_) ?_
   ·
    simp (maxSteps := 2000000) only [go_sem]
    all_goals (first | rfl | ((repeat' refine And.intro ?_ ?_) <;> first | rfl | exact wk (by omega) | exact hms (by omega) | (congr 1; exact hms (by omega)) | (congr 1; done) | omega))
   ·
    first | (simp only []; omega) | omega | (simp; omega)
  ·
   intro c0
   try simp only [decide_eq_true_eq, decide_eq_false_iff_not, Bool.not_eq_true', Bool.not_eq_false', ne_eq, Int.not_lt, Int.not_le] at c0
   refine AWP_exit ?_
   simp only [go_sem]
   refine hK2 _ ?_
   refine AWP_seq_k fun K11 hK11 => ?_
   refine AWP_region (G := G) (T := T_eqE) T_eqE_ok ?_
   simp only [go_sem]
   refine hK11 _ ?_
   refine AWP_ret ?_
   simp only [hres, go_sem]
   first
     | exact finOkG_mk (by rfl)
     | refine ⟨finOkG_mk (by rfl), ?_⟩
       have hk3 : cntA ctSg (xs.take k) = cntA ctSg xs := by rw [List.take_of_length_le (l := xs) (i := k) (by omega)]
       (repeat' refine And.intro ?_ ?_) <;> first | rfl | exact markT_all (by omega) | (congr 1; exact markT_all (by omega)) | (rw [hk3]; rw [cntSg]) | omega

theorem markG_fn : FnOk Try.prog 22 := fnOk_of Try.func22 rfl (by decide)

def T_markG : Tab := fun f => if f = 22 then some (.g K_markG) else T_eqE f
theorem T_markG_ok : TabOk Try.prog T_markG := fun f k h => by
  unfold T_markG at h
  split at h
  · rename_i e; cases h; subst e; exact ⟨markG_ok, markG_fn⟩
  · exact T_eqE_ok f k h
attribute [go_sem] T_markG K_markG


def K_markE : GCon where
  ps := [.ag [.rd (.int .i64), .ow 0, .rd (.int .i64)], .val (.int .i64)]
  os := [.row 45 ((.prod (.int .i64) (.int .i64)))]
  c := fun x => mkOk x.1.2.1 (2 * x.2.1.length)
  r := fun x => .c (.sc (.int .i64 (x.1.2.1 + ((2 * x.2.1.length : Nat) : Int))))
  o := fun x => [(30, .row 45 ((.prod (.int .i64) (.int .i64))) (markSg x.1.2.1 x.2.1) [])]
  ok := by
    rintro ⟨⟨⟨(st : Int), _, (rl : Int), _⟩, (kk : Int), _⟩, ⟨(xs : List (Int × Int)), _⟩⟩
    exact ⟨rfl, rfl, by decide⟩
set_option maxRecDepth 100000 in
set_option maxHeartbeats 1000000 in
theorem markE_ok : GenT Try.prog 10 K_markE := by
  refine gen_of_body Try.func10 rfl ?_
  have hres : Try.f10.results.toList = [.tmp 4] := rfl
  rintro ⟨⟨⟨(st : Int), _, (rl : Int), _⟩, (kk : Int), _⟩, ⟨(xs : List (Int × Int)), _⟩⟩ hc hL hO
  simp only [K_markE, lensOk, PK.lenOk, glensOk, GP.lenOk, flensOk, GO.lenOk, olensOk, Ty.lenOk, Ty.flat, Bool.and_true, Bool.true_and, Bool.and_false, Bool.false_and, true_and, and_true, implies_true, forall_const] at hL
  simp only [K_markE, lensOk, PK.lenOk, glensOk, GP.lenOk, flensOk, GO.lenOk, olensOk, Ty.lenOk, Ty.flat, Bool.and_true, Bool.true_and, Bool.and_false, Bool.false_and, true_and, and_true, implies_true, forall_const] at hO
  simp only [K_markE, St.init, St.initG, Try.ntmps10, go_sem] 
  have hmm : mkOk kk (2 * xs.length) := hc
  refine AWP_seq_k fun K1 hK1 => ?_
  refine AWP_region (G := G) (T := T_markG) T_markG_ok ?_
  simp only [go_sem]
  repeat (with_reducible refine And.intro (by first | omega | exact ⟨rfl, by omega, by omega, by omega⟩ | exact hmm) ?_)
  refine hK1 _ ?_
  refine AWP_seq_k fun K2 hK2 => ?_
  refine AWP_region (G := G) (T := T_markG) T_markG_ok ?_
  simp (maxSteps := 2000000) only [go_sem]
  repeat (with_reducible refine And.intro (by first | omega | exact ⟨rfl, by omega, by omega, by omega⟩ | exact hmm) ?_)
  refine hK2 _ ?_
  refine AWP_seq_k fun K3 hK3 => ?_
  refine AWP_region (G := G) (T := T_markG) T_markG_ok ?_
  simp only [go_sem]
  repeat (with_reducible refine And.intro (by first | omega | exact ⟨rfl, by omega, by omega, by omega⟩ | exact hmm) ?_)
  refine hK3 _ ?_
  refine AWP_ret ?_
  simp only [hres, go_sem]
  first
    | exact finOkG_mk (by rfl)
    | refine ⟨finOkG_mk (by rfl), ?_⟩
      (repeat' refine And.intro ?_ ?_) <;> first | rfl | (congr 1; done)

theorem markE_fn : FnOk Try.prog 10 := fnOk_of Try.func10 rfl (by decide)

def T_markE : Tab := fun f => if f = 10 then some (.g K_markE) else T_markG f
theorem T_markE_ok : TabOk Try.prog T_markE := fun f k h => by
  unfold T_markE at h
  split at h
  · rename_i e; cases h; subst e; exact ⟨markE_ok, markE_fn⟩
  · exact T_markG_ok f k h
attribute [go_sem] T_markE K_markE


def K_heldG : Con := ⟨[.val ((.row 45 (.prod (.int .i64) (.int .i64)))), .val (.int .i64)], [⟨.int .i64, true⟩], fun x => mkOk x.2.1 (2 * x.1.length), fun x => heldA mkSg ctSg x.2.1 x.1⟩
set_option maxRecDepth 100000 in
set_option maxHeartbeats 4000000 in
theorem heldG_ok : PureT Try.prog 23 K_heldG := by
  refine pure_of_body Try.func23 rfl ?_
  have hres : Try.f23.results.toList = [.tmp 4] := rfl
  rintro ⟨(xs : List (Int × Int)), (kk : Int), _⟩ hc hL
  simp only [K_heldG, lensOk, PK.lenOk, glensOk, GP.lenOk, flensOk, GO.lenOk, olensOk, Ty.lenOk, Ty.flat, Bool.and_true, Bool.true_and, Bool.and_false, Bool.false_and, true_and, and_true, implies_true, forall_const] at hL
  obtain lxs := hL
  simp only [K_heldG, St.init, St.initG, Try.ntmps23, go_sem] 
  obtain ⟨h1, h2⟩ := (show mkOk kk (2 * xs.length) from hc)
  refine AWP_seq_k fun K1 hK1 => ?_
  refine AWP_region (G := G) (T := T_markE) T_markE_ok ?_
  simp only [go_sem]
  refine hK1 _ ?_
  refine AWP_seq_k fun K2 hK2 => ?_
  refine AWP_seq_k fun K3 hK3 => ?_
  refine AWP_region (G := G) (T := T_markE) T_markE_ok ?_
  simp only [go_sem]
  refine hK3 _ ?_
  refine AWP_block ?_
  refine AWP_loop_k (ι := { k : Nat // k ≤ xs.length ∧ xs.take k = markA mkSg ctSg kk (xs.take k) }) (fun k => ⟨[.c (.rd [] 45 ((.prod (.int .i64) (.int .i64))) (xs)), .c (.sc (.int .i64 (kk + (cntA ctSg (xs.take k.1) : Nat)))), zz, zz, zz, .c (.sc (.int .i64 (k.1))), zz, zz, zz, zz, zz, zz, zz, zz, zz, zz, zz, zz, zz, zz, zz, zz, zz, zz, zz, zz, zz, zz, zz, zz, zz], []⟩) (fun k => xs.length - k.1) ⟨0, by simp, by simp [markA]⟩ ?_ ?_
  ·
   refine Wk_to (by rfl) ?_
   simp (maxSteps := 2000000) only [go_sem]
   all_goals (first | rfl | ((repeat' refine And.intro ?_ ?_) <;> first | rfl | (simp [cntA]; done)))
  rintro ⟨k, hk, hp⟩ K4 hL4
  have hnx : k < xs.length → cntA ctSg (xs.take (k + 1)) = cntA ctSg (xs.take k) + 2 := fun h => cntA_next ((0, 0) : Int × Int) h
  have hle : cntA ctSg (xs.take (k + 1)) ≤ cntA ctSg xs := cntA_take _
  have hci : cntA ctSg xs = 2 * xs.length := cntSg xs
  have hw1 : k < xs.length → IntKind.i64.wrap (kk + (cntA ctSg (xs.take k) : Nat) + 1) = kk + (cntA ctSg (xs.take k) : Nat) + 1 := fun h => wrapI (by have := hnx h; omega)
  have hw2 : k < xs.length → IntKind.i64.wrap (kk + (cntA ctSg (xs.take k) : Nat) + 1 + 1) = kk + (cntA ctSg (xs.take k) : Nat) + 2 := fun h => by rw [wrapI (by have := hnx h; omega)]; omega
  refine AWP_seq_k fun K5 hK5 => ?_
  refine AWP_seq_k fun K6 hK6 => ?_
  refine AWP_region (G := G) (T := T_markE) T_markE_ok ?_
  simp only [go_sem]
  refine hK6 _ ?_
  refine AWP_cond rfl ?_ ?_
  ·
   intro c0
   try simp only [decide_eq_true_eq, decide_eq_false_iff_not, Bool.not_eq_true', Bool.not_eq_false', ne_eq, Int.not_lt, Int.not_le] at c0
   refine AWP_skip ?_
   simp only [go_sem]
   refine hK5 _ ?_
   refine AWP_seq_k fun K7 hK7 => ?_
   refine AWP_block ?_
   refine AWP_seq_k fun K8 hK8 => ?_
   refine AWP_seq_k fun K9 hK9 => ?_
   have hw1 := hw1 (by omega)
   have hw2 := hw2 (by omega)
   have hq := hnx (by omega)
   refine AWP_region (G := G) (T := T_markE) T_markE_ok ?_
   simp (maxSteps := 2000000) only [hw1, hw2, go_sem]
   repeat (with_reducible refine And.intro (by first | omega | exact ⟨rfl, by omega, by omega, by omega⟩) ?_)
   refine hK9 _ ?_
   refine AWP_cond rfl ?_ ?_
   ·
    intro c1
    try simp only [decide_eq_true_eq, decide_eq_false_iff_not, Bool.not_eq_true', Bool.not_eq_false', ne_eq, Int.not_lt, Int.not_le] at c1
    refine AWP_seq_k fun K10 hK10 => ?_
    refine AWP_region (G := G) (T := T_markE) T_markE_ok ?_
    simp only [hw1, hw2, go_sem]
    refine hK10 _ ?_
    refine AWP_ret ?_
    simp only [hres, go_sem]
    first
      | exact finOk_mk (by rfl) (by decide)
      | refine ⟨?_, finOk_mk (by rfl) (by decide)⟩
        exact (held_stop ((0, 0) : Int × Int) (m := k) (by omega) (fun e => c1 (congrArg (fun (z : Int × Int) => z.1) e))).symm
   ·
    intro c1
    try simp only [decide_eq_true_eq, decide_eq_false_iff_not, Bool.not_eq_true', Bool.not_eq_false', ne_eq, Int.not_lt, Int.not_le] at c1
    refine AWP_skip ?_
    simp only [go_sem]
    refine hK8 _ ?_
    refine AWP_seq_k fun K11 hK11 => ?_
    refine AWP_region (G := G) (T := T_markE) T_markE_ok ?_
    simp only [hw1, hw2, go_sem]
    refine hK11 _ ?_
    refine AWP_seq_k fun K12 hK12 => ?_
    refine AWP_seq_k fun K13 hK13 => ?_
    refine AWP_region (G := G) (T := T_markE) T_markE_ok ?_
    simp (maxSteps := 2000000) only [hw1, hw2, go_sem]
    repeat (with_reducible refine And.intro (by first | omega | exact ⟨rfl, by omega, by omega, by omega⟩) ?_)
    refine hK13 _ ?_
    refine AWP_cond rfl ?_ ?_
    ·
     intro c2
     try simp only [decide_eq_true_eq, decide_eq_false_iff_not, Bool.not_eq_true', Bool.not_eq_false', ne_eq, Int.not_lt, Int.not_le] at c2
     refine AWP_seq_k fun K14 hK14 => ?_
     refine AWP_region (G := G) (T := T_markE) T_markE_ok ?_
     simp only [hw1, hw2, go_sem]
     refine hK14 _ ?_
     refine AWP_ret ?_
     simp only [hres, go_sem]
     first
       | exact finOk_mk (by rfl) (by decide)
       | refine ⟨?_, finOk_mk (by rfl) (by decide)⟩
         exact (held_stop ((0, 0) : Int × Int) (m := k) (by omega) (fun e => c2 (congrArg (fun (z : Int × Int) => z.2) e))).symm
    ·
     intro c2
     try simp only [decide_eq_true_eq, decide_eq_false_iff_not, Bool.not_eq_true', Bool.not_eq_false', ne_eq, Int.not_lt, Int.not_le] at c2
     have hqq : (xs.getD k ((0, 0) : Int × Int)) = mkSg (kk + (cntA ctSg (xs.take k) : Nat)) (xs.getD k ((0, 0) : Int × Int)) := Prod.ext c1 c2
     refine AWP_skip ?_
     simp only [go_sem]
     refine hK12 _ ?_
     refine AWP_region (G := G) (T := T_markE) T_markE_ok ?_
     simp only [hw1, hw2, go_sem]
     refine hK7 _ ?_
     refine AWP_region (G := G) (T := T_markE) T_markE_ok ?_
     simp only [go_sem]
     refine hL4 ⟨k + 1, by omega, held_next ((0, 0) : Int × Int) (by omega) hp hqq⟩ _ (Wk_to (by rfl) ?_) ?_
     ·
      simp (maxSteps := 2000000) only [go_sem]
      all_goals (first | rfl | ((repeat' refine And.intro ?_ ?_) <;> first | rfl | exact wk (by omega) | (congr 1; done) | omega))
     ·
      first | (simp only []; omega) | omega | (simp; omega)
  ·
   intro c0
   try simp only [decide_eq_true_eq, decide_eq_false_iff_not, Bool.not_eq_true', Bool.not_eq_false', ne_eq, Int.not_lt, Int.not_le] at c0
   refine AWP_exit ?_
   simp only [go_sem]
   refine hK2 _ ?_
   refine AWP_seq_k fun K15 hK15 => ?_
   refine AWP_region (G := G) (T := T_markE) T_markE_ok ?_
   simp only [go_sem]
   refine hK15 _ ?_
   refine AWP_ret ?_
   simp only [hres, go_sem]
   first
     | exact finOk_mk (by rfl) (by decide)
     | refine ⟨?_, finOk_mk (by rfl) (by decide)⟩
       rw [held_done (m := k) (by omega) hp, List.take_of_length_le (by omega)]

theorem heldG_fn : FnOk Try.prog 23 := fnOk_of Try.func23 rfl (by decide)

def T_heldG : Tab := fun f => if f = 23 then some (.p K_heldG) else T_markE f
theorem T_heldG_ok : TabOk Try.prog T_heldG := fun f k h => by
  unfold T_heldG at h
  split at h
  · rename_i e; cases h; subst e; exact ⟨heldG_ok, heldG_fn⟩
  · exact T_markE_ok f k h
attribute [go_sem] T_heldG K_heldG


def K_heldE : Con := ⟨[.val ((.prod (.int .i64) (.prod (.row 45 (.prod (.int .i64) (.int .i64))) (.int .i64)))), .val (.int .i64)], [⟨.int .i64, true⟩], fun x => mkOk x.2.1 (2 * x.1.2.1.length), fun x => heldA mkSg ctSg x.2.1 x.1.2.1⟩
set_option maxRecDepth 100000 in
set_option maxHeartbeats 1000000 in
theorem heldE_ok : PureT Try.prog 11 K_heldE := by
  refine pure_of_body Try.func11 rfl ?_
  have hres : Try.f11.results.toList = [.tmp 4] := rfl
  rintro ⟨⟨(st : Int), (sg : List (Int × Int)), (rl : Int)⟩, (kk : Int), _⟩ hc hL
  simp only [K_heldE, lensOk, PK.lenOk, glensOk, GP.lenOk, flensOk, GO.lenOk, olensOk, Ty.lenOk, Ty.flat, Bool.and_true, Bool.true_and, Bool.and_false, Bool.false_and, true_and, and_true, implies_true, forall_const] at hL
  simp only [K_heldE, St.init, St.initG, Try.ntmps11, go_sem] 
  have hmm : mkOk kk (2 * sg.length) := hc
  obtain ⟨hm1, hm2⟩ := hc
  refine AWP_seq_k fun K1 hK1 => ?_
  refine AWP_region (G := G) (T := T_heldG) T_heldG_ok ?_
  simp only [go_sem]
  repeat (with_reducible refine And.intro (by first | omega | exact ⟨rfl, by omega, by omega, by omega⟩ | exact hmm) ?_)
  refine hK1 _ ?_
  refine AWP_seq_k fun K2 hK2 => ?_
  refine AWP_region (G := G) (T := T_heldG) T_heldG_ok ?_
  simp (maxSteps := 2000000) only [go_sem]
  repeat (with_reducible refine And.intro (by first | omega | exact ⟨rfl, by omega, by omega, by omega⟩ | exact hmm) ?_)
  refine hK2 _ ?_
  refine AWP_seq_k fun K3 hK3 => ?_
  refine AWP_seq_k fun K4 hK4 => ?_
  refine AWP_region (G := G) (T := T_heldG) T_heldG_ok ?_
  simp only [go_sem]
  repeat (with_reducible refine And.intro (by first | omega | exact ⟨rfl, by omega, by omega, by omega⟩ | exact hmm) ?_)
  refine hK4 _ ?_
  refine AWP_cond rfl ?_ ?_
  ·
   intro c0
   try simp only [decide_eq_true_eq, decide_eq_false_iff_not, Bool.not_eq_true', Bool.not_eq_false', ne_eq, Int.not_lt, Int.not_le] at c0
   obtain ⟨e1, e2⟩ := heldA_neg (by omega) c0
   refine AWP_seq_k fun K5 hK5 => ?_
   refine AWP_region (G := G) (T := T_heldG) T_heldG_ok ?_
   simp only [go_sem]
   repeat (with_reducible refine And.intro (by first | omega | exact ⟨rfl, by omega, by omega, by omega⟩ | exact hmm) ?_)
   refine hK5 _ ?_
   refine AWP_ret ?_
   simp only [hres, go_sem]
   first
     | exact finOk_mk (by rfl) (by decide)
     | refine ⟨?_, finOk_mk (by rfl) (by decide)⟩
       exact e1.symm
  ·
   intro c0
   try simp only [decide_eq_true_eq, decide_eq_false_iff_not, Bool.not_eq_true', Bool.not_eq_false', ne_eq, Int.not_lt, Int.not_le] at c0
   refine AWP_skip ?_
   simp only [go_sem]
   refine hK3 _ ?_
   refine AWP_seq_k fun K6 hK6 => ?_
   refine AWP_region (G := G) (T := T_heldG) T_heldG_ok ?_
   simp only [go_sem]
   repeat (with_reducible refine And.intro (by first | omega | exact ⟨rfl, by omega, by omega, by omega⟩ | exact hmm) ?_)
   refine hK6 _ ?_
   refine AWP_ret ?_
   simp only [hres, go_sem]
   first
     | exact finOk_mk (by rfl) (by decide)
     | refine ⟨?_, finOk_mk (by rfl) (by decide)⟩
       rfl

theorem heldE_fn : FnOk Try.prog 11 := fnOk_of Try.func11 rfl (by decide)

def T_heldE : Tab := fun f => if f = 11 then some (.p K_heldE) else T_heldG f
theorem T_heldE_ok : TabOk Try.prog T_heldE := fun f k h => by
  unfold T_heldE at h
  split at h
  · rename_i e; cases h; subst e; exact ⟨heldE_ok, heldE_fn⟩
  · exact T_heldG_ok f k h
attribute [go_sem] T_heldE K_heldE

end Go.Proofs.Ytipagbnkkkhlaaa
