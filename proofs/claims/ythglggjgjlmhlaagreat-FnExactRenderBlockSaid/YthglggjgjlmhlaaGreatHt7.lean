/-
  Contracts of functions: szState, toState, eqState, markState, heldState.
-/
import Derived.Test.YthglggjgjlmhlaaGreatHl1
import Derived.Test.YthglggjgjlmhlaaGreatHl2
import Derived.Test.YthglggjgjlmhlaaGreatHl4
namespace Go.Proofs.YthglggjgjlmhlaaGreat
open Go.RowKit
set_option linter.unusedSimpArgs false
set_option linter.unusedVariables false

def T_mHt70 : Tab := fun f => match T_toP f with
  | some k => some k
  | none => T_eqP f
theorem T_mHt70_ok : TabOk Tryz.prog T_mHt70 := fun f k h => by
  unfold T_mHt70 at h
  split at h
  · rename_i e; cases h; exact T_toP_ok f _ e
  · exact T_eqP_ok f k h
attribute [go_sem] T_mHt70 T0


def T_mHt71 : Tab := fun f => match T_mHt70 f with
  | some k => some k
  | none => T_markP f
theorem T_mHt71_ok : TabOk Tryz.prog T_mHt71 := fun f k h => by
  unfold T_mHt71 at h
  split at h
  · rename_i e; cases h; exact T_mHt70_ok f _ e
  · exact T_markP_ok f k h
attribute [go_sem] T_mHt71 T0


def K_szS : Con := ⟨[.one (.row 24 (.row 2 (.int .i64))), .val (.int .i64)], [⟨.int .i64, true⟩], fun x => szOk x.2.1, fun x => szR (szL x.1) x.2.1⟩
set_option maxRecDepth 100000 in
set_option maxHeartbeats 1000000 in
theorem szS_ok : PureT Tryz.prog 5 K_szS := by
  refine pure_of_body Tryz.func5 rfl ?_
  have hres : Tryz.f5.results.toList = [.tmp 4] := rfl
  rintro ⟨(xs : List (List Int)), (lf : Int), _⟩ hc hL
  simp only [K_szS, lensOk, PK.lenOk, glensOk, GP.lenOk, flensOk, GO.lenOk, olensOk, Ty.lenOk, Ty.flat, Bool.and_true, Bool.true_and, Bool.and_false, Bool.false_and, true_and, and_true, implies_true, forall_const] at hL
  simp only [K_szS, St.init, St.initG, Tryz.ntmps5, go_sem] 
  obtain ⟨h1, h2⟩ := (show szOk lf from hc)
  refine AWP_seq_k fun K1 hK1 => ?_
  refine AWP_region (G := G) (T := T_mHt71) T_mHt71_ok ?_
  simp only [go_sem]
  repeat (with_reducible refine And.intro (by first | omega | exact ⟨rfl, by omega, by omega, by omega⟩ | exact ⟨by omega, by omega⟩) ?_)
  refine hK1 _ ?_
  refine AWP_seq_k fun K2 hK2 => ?_
  refine AWP_region (G := G) (T := T_mHt71) T_mHt71_ok ?_
  simp (maxSteps := 2000000) only [go_sem]
  repeat (with_reducible refine And.intro (by first | omega | exact ⟨rfl, by omega, by omega, by omega⟩ | exact ⟨by omega, by omega⟩) ?_)
  refine hK2 _ ?_
  refine AWP_seq_k fun K3 hK3 => ?_
  refine AWP_seq_k fun K4 hK4 => ?_
  refine AWP_region (G := G) (T := T_mHt71) T_mHt71_ok ?_
  simp only [go_sem]
  repeat (with_reducible refine And.intro (by first | omega | exact ⟨rfl, by omega, by omega, by omega⟩ | exact ⟨by omega, by omega⟩) ?_)
  refine hK4 _ ?_
  refine AWP_cond rfl ?_ ?_
  ·
   intro c0
   try simp only [decide_eq_true_eq, decide_eq_false_iff_not, Bool.not_eq_true', Bool.not_eq_false', ne_eq, Int.not_lt, Int.not_le] at c0
   obtain ⟨e1, e2⟩ := szR_lt (by omega) c0
   refine AWP_seq_k fun K5 hK5 => ?_
   refine AWP_region (G := G) (T := T_mHt71) T_mHt71_ok ?_
   simp only [go_sem]
   repeat (with_reducible refine And.intro (by first | omega | exact ⟨rfl, by omega, by omega, by omega⟩ | exact ⟨by omega, by omega⟩) ?_)
   refine hK5 _ ?_
   refine AWP_ret ?_
   simp only [hres, go_sem]
   first
     | exact finOk_mk (by rfl) (by decide)
     | refine ⟨?_, finOk_mk (by rfl) (by decide)⟩
       exact e1.symm
  ·
   intro c0
   try simp only [decide_eq_true_eq, decide_eq_false_iff_not, Bool.not_eq_true', Bool.not_eq_false', ne_eq, Int.not_lt, Int.not_le] at c0
   refine AWP_skip ?_
   simp only [go_sem]
   refine hK3 _ ?_
   refine AWP_seq_k fun K6 hK6 => ?_
   refine AWP_region (G := G) (T := T_mHt71) T_mHt71_ok ?_
   simp only [go_sem]
   repeat (with_reducible refine And.intro (by first | omega | exact ⟨rfl, by omega, by omega, by omega⟩ | exact ⟨by omega, by omega⟩) ?_)
   refine hK6 _ ?_
   refine AWP_ret ?_
   simp only [hres, go_sem]
   first
     | exact finOk_mk (by rfl) (by decide)
     | refine ⟨?_, finOk_mk (by rfl) (by decide)⟩
       rfl

theorem szS_fn : FnOk Tryz.prog 5 := fnOk_of Tryz.func5 rfl (by decide)

def T_szS : Tab := fun f => if f = 5 then some (.p K_szS) else T_mHt71 f
theorem T_szS_ok : TabOk Tryz.prog T_szS := fun f k h => by
  unfold T_szS at h
  split at h
  · rename_i e; cases h; subst e; exact ⟨szS_ok, szS_fn⟩
  · exact T_mHt71_ok f k h
attribute [go_sem] T_szS K_szS


def K_toS : GCon where
  ps := [.one ((.row 24 (.row 2 (.int .i64))))]
  os := []
  c := fun x => fitsL x.1.1
  r := fun x => .agg [.ow 10]
  o := fun x => [(10, .tree 24 (.row 2 (.int .i64)) (x.1.1) none)]
  ok := by
    rintro ⟨⟨(xs : List (List Int)), _⟩, _⟩
    exact ⟨rfl, rfl, by decide⟩
set_option maxRecDepth 100000 in
set_option maxHeartbeats 1000000 in
theorem toS_ok : GenT Tryz.prog 9 K_toS := by
  refine gen_of_body Tryz.func9 rfl ?_
  have hres : Tryz.f9.results.toList = [.cell 2 32] := rfl
  rintro ⟨⟨(xs : List (List Int)), _⟩, _⟩ hc hL hO
  simp only [K_toS, lensOk, PK.lenOk, glensOk, GP.lenOk, flensOk, GO.lenOk, olensOk, Ty.lenOk, Ty.flat, Bool.and_true, Bool.true_and, Bool.and_false, Bool.false_and, true_and, and_true, implies_true, forall_const] at hL
  simp only [K_toS, lensOk, PK.lenOk, glensOk, GP.lenOk, flensOk, GO.lenOk, olensOk, Ty.lenOk, Ty.flat, Bool.and_true, Bool.true_and, Bool.and_false, Bool.false_and, true_and, and_true, implies_true, forall_const] at hO
  simp only [K_toS, St.init, St.initG, Tryz.ntmps9, go_sem] 
  have hx : fitsL xs := hc
  refine AWP_seq_k fun K1 hK1 => ?_
  refine AWP_region (G := G) (T := T_szS) T_szS_ok ?_
  simp only [go_sem]
  repeat (with_reducible refine And.intro (by first | omega | exact ⟨rfl, by omega, by omega, by omega⟩ | exact hx) ?_)
  refine hK1 _ ?_
  refine AWP_seq_k fun K2 hK2 => ?_
  refine AWP_region (G := G) (T := T_szS) T_szS_ok ?_
  simp only [go_sem]
  repeat (with_reducible refine And.intro (by first | omega | exact ⟨rfl, by omega, by omega, by omega⟩ | exact hx) ?_)
  refine hK2 _ ?_
  refine AWP_seq_k fun K3 hK3 => ?_
  refine AWP_region (G := G) (T := T_szS) T_szS_ok ?_
  simp (maxSteps := 2000000) only [go_sem]
  repeat (with_reducible refine And.intro (by first | omega | exact ⟨rfl, by omega, by omega, by omega⟩ | exact hx) ?_)
  refine hK3 _ ?_
  refine AWP_seq_k fun K4 hK4 => ?_
  refine AWP_region (G := G) (T := T_szS) T_szS_ok ?_
  simp only [go_sem]
  repeat (with_reducible refine And.intro (by first | omega | exact ⟨rfl, by omega, by omega, by omega⟩ | exact hx) ?_)
  refine hK4 _ ?_
  refine AWP_ret ?_
  simp only [hres, go_sem]
  first
    | exact finOkG_mk (by rfl)
    | refine ⟨finOkG_mk (by rfl), ?_⟩
      (repeat' refine And.intro ?_ ?_) <;> first | rfl | (congr 1; done)

theorem toS_fn : FnOk Tryz.prog 9 := fnOk_of Tryz.func9 rfl (by decide)

def T_toS : Tab := fun f => if f = 9 then some (.g K_toS) else T_szS f
theorem T_toS_ok : TabOk Tryz.prog T_toS := fun f k h => by
  unfold T_toS at h
  split at h
  · rename_i e; cases h; subst e; exact ⟨toS_ok, toS_fn⟩
  · exact T_szS_ok f k h
attribute [go_sem] T_toS K_toS


def K_eqS : Con := ⟨[.one (.row 24 (.row 2 (.int .i64))), .one (.row 24 (.row 2 (.int .i64)))], [⟨.bool, true⟩], fun _ => True, fun x => eqD (x.1 : List (List Int)) (x.2.1 : List (List Int))⟩
set_option maxRecDepth 100000 in
set_option maxHeartbeats 1000000 in
theorem eqS_ok : PureT Tryz.prog 13 K_eqS := by
  refine pure_of_body Tryz.func13 rfl ?_
  have hres : Tryz.f13.results.toList = [.tmp 4] := rfl
  rintro ⟨(xs : List (List Int)), (ys : List (List Int)), _⟩ hc hL
  simp only [K_eqS, lensOk, PK.lenOk, glensOk, GP.lenOk, flensOk, GO.lenOk, olensOk, Ty.lenOk, Ty.flat, Bool.and_true, Bool.true_and, Bool.and_false, Bool.false_and, true_and, and_true, implies_true, forall_const] at hL
  simp only [K_eqS, St.init, St.initG, Tryz.ntmps13, go_sem] 
  refine AWP_seq_k fun K1 hK1 => ?_
  refine AWP_region (G := G) (T := T_toS) T_toS_ok ?_
  simp only [go_sem]
  refine hK1 _ ?_
  refine AWP_seq_k fun K2 hK2 => ?_
  refine AWP_seq_k fun K3 hK3 => ?_
  refine AWP_region (G := G) (T := T_toS) T_toS_ok ?_
  simp (maxSteps := 2000000) only [go_sem]
  repeat (with_reducible refine And.intro (by first | omega | exact ⟨rfl, by omega, by omega, by omega⟩) ?_)
  refine hK3 _ ?_
  refine AWP_cond rfl ?_ ?_
  ·
   intro c0
   try simp only [decide_eq_true_eq, decide_eq_false_iff_not, Bool.not_eq_true', Bool.not_eq_false', ne_eq, Int.not_lt, Int.not_le] at c0
   refine AWP_seq_k fun K4 hK4 => ?_
   refine AWP_region (G := G) (T := T_toS) T_toS_ok ?_
   simp only [go_sem]
   refine hK4 _ ?_
   refine AWP_ret ?_
   simp only [hres, go_sem]
   first
     | exact finOk_mk (by rfl) (by decide)
     | refine ⟨?_, finOk_mk (by rfl) (by decide)⟩
       clear hK1 hK2 hK3 hK4; simp_all
  ·
   intro c0
   try simp only [decide_eq_true_eq, decide_eq_false_iff_not, Bool.not_eq_true', Bool.not_eq_false', ne_eq, Int.not_lt, Int.not_le] at c0
   refine AWP_skip ?_
   simp only [go_sem]
   refine hK2 _ ?_
   refine AWP_seq_k fun K5 hK5 => ?_
   refine AWP_region (G := G) (T := T_toS) T_toS_ok ?_
   simp only [go_sem]
   refine hK5 _ ?_
   refine AWP_ret ?_
   simp only [hres, go_sem]
   first
     | exact finOk_mk (by rfl) (by decide)
     | refine ⟨?_, finOk_mk (by rfl) (by decide)⟩
       clear hK1 hK2 hK3 hK5; simp_all

theorem eqS_fn : FnOk Tryz.prog 13 := fnOk_of Tryz.func13 rfl (by decide)

def T_eqS : Tab := fun f => if f = 13 then some (.p K_eqS) else T_toS f
theorem T_eqS_ok : TabOk Tryz.prog T_eqS := fun f k h => by
  unfold T_eqS at h
  split at h
  · rename_i e; cases h; subst e; exact ⟨eqS_ok, eqS_fn⟩
  · exact T_toS_ok f k h
attribute [go_sem] T_eqS K_eqS


def K_markS : GCon where
  ps := [.ag [.ow 0], .val (.int .i64)]
  os := [.tree 24 (.row 2 (.int .i64))]
  c := fun x => mkOk x.1.2.1 (cntA List.length x.2.1)
  r := fun x => .c (.sc (.int .i64 (x.1.2.1 + (cntA List.length x.2.1 : Nat))))
  o := fun x => [(30, .tree 24 (.row 2 (.int .i64)) (markLL x.1.2.1 x.2.1) none)]
  ok := by
    rintro ⟨⟨⟨_, _⟩, (kk : Int), _⟩, ⟨(xs : List (List Int)), _⟩⟩
    exact ⟨rfl, rfl, by decide⟩
set_option maxRecDepth 100000 in
set_option maxHeartbeats 1000000 in
theorem markS_ok : GenT Tryz.prog 16 K_markS := by
  refine gen_of_body Tryz.func16 rfl ?_
  have hres : Tryz.f16.results.toList = [.tmp 4] := rfl
  rintro ⟨⟨⟨_, _⟩, (kk : Int), _⟩, ⟨(xs : List (List Int)), _⟩⟩ hc hL hO
  simp only [K_markS, lensOk, PK.lenOk, glensOk, GP.lenOk, flensOk, GO.lenOk, olensOk, Ty.lenOk, Ty.flat, Bool.and_true, Bool.true_and, Bool.and_false, Bool.false_and, true_and, and_true, implies_true, forall_const] at hL
  simp only [K_markS, lensOk, PK.lenOk, glensOk, GP.lenOk, flensOk, GO.lenOk, olensOk, Ty.lenOk, Ty.flat, Bool.and_true, Bool.true_and, Bool.and_false, Bool.false_and, true_and, and_true, implies_true, forall_const] at hO
  simp only [K_markS, St.init, St.initG, Tryz.ntmps16, go_sem] 
  have hm : mkOk kk (cntA List.length xs) := hc
  refine AWP_seq_k fun K1 hK1 => ?_
  refine AWP_region (G := G) (T := T_eqS) T_eqS_ok ?_
  simp only [go_sem]
  repeat (with_reducible refine And.intro (by first | omega | exact ⟨rfl, by omega, by omega, by omega⟩ | exact hm) ?_)
  refine hK1 _ ?_
  refine AWP_seq_k fun K2 hK2 => ?_
  refine AWP_region (G := G) (T := T_eqS) T_eqS_ok ?_
  simp (maxSteps := 2000000) only [go_sem]
  repeat (with_reducible refine And.intro (by first | omega | exact ⟨rfl, by omega, by omega, by omega⟩ | exact hm) ?_)
  refine hK2 _ ?_
  refine AWP_seq_k fun K3 hK3 => ?_
  refine AWP_region (G := G) (T := T_eqS) T_eqS_ok ?_
  simp only [go_sem]
  repeat (with_reducible refine And.intro (by first | omega | exact ⟨rfl, by omega, by omega, by omega⟩ | exact hm) ?_)
  refine hK3 _ ?_
  refine AWP_ret ?_
  simp only [hres, go_sem]
  first
    | exact finOkG_mk (by rfl)
    | refine ⟨finOkG_mk (by rfl), ?_⟩
      (repeat' refine And.intro ?_ ?_) <;> first | rfl | (congr 1; done)

theorem markS_fn : FnOk Tryz.prog 16 := fnOk_of Tryz.func16 rfl (by decide)

def T_markS : Tab := fun f => if f = 16 then some (.g K_markS) else T_eqS f
theorem T_markS_ok : TabOk Tryz.prog T_markS := fun f k h => by
  unfold T_markS at h
  split at h
  · rename_i e; cases h; subst e; exact ⟨markS_ok, markS_fn⟩
  · exact T_eqS_ok f k h
attribute [go_sem] T_markS K_markS


def K_heldS : Con := ⟨[.one (.row 24 (.row 2 (.int .i64))), .val (.int .i64)], [⟨.int .i64, true⟩], fun x => mkOk x.2.1 (cntA List.length x.1), fun x => heldA markL List.length x.2.1 (x.1 : List (List Int))⟩
set_option maxRecDepth 100000 in
set_option maxHeartbeats 1000000 in
theorem heldS_ok : PureT Tryz.prog 19 K_heldS := by
  refine pure_of_body Tryz.func19 rfl ?_
  have hres : Tryz.f19.results.toList = [.tmp 4] := rfl
  rintro ⟨(xs : List (List Int)), (kk : Int), _⟩ hc hL
  simp only [K_heldS, lensOk, PK.lenOk, glensOk, GP.lenOk, flensOk, GO.lenOk, olensOk, Ty.lenOk, Ty.flat, Bool.and_true, Bool.true_and, Bool.and_false, Bool.false_and, true_and, and_true, implies_true, forall_const] at hL
  simp only [K_heldS, St.init, St.initG, Tryz.ntmps19, go_sem] 
  obtain ⟨h1, h2⟩ := (show mkOk kk (cntA List.length xs) from hc)
  refine AWP_seq_k fun K1 hK1 => ?_
  refine AWP_region (G := G) (T := T_markS) T_markS_ok ?_
  simp only [go_sem]
  repeat (with_reducible refine And.intro (by first | omega | exact ⟨rfl, by omega, by omega, by omega⟩ | exact ⟨by omega, by omega⟩) ?_)
  refine hK1 _ ?_
  refine AWP_seq_k fun K2 hK2 => ?_
  refine AWP_region (G := G) (T := T_markS) T_markS_ok ?_
  simp (maxSteps := 2000000) only [go_sem]
  repeat (with_reducible refine And.intro (by first | omega | exact ⟨rfl, by omega, by omega, by omega⟩ | exact ⟨by omega, by omega⟩) ?_)
  refine hK2 _ ?_
  refine AWP_seq_k fun K3 hK3 => ?_
  refine AWP_seq_k fun K4 hK4 => ?_
  refine AWP_region (G := G) (T := T_markS) T_markS_ok ?_
  simp only [go_sem]
  repeat (with_reducible refine And.intro (by first | omega | exact ⟨rfl, by omega, by omega, by omega⟩ | exact ⟨by omega, by omega⟩) ?_)
  refine hK4 _ ?_
  refine AWP_cond rfl ?_ ?_
  ·
   intro c0
   try simp only [decide_eq_true_eq, decide_eq_false_iff_not, Bool.not_eq_true', Bool.not_eq_false', ne_eq, Int.not_lt, Int.not_le] at c0
   obtain ⟨e1, e2⟩ := heldA_neg (by omega) c0
   refine AWP_seq_k fun K5 hK5 => ?_
   refine AWP_region (G := G) (T := T_markS) T_markS_ok ?_
   simp only [go_sem]
   repeat (with_reducible refine And.intro (by first | omega | exact ⟨rfl, by omega, by omega, by omega⟩ | exact ⟨by omega, by omega⟩) ?_)
   refine hK5 _ ?_
   refine AWP_ret ?_
   simp only [hres, go_sem]
   first
     | exact finOk_mk (by rfl) (by decide)
     | refine ⟨?_, finOk_mk (by rfl) (by decide)⟩
       exact e1.symm
  ·
   intro c0
   try simp only [decide_eq_true_eq, decide_eq_false_iff_not, Bool.not_eq_true', Bool.not_eq_false', ne_eq, Int.not_lt, Int.not_le] at c0
   refine AWP_skip ?_
   simp only [go_sem]
   refine hK3 _ ?_
   refine AWP_seq_k fun K6 hK6 => ?_
   refine AWP_region (G := G) (T := T_markS) T_markS_ok ?_
   simp only [go_sem]
   repeat (with_reducible refine And.intro (by first | omega | exact ⟨rfl, by omega, by omega, by omega⟩ | exact ⟨by omega, by omega⟩) ?_)
   refine hK6 _ ?_
   refine AWP_ret ?_
   simp only [hres, go_sem]
   first
     | exact finOk_mk (by rfl) (by decide)
     | refine ⟨?_, finOk_mk (by rfl) (by decide)⟩
       rfl

theorem heldS_fn : FnOk Tryz.prog 19 := fnOk_of Tryz.func19 rfl (by decide)

def T_heldS : Tab := fun f => if f = 19 then some (.p K_heldS) else T_markS f
theorem T_heldS_ok : TabOk Tryz.prog T_heldS := fun f k h => by
  unfold T_heldS at h
  split at h
  · rename_i e; cases h; subst e; exact ⟨heldS_ok, heldS_fn⟩
  · exact T_markS_ok f k h
attribute [go_sem] T_heldS K_heldS

end Go.Proofs.YthglggjgjlmhlaaGreat
