/-
  Contracts of functions: StepPatch.
-/
import Derived.Test.YthglggjgjlmhlaaHt1
import Derived.Test.YthglggjgjlmhlaaHt2
import Derived.Test.YthglggjgjlmhlaaHs1
namespace Go.Proofs.Ythglggjgjlmhlaa
open Go.RowKit
set_option linter.unusedSimpArgs false
set_option linter.unusedVariables false

def T_mHt30 : Tab := fun f => match T_playerOf f with
  | some k => some k
  | none => T_frame f
theorem T_mHt30_ok : TabOk Try.prog T_mHt30 := fun f k h => by
  unfold T_mHt30 at h
  split at h
  · rename_i e; cases h; exact T_playerOf_ok f _ e
  · exact T_frame_ok f k h
attribute [go_sem] T_mHt30 T0


def T_mHt31 : Tab := fun f => match T_mHt30 f with
  | some k => some k
  | none => T_frameCode f
theorem T_mHt31_ok : TabOk Try.prog T_mHt31 := fun f k h => by
  unfold T_mHt31 at h
  split at h
  · rename_i e; cases h; exact T_mHt30_ok f _ e
  · exact T_frameCode_ok f k h
attribute [go_sem] T_mHt31 T0


def K_implStep : GCon where
  ps := [.val ((.prod (.int .i64) (.prod (.row 24 (.row 2 (.int .i64))) (.prod (.row 140 (.prod (.int .i64) (.prod (.int .i64) (.prod (.int .i64) (.row 2 (.int .i64)))))) (.row 2 (.int .i64)))))), .one ((.row 24 (.row 2 (.int .i64)))), .val ((.row 2 (.int .i64)))]
  os := []
  c := fun _ => True
  r := fun x => .tup [.c (.ow 10), .agg [.ow 11], .c (.sc (.int .i64 (stepR x.1.1 x.1.2.1 x.1.2.2.1).2.2))]
  o := fun x => [(10, .row 2 (.int .i64) ((stepR x.1.1 x.1.2.1 x.1.2.2.1).1) []), (11, .tree 24 (.row 2 (.int .i64)) ((stepR x.1.1 x.1.2.1 x.1.2.2.1).2.1) none)]
  ok := by
    rintro ⟨⟨⟨(pi : Int), (ts : List (List Int)), (ns : List NodeD), (os : List Int)⟩, (cc : List (List Int)), (ff : List Int), _⟩, _⟩
    exact ⟨rfl, rfl, by decide⟩
set_option maxRecDepth 100000 in
set_option maxHeartbeats 4000000 in
theorem implStep_ok : GenT Try.prog 17 K_implStep := by
  refine gen_of_body Try.func17 rfl ?_
  have hres : Try.f17.results.toList = [.tmp 6, .cell 7 31, .tmp 8] := rfl
  rintro ⟨⟨⟨(pi : Int), (ts : List (List Int)), (ns : List NodeD), (os : List Int)⟩, (cc : List (List Int)), (ff : List Int), _⟩, _⟩ hc hL hO
  simp only [K_implStep, lensOk, PK.lenOk, glensOk, GP.lenOk, flensOk, GO.lenOk, olensOk, Ty.lenOk, Ty.flat, Bool.and_true, Bool.true_and, Bool.and_false, Bool.false_and, true_and, and_true, implies_true, forall_const] at hL
  simp only [K_implStep, lensOk, PK.lenOk, glensOk, GP.lenOk, flensOk, GO.lenOk, olensOk, Ty.lenOk, Ty.flat, Bool.and_true, Bool.true_and, Bool.and_false, Bool.false_and, true_and, and_true, implies_true, forall_const] at hO
  simp only [K_implStep, St.init, St.initG, Try.ntmps17, go_sem] 
  refine AWP_seq_k fun K1 hK1 => ?_
  refine AWP_region (G := G) (T := T_mHt31) T_mHt31_ok ?_
  simp (maxSteps := 2000000) only [go_sem]
  refine hK1 _ ?_
  refine AWP_seq_k fun K2 hK2 => ?_
  refine AWP_seq_k fun K3 hK3 => ?_
  refine AWP_region (G := G) (T := T_mHt31) T_mHt31_ok ?_
  simp (maxSteps := 2000000) only [go_sem]
  repeat (with_reducible refine And.intro (by first | omega | exact ⟨rfl, by omega, by omega, by omega⟩) ?_)
  refine hK3 _ ?_
  refine AWP_seq_k fun K4 hK4 => ?_
  refine AWP_region (G := G) (T := T_mHt31) T_mHt31_ok ?_
  simp (maxSteps := 2000000) only [go_sem]
  refine hK4 _ ?_
  refine AWP_cond rfl ?_ ?_
  · intro c0
    try simp only [decide_eq_true_eq, decide_eq_false_iff_not, Bool.not_eq_true', Bool.not_eq_false', ne_eq, Int.not_lt, Int.not_le] at c0
    refine AWP_seq_k fun K5 hK5 => ?_
    refine AWP_region (G := G) (T := T_mHt31) T_mHt31_ok ?_
    simp (maxSteps := 2000000) only [go_sem]
    repeat (with_reducible refine And.intro (by first | omega | exact ⟨rfl, by omega, by omega, by omega⟩) ?_)
    refine hK5 _ ?_
    refine AWP_wk (Wk_nilSlot _ 6 9101 2 (.int .i64) (by decide)) ?_
    simp (maxSteps := 2000000) only [go_sem]
    refine AWP_wk (Wk_nilBox _ 212 0 9102 24 ((.row 2 (.int .i64))) (by decide)) ?_
    simp (maxSteps := 2000000) only [go_sem]
    refine AWP_ret ?_
    simp (maxSteps := 2000000) only [hres, go_sem]
    first
      | exact finOkG_mk (by rfl)
      | refine ⟨finOkG_mk (by rfl), ?_⟩
        rw [stepR_f c0]
        (repeat' refine And.intro ?_ ?_) <;> first | rfl | (congr 1; done)
  · intro c0
    try simp only [decide_eq_true_eq, decide_eq_false_iff_not, Bool.not_eq_true', Bool.not_eq_false', ne_eq, Int.not_lt, Int.not_le] at c0
    obtain ⟨hP, hS, hfl, hff⟩ := codeF_ok c0
    have hsr := stepR_t (p := (pi, ts, ns, os)) (s := cc) (fr := ff) c0
    have hF := (patchB_parts hP).1
    have hn24 : ns.length ≤ 24 := (formedB_parts hF).1
    have hvo := valsL_ok' (p := (pi, ts, ns, os)) (s := cc) (fr := ff) hF hS hff
    have hos : os.length ≤ 1000 ∧ idxs (valsL (pi, ts, ns, os) cc ff).length os = true := ⟨by have := (formedB_parts hF).2.1; show os.length ≤ 1000; have h : os.length ≤ 4 := this; omega, by rw [hvo.1]; exact (formedB_parts hF).2.2.2.2.2.1⟩
    have hpl : playL (pi, ts, ns, os) (List.replicate ns.length 0) cc ff = (valsL (pi, ts, ns, os) cc ff, nextL (pi, ts, ns, os) cc ff (valsL (pi, ts, ns, os) cc ff)) := play_eq (p := (pi, ts, ns, os)) hP (by simp) hS.1
    refine AWP_skip ?_
    simp (maxSteps := 2000000) only [go_sem]
    refine hK2 _ ?_
    refine AWP_seq_k fun K6 hK6 => ?_
    refine AWP_region (G := G) (T := T_mHt31) T_mHt31_ok ?_
    simp (maxSteps := 2000000) only [go_sem]
    repeat (with_reducible refine And.intro (by first | omega | exact ⟨rfl, by omega, by omega, by omega⟩ | exact ⟨hP, hS⟩) ?_)
    refine hK6 _ ?_
    refine AWP_seq_k fun K7 hK7 => ?_
    refine AWP_region (G := G) (T := T_mHt31) T_mHt31_ok ?_
    simp (maxSteps := 2000000) only [hpl, go_sem]
    repeat (with_reducible refine And.intro (by first | omega | exact ⟨rfl, by omega, by omega, by omega⟩ | exact ⟨hP, rfl, vals0_ok (pi, ts, ns, os), hS, hfl, hff⟩ | exact ⟨hP, vals0_ok (pi, ts, ns, os), hS, hfl, hff⟩) ?_)
    refine hK7 _ ?_
    refine AWP_seq_k fun K8 hK8 => ?_
    refine AWP_draw (G := G) (T := T_mHt31) T_mHt31_ok mixed
      [[], [0], [], [2], [2, 3], [2, 3, 4], [2, 3, 4, 5], [0, 1], [0, 1, 2, 3, 4, 5, 6, 7], [0, 1, 2, 3, 4, 5, 6, 7, 8]]
      [[], [], [516, 517, 518, 519, 520, 521, 522, 523, 524, 525, 526, 527, 528, 529, 530, 531], [516, 517, 518, 519, 520, 521, 522, 523, 524, 525, 526, 527, 528, 529, 530, 531], [516, 517, 518, 519, 520, 521, 522, 523, 524, 525, 526, 527, 528, 529, 530, 531], [516, 517, 518, 519, 520, 521, 522, 523, 524, 525, 526, 527, 528, 529, 530, 531], [516, 517, 518, 519, 520, 521, 522, 523, 524, 525, 526, 527, 528, 529, 530, 531], [], [], []]
      [[], [516, 517, 518, 519, 520, 521, 522, 523, 524, 525, 526, 527, 528, 529, 530, 531], [], [], [], [], [], [], [], []] (by kernel_rfl) (by kernel_rfl) (adrawR_ok (acc := []) ?_)
    simp (maxSteps := 2000000) only [go_sem]
    repeat (with_reducible refine And.intro (by first | exact chk_leaf (by kernel_rfl) | omega | exact ⟨rfl, by omega, by omega, by omega⟩ | exact hos) ?_)
    refine hK8 _ ?_
    refine AWP_ret ?_
    simp (maxSteps := 2000000) only [hres, go_sem]
    first
      | exact finOkG_mk (by rfl)
      | refine ⟨finOkG_mk (by rfl), ?_⟩
        rw [hsr]
        (repeat' refine And.intro ?_ ?_) <;> first | rfl | (congr 1; done)

theorem implStep_fn : FnOk Try.prog 17 := fnOk_of Try.func17 rfl (by decide)

def T_implStep : Tab := fun f => if f = 17 then some (.g K_implStep) else T_mHt31 f
theorem T_implStep_ok : TabOk Try.prog T_implStep := fun f k h => by
  unfold T_implStep at h
  split at h
  · rename_i e; cases h; subst e; exact ⟨implStep_ok, implStep_fn⟩
  · exact T_mHt31_ok f k h
attribute [go_sem] T_implStep K_implStep

end Go.Proofs.Ythglggjgjlmhlaa
