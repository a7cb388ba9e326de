/-
  Contracts of functions: StepPatch.
-/
import Derived.Test.YthglggjgjlmhlaaHt4
import Derived.Test.YthglggjgjlmhlaaHt5
import Derived.Test.YthglggjgjlmhlaaHs2
namespace Go.Proofs.Ythglggjgjlmhlaa
open Go.RowKit
set_option linter.unusedSimpArgs false
set_option linter.unusedVariables false

def T_mHt60 : Tab := fun f => match T_l08Values f with
  | some k => some k
  | none => T_l08Step f
theorem T_mHt60_ok : TabOk Try.prog T_mHt60 := fun f k h => by
  unfold T_mHt60 at h
  split at h
  · rename_i e; cases h; exact T_l08Values_ok f _ e
  · exact T_l08Step_ok f k h
attribute [go_sem] T_mHt60 T0


def T_mHt61 : Tab := fun f => match T_mHt60 f with
  | some k => some k
  | none => T_l08Frame f
theorem T_mHt61_ok : TabOk Try.prog T_mHt61 := fun f k h => by
  unfold T_mHt61 at h
  split at h
  · rename_i e; cases h; exact T_mHt60_ok f _ e
  · exact T_l08Frame_ok f k h
attribute [go_sem] T_mHt61 T0


def K_specStep : GCon where
  ps := [.val ((.prod (.int .i64) (.prod (.row 24 (.row 2 (.int .i64))) (.prod (.row 140 (.prod (.int .i64) (.prod (.int .i64) (.prod (.int .i64) (.row 2 (.int .i64)))))) (.row 2 (.int .i64)))))), .one ((.row 24 (.row 2 (.int .i64)))), .val ((.row 2 (.int .i64)))]
  os := []
  c := fun _ => True
  r := fun x => .tup [.c (.ow 10), .agg [.ow 11], .c (.sc (.int .i64 (stepR x.1.1 x.1.2.1 x.1.2.2.1).2.2))]
  o := fun x => [(10, .row 2 (.int .i64) ((stepR x.1.1 x.1.2.1 x.1.2.2.1).1) []), (11, .tree 24 (.row 2 (.int .i64)) ((stepR x.1.1 x.1.2.1 x.1.2.2.1).2.1) none)]
  ok := by
    rintro ⟨⟨⟨(pi : Int), (ts : List (List Int)), (ns : List NodeD), (os : List Int)⟩, (cc : List (List Int)), (ff : List Int), _⟩, _⟩
    exact ⟨rfl, rfl, by decide⟩
set_option maxRecDepth 100000 in
set_option maxHeartbeats 4000000 in
theorem specStep_ok : GenT Try.prog 13 K_specStep := by
  refine gen_of_body Try.func13 rfl ?_
  have hres : Try.f13.results.toList = [.tmp 6, .cell 7 31, .tmp 8] := rfl
  rintro ⟨⟨⟨(pi : Int), (ts : List (List Int)), (ns : List NodeD), (os : List Int)⟩, (cc : List (List Int)), (ff : List Int), _⟩, _⟩ hc hL hO
  simp only [K_specStep, lensOk, PK.lenOk, glensOk, GP.lenOk, flensOk, GO.lenOk, olensOk, Ty.lenOk, Ty.flat, Bool.and_true, Bool.true_and, Bool.and_false, Bool.false_and, true_and, and_true, implies_true, forall_const] at hL
  simp only [K_specStep, lensOk, PK.lenOk, glensOk, GP.lenOk, flensOk, GO.lenOk, olensOk, Ty.lenOk, Ty.flat, Bool.and_true, Bool.true_and, Bool.and_false, Bool.false_and, true_and, and_true, implies_true, forall_const] at hO
  simp only [K_specStep, St.init, St.initG, Try.ntmps13, go_sem] 
  refine AWP_seq_k fun K1 hK1 => ?_
  refine AWP_region (G := G) (T := T_mHt61) T_mHt61_ok ?_
  simp (maxSteps := 2000000) only [go_sem]
  refine hK1 _ ?_
  refine AWP_seq_k fun K2 hK2 => ?_
  refine AWP_seq_k fun K3 hK3 => ?_
  refine AWP_region (G := G) (T := T_mHt61) T_mHt61_ok ?_
  simp (maxSteps := 2000000) only [go_sem]
  repeat (with_reducible refine And.intro (by first | omega | exact ⟨rfl, by omega, by omega, by omega⟩) ?_)
  refine hK3 _ ?_
  refine AWP_seq_k fun K4 hK4 => ?_
  refine AWP_region (G := G) (T := T_mHt61) T_mHt61_ok ?_
  simp (maxSteps := 2000000) only [go_sem]
  refine hK4 _ ?_
  refine AWP_cond rfl ?_ ?_
  · intro c0
    try simp only [decide_eq_true_eq, decide_eq_false_iff_not, Bool.not_eq_true', Bool.not_eq_false', ne_eq, Int.not_lt, Int.not_le] at c0
    refine AWP_seq_k fun K5 hK5 => ?_
    refine AWP_region (G := G) (T := T_mHt61) T_mHt61_ok ?_
    simp (maxSteps := 2000000) only [go_sem]
    repeat (with_reducible refine And.intro (by first | omega | exact ⟨rfl, by omega, by omega, by omega⟩) ?_)
    refine hK5 _ ?_
    refine AWP_wk (Wk_nilSlot _ 6 9101 2 (.int .i64) (by decide)) ?_
    simp (maxSteps := 2000000) only [go_sem]
    refine AWP_wk (Wk_nilBox _ 212 0 9102 24 ((.row 2 (.int .i64))) (by decide)) ?_
    simp (maxSteps := 2000000) only [go_sem]
    refine AWP_ret ?_
    simp (maxSteps := 2000000) only [hres, go_sem]
    first
      | exact finOkG_mk (by rfl)
      | refine ⟨finOkG_mk (by rfl), ?_⟩
        rw [stepR_f c0]
        (repeat' refine And.intro ?_ ?_) <;> first | rfl | (congr 1; done)
  · intro c0
    try simp only [decide_eq_true_eq, decide_eq_false_iff_not, Bool.not_eq_true', Bool.not_eq_false', ne_eq, Int.not_lt, Int.not_le] at c0
    obtain ⟨hP, hS, hfl, hff⟩ := codeF_ok c0
    have hsr := stepR_t (p := (pi, ts, ns, os)) (s := cc) (fr := ff) c0
    have hF := (patchB_parts hP).1
    have hn24 : ns.length ≤ 24 := (formedB_parts hF).1
    have hvo := valsL_ok' (p := (pi, ts, ns, os)) (s := cc) (fr := ff) hF hS hff
    have hos : os.length ≤ 1000 ∧ idxs (valsL (pi, ts, ns, os) cc ff).length os = true := ⟨by have := (formedB_parts hF).2.1; show os.length ≤ 1000; have h : os.length ≤ 4 := this; omega, by rw [hvo.1]; exact (formedB_parts hF).2.2.2.2.2.1⟩
    have hor : ordR ns = (ordL ns, true) := ordR_t (patchB_parts hP).2
    refine AWP_skip ?_
    simp (maxSteps := 2000000) only [go_sem]
    refine hK2 _ ?_
    refine AWP_seq_k fun K6 hK6 => ?_
    refine AWP_region (G := G) (T := T_mHt61) T_mHt61_ok ?_
    simp (maxSteps := 2000000) only [hor, go_sem]
    repeat (with_reducible refine And.intro (by first | omega | exact ⟨rfl, by omega, by omega, by omega⟩ | exact hF) ?_)
    refine hK6 _ ?_
    refine AWP_seq_k fun K7 hK7 => ?_
    refine AWP_region (G := G) (T := T_mHt61) T_mHt61_ok ?_
    simp (maxSteps := 2000000) only [go_sem]
    repeat (with_reducible refine And.intro (by first | omega | exact ⟨rfl, by omega, by omega, by omega⟩ | exact ⟨hP, rfl, hS, hfl, hff⟩ | exact ⟨hP, hS, hfl, hff⟩) ?_)
    refine hK7 _ ?_
    refine AWP_seq_k fun K8 hK8 => ?_
    refine AWP_region (G := G) (T := T_mHt61) T_mHt61_ok ?_
    simp (maxSteps := 2000000) only [go_sem]
    repeat (with_reducible refine And.intro (by first | omega | exact ⟨rfl, by omega, by omega, by omega⟩ | exact ⟨hP, hS, hfl, hff, hvo⟩) ?_)
    refine hK8 _ ?_
    refine AWP_seq_k fun K9 hK9 => ?_
    refine AWP_draw (G := G) (T := T_mHt61) T_mHt61_ok mixed
      [[], [0], [], [0, 1, 2], [], [0, 1, 2, 3], [0, 1, 2, 3, 4, 5], [0, 1, 2, 3, 4, 5, 6]]
      [[], [], [], [], [612, 613, 614, 615, 616, 617, 618, 619, 620, 621, 622, 623, 624, 625, 626, 627], [], [], []]
      [[], [], [], [612, 613, 614, 615, 616, 617, 618, 619, 620, 621, 622, 623, 624, 625, 626, 627], [], [], [], []] (by kernel_rfl) (by kernel_rfl) (adrawR_ok (acc := []) ?_)
    simp (maxSteps := 2000000) only [go_sem]
    repeat (with_reducible refine And.intro (by first | exact chk_leaf (by kernel_rfl) | omega | exact ⟨rfl, by omega, by omega, by omega⟩ | exact hos) ?_)
    refine hK9 _ ?_
    refine AWP_ret ?_
    simp (maxSteps := 2000000) only [hres, go_sem]
    first
      | exact finOkG_mk (by rfl)
      | refine ⟨finOkG_mk (by rfl), ?_⟩
        rw [hsr]
        (repeat' refine And.intro ?_ ?_) <;> first | rfl | (congr 1; done)

theorem specStep_fn : FnOk Try.prog 13 := fnOk_of Try.func13 rfl (by decide)

def T_specStep : Tab := fun f => if f = 13 then some (.g K_specStep) else T_mHt61 f
theorem T_specStep_ok : TabOk Try.prog T_specStep := fun f k h => by
  unfold T_specStep at h
  split at h
  · rename_i e; cases h; subst e; exact ⟨specStep_ok, specStep_fn⟩
  · exact T_mHt61_ok f k h
attribute [go_sem] T_specStep K_specStep

end Go.Proofs.Ythglggjgjlmhlaa
