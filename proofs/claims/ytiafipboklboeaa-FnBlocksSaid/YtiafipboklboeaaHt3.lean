/-
  Contracts of functions: StepPatch.
-/
import Derived.Test.YtiafipboklboeaaHt1
import Derived.Test.YtiafipboklboeaaHt2
import Derived.Test.YtiafipboklboeaaHs1
namespace Go.Proofs.Ytiafipboklboeaa
open Go.RowKit
set_option linter.unusedSimpArgs false
set_option linter.unusedVariables false

set_option maxRecDepth 100000
set_option maxHeartbeats 4000000
def T_mHt30 : Tab := fun f => match T_playerOf f with
 | some k => some k
 | none => T_frame f
theorem T_mHt30_ok : TabOk Try.prog T_mHt30 := tabM T_playerOf_ok T_frame_ok
attribute [go_sem] T_mHt30 T0

def T_mHt31 : Tab := fun f => match T_mHt30 f with
 | some k => some k
 | none => T_frameCode f
theorem T_mHt31_ok : TabOk Try.prog T_mHt31 := tabM T_mHt30_ok T_frameCode_ok
attribute [go_sem] T_mHt31 T0

def K_implStep : GCon where
  ps := [.val ((.prod (.int .i64) (.prod (.row 26 (.row 2 (.int .i64))) (.prod (.row 83 (.prod (.int .i64) (.prod (.int .i64) (.prod (.int .i64) (.row 2 (.int .i64)))))) (.row 2 (.int .i64)))))), .one ((.row 26 (.row 2 (.int .i64)))), .val ((.row 2 (.int .i64)))]
  os := []
  c := fun _ => True
  r := fun x => .tup [.c (.ow 10), .agg [.ow 11], .c (.sc (.int .i64 (stepR x.1.1 x.1.2.1 x.1.2.2.1).2.2))]
  o := fun x => [(10, .row 2 (.int .i64) ((stepR x.1.1 x.1.2.1 x.1.2.2.1).1) []), (11, .tree 26 (.row 2 (.int .i64)) ((stepR x.1.1 x.1.2.1 x.1.2.2.1).2.1) none)]
  ok := by
    rintro ⟨⟨⟨(pi : Int), (ts : List (List Int)), (ns : List NodeD), (os : List Int)⟩, (cc : List (List Int)), (ff : List Int), _⟩, _⟩
    exact ⟨rfl, rfl, by decide⟩
theorem implStep_ok : GenT Try.prog 12 K_implStep := by
  refine gen_of_body Try.func12 rfl ?_
  have hres : Try.f12.results.toList = [.tmp 6, .cell 7 35, .tmp 8] := rfl
  rintro ⟨⟨⟨(pi : Int), (ts : List (List Int)), (ns : List NodeD), (os : List Int)⟩, (cc : List (List Int)), (ff : List Int), _⟩, _⟩ hc hL hO
  simp only [K_implStep, go_sem] at hL
  simp only [K_implStep, go_sem] at hO
  simp only [K_implStep, St.init, St.initG, Try.ntmps12, go_sem] 
  refine oS fun K1 hK1 => ?_
  refine oW T_mHt31_ok ?_
  simp (maxSteps := 2000000) only [go_sem]
  refine hK1 _ ?_
  refine oS fun K2 hK2 => ?_
  refine oS fun K3 hK3 => ?_
  refine oW T_mHt31_ok ?_
  simp (maxSteps := 2000000) only [go_sem]
  repeat (with_reducible refine oA ?_)
  refine hK3 _ ?_
  refine oS fun K4 hK4 => ?_
  refine oW T_mHt31_ok ?_
  simp only [go_sem]
  refine hK4 _ ?_
  refine oC rfl ?_ ?_
  ·
   intro c0
   refine oS fun K5 hK5 => ?_
   refine oW T_mHt31_ok ?_
   simp (maxSteps := 2000000) only [go_sem]
   repeat (with_reducible refine oA ?_)
   refine hK5 _ ?_
   refine AWP_wk (Wk_nilSlot _ 6 9101 2 (.int .i64) (by decide)) ?_
   simp (maxSteps := 2000000) only [go_sem]
   refine AWP_wk (Wk_nilBox _ 212 0 9102 26 ((.row 2 (.int .i64))) (by decide)) ?_
   simp (maxSteps := 2000000) only [go_sem]
   refine AWP_ret ?_
   simp only [hres, go_sem]
   first
    | exact oG
    | refine ⟨oG, ?_⟩
      rw [stepR_f c0]
      (repeat' refine And.intro ?_ ?_) <;> first | rfl | (congr 1; done)
  intro c0
  obtain ⟨hP, hS, hfl, hff⟩ := codeF_ok c0
  have hsr := stepR_t (p := (pi, ts, ns, os)) (s := cc) (fr := ff) c0
  have hF := (patchB_parts hP).1
  have hn24 : ns.length ≤ 24 := (formedB_parts hF).1
  have hvo := valsL_ok' (p := (pi, ts, ns, os)) (s := cc) (fr := ff) hF hS hff
  have hos : os.length ≤ 1000 ∧ idxs (valsL (pi, ts, ns, os) cc ff).length os = true := ⟨by have := (formedB_parts hF).2.1; show os.length ≤ 1000; have h : os.length ≤ 4 := this; omega, by rw [hvo.1]; exact (formedB_parts hF).2.2.2.2.2.1⟩
  have hpl : playL (pi, ts, ns, os) (List.replicate ns.length 0) cc ff = (valsL (pi, ts, ns, os) cc ff, nextL (pi, ts, ns, os) cc ff (valsL (pi, ts, ns, os) cc ff)) := play_eq (p := (pi, ts, ns, os)) hP (by simp) hS.1
  refine AWP_skip ?_
  simp only [go_sem]
  refine hK2 _ ?_
  refine oS fun K6 hK6 => ?_
  refine oW T_mHt31_ok ?_
  simp only [go_sem]
  repeat (with_reducible first | refine oA ?_ | refine And.intro (by first | exact ⟨hP, hS⟩) ?_)
  refine hK6 _ ?_
  refine oS fun K7 hK7 => ?_
  refine oW T_mHt31_ok ?_
  simp only [hpl, go_sem]
  repeat (with_reducible first | refine oA ?_ | refine And.intro (by first | exact ⟨hP, rfl, vals0_ok (pi, ts, ns, os), hS, hfl, hff⟩ | exact ⟨hP, vals0_ok (pi, ts, ns, os), hS, hfl, hff⟩) ?_)
  refine hK7 _ ?_
  refine oS fun K8 hK8 => ?_
  refine oR T_mHt31_ok
    [[], [0], [], [2], [2, 3], [2, 3, 4], [2, 3, 4, 5], [0, 1], [0, 1, 2, 3, 4, 5, 6, 7], [0, 1, 2, 3, 4, 5, 6, 7, 8]]
    [[], [], [516, 517, 518, 519, 520, 521, 522, 523, 524, 525, 526, 527, 528, 529, 530, 531], [516, 517, 518, 519, 520, 521, 522, 523, 524, 525, 526, 527, 528, 529, 530, 531], [516, 517, 518, 519, 520, 521, 522, 523, 524, 525, 526, 527, 528, 529, 530, 531], [516, 517, 518, 519, 520, 521, 522, 523, 524, 525, 526, 527, 528, 529, 530, 531], [516, 517, 518, 519, 520, 521, 522, 523, 524, 525, 526, 527, 528, 529, 530, 531], [], [], []]
    [[], [516, 517, 518, 519, 520, 521, 522, 523, 524, 525, 526, 527, 528, 529, 530, 531], [], [], [], [], [], [], [], []] (by kernel_rfl) (by kernel_rfl) (adrawR_ok (acc := []) ?_)
  simp (maxSteps := 2000000) only [go_sem]
  repeat (with_reducible first | refine oD ?_ | refine And.intro (by first | exact hos) ?_)
  refine hK8 _ ?_
  refine AWP_ret ?_
  simp only [hres, go_sem]
  first
   | exact oG
   | refine ⟨oG, ?_⟩
     rw [hsr]
     (repeat' refine And.intro ?_ ?_) <;> first | rfl | (congr 1; done)
def T_implStep : Tab := fun f => if f = 12 then some (.g K_implStep) else T_mHt31 f
theorem T_implStep_ok : TabOk Try.prog T_implStep := tabG implStep_ok (fnOk_of Try.func12 rfl (by decide)) T_mHt31_ok
attribute [go_sem] T_implStep K_implStep

end Go.Proofs.Ytiafipboklboeaa
