/-
  Contracts of functions: StepPatch.
-/
import Derived.Test.YtflaacndokbddaaGreatHt5
import Derived.Test.YtflaacndokbddaaGreatHs2
namespace Go.Proofs.YtflaacndokbddaaGreat
open Go.RowKit
set_option linter.unusedSimpArgs false
set_option linter.unusedVariables false

set_option maxRecDepth 100000
set_option maxHeartbeats 4000000
def T_mHt60 : Tab := fun f => match T_l08Values f with
 | some k => some k
 | none => T_l08Step f
theorem T_mHt60_ok : TabOk Tryz.prog T_mHt60 := tabM T_l08Values_ok T_l08Step_ok
attribute [go_sem] T_mHt60 T0

def T_mHt61 : Tab := fun f => match T_mHt60 f with
 | some k => some k
 | none => T_l08Frame f
theorem T_mHt61_ok : TabOk Tryz.prog T_mHt61 := tabM T_mHt60_ok T_l08Frame_ok
attribute [go_sem] T_mHt61 T0

def K_specStep : GCon where
  ps := [.val ((.prod (.int .i64) (.prod (.row 26 (.row 2 (.int .i64))) (.prod (.row 90 (.prod (.int .i64) (.prod (.int .i64) (.prod (.int .i64) (.row 2 (.int .i64)))))) (.row 2 (.int .i64)))))), .one ((.row 26 (.row 2 (.int .i64)))), .val ((.row 2 (.int .i64)))]
  os := []
  c := fun _ => True
  r := fun x => .tup [.c (.ow 10), .agg [.ow 11], .c (.sc (.int .i64 (stepR x.1.1 x.1.2.1 x.1.2.2.1).2.2))]
  o := fun x => [(10, .row 2 (.int .i64) ((stepR x.1.1 x.1.2.1 x.1.2.2.1).1) []), (11, .tree 26 (.row 2 (.int .i64)) ((stepR x.1.1 x.1.2.1 x.1.2.2.1).2.1) none)]
  ok := by
    rintro ⟨⟨⟨(pi : Int), (ts : List (List Int)), (ns : List NodeD), (os : List Int)⟩, (cc : List (List Int)), (ff : List Int), _⟩, _⟩
    exact ⟨rfl, rfl, by decide⟩
theorem specStep_ok : GenT Tryz.prog 19 K_specStep := by
  refine gen_of_body Tryz.func19 rfl ?_
  have hres : Tryz.f19.results.toList = [.tmp 6, .cell 7 39, .tmp 8] := rfl
  rintro ⟨⟨⟨(pi : Int), (ts : List (List Int)), (ns : List NodeD), (os : List Int)⟩, (cc : List (List Int)), (ff : List Int), _⟩, _⟩ hc hL hO
  simp only [K_specStep, go_sem] at hL
  simp only [K_specStep, go_sem] at hO
  simp only [K_specStep, St.init, St.initG, Tryz.ntmps19, go_sem] 
  refine oS fun K1 hK1 => ?_
  refine oW T_mHt61_ok ?_
  simp (maxSteps := 2000000) only [go_sem]
  refine hK1 _ ?_
  refine oS fun K2 hK2 => ?_
  refine oS fun K3 hK3 => ?_
  refine oW T_mHt61_ok ?_
  simp only [go_sem]
  repeat (with_reducible refine oA ?_)
  refine hK3 _ ?_
  refine oS fun K4 hK4 => ?_
  refine oW T_mHt61_ok ?_
  simp only [go_sem]
  refine hK4 _ ?_
  refine oC rfl ?_ ?_
  ·
   intro c0
   refine oS fun K5 hK5 => ?_
   refine oW T_mHt61_ok ?_
   simp (maxSteps := 2000000) only [go_sem]
   repeat (with_reducible refine oA ?_)
   refine hK5 _ ?_
   refine AWP_wk (Wk_nilSlot _ 6 9101 2 (.int .i64) (by decide)) ?_
   simp (maxSteps := 2000000) only [go_sem]
   refine AWP_wk (Wk_nilBox _ 212 0 9102 26 ((.row 2 (.int .i64))) (by decide)) ?_
   simp (maxSteps := 2000000) only [go_sem]
   refine AWP_ret ?_
   simp only [hres, go_sem]
   first
    | exact oG
    | refine ⟨oG, ?_⟩
      rw [stepR_f c0]
      (repeat' refine And.intro ?_ ?_) <;> first | rfl | (congr 1; done)
  intro c0
  obtain ⟨hP, hS, hfl, hff⟩ := codeF_ok c0
  have hsr := stepR_t (p := (pi, ts, ns, os)) (s := cc) (fr := ff) c0
  have hF := (patchB_parts hP).1
  have hn24 : ns.length ≤ 24 := (formedB_parts hF).1
  have hvo := valsL_ok' (p := (pi, ts, ns, os)) (s := cc) (fr := ff) hF hS hff
  have hos : os.length ≤ 1000 ∧ idxs (valsL (pi, ts, ns, os) cc ff).length os = true := ⟨by have := (formedB_parts hF).2.1; show os.length ≤ 1000; have h : os.length ≤ 4 := this; omega, by rw [hvo.1]; exact (formedB_parts hF).2.2.2.2.2.1⟩
  have hor : ordR ns = (ordL ns, true) := ordR_t (patchB_parts hP).2
  refine AWP_skip ?_
  simp only [go_sem]
  refine hK2 _ ?_
  refine oS fun K6 hK6 => ?_
  refine oW T_mHt61_ok ?_
  simp (maxSteps := 2000000) only [hor, go_sem]
  repeat (with_reducible first | refine oA ?_ | refine And.intro (by first | exact hF) ?_)
  refine hK6 _ ?_
  refine oS fun K7 hK7 => ?_
  refine oW T_mHt61_ok ?_
  simp only [go_sem]
  repeat (with_reducible first | refine oA ?_ | refine And.intro (by first | exact ⟨hP, rfl, hS, hfl, hff⟩ | exact ⟨hP, hS, hfl, hff⟩) ?_)
  refine hK7 _ ?_
  refine oS fun K8 hK8 => ?_
  refine oW T_mHt61_ok ?_
  simp only [go_sem]
  repeat (with_reducible first | refine oA ?_ | refine And.intro (by first | exact ⟨hP, hS, hfl, hff, hvo⟩) ?_)
  refine hK8 _ ?_
  refine oS fun K9 hK9 => ?_
  refine oR T_mHt61_ok
    [[], [0], [], [0, 1, 2], [], [0, 1, 2, 3], [0, 1, 2, 3, 4, 5], [0, 1, 2, 3, 4, 5, 6]]
    [[], [], [], [], [612, 613, 614, 615, 616, 617, 618, 619, 620, 621, 622, 623, 624, 625, 626, 627], [], [], []]
    [[], [], [], [612, 613, 614, 615, 616, 617, 618, 619, 620, 621, 622, 623, 624, 625, 626, 627], [], [], [], []] (by kernel_rfl) (by kernel_rfl) (adrawR_ok (acc := []) ?_)
  simp (maxSteps := 2000000) only [go_sem]
  repeat (with_reducible first | refine oD ?_ | refine And.intro (by first | exact hos) ?_)
  refine hK9 _ ?_
  refine AWP_ret ?_
  simp only [hres, go_sem]
  first
   | exact oG
   | refine ⟨oG, ?_⟩
     rw [hsr]
     (repeat' refine And.intro ?_ ?_) <;> first | rfl | (congr 1; done)
def T_specStep : Tab := fun f => if f = 19 then some (.g K_specStep) else T_mHt61 f
theorem T_specStep_ok : TabOk Tryz.prog T_specStep := tabG specStep_ok (fnOk_of Tryz.func19 rfl (by decide)) T_mHt61_ok
attribute [go_sem] T_specStep K_specStep

end Go.Proofs.YtflaacndokbddaaGreat
