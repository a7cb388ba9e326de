/-
  Contracts of functions: RenderBlock.
-/
import Derived.Test.YthglggjgjlmhlaaGreatHb13
import Derived.Test.YthglggjgjlmhlaaGreatHt1
import Derived.Test.YthglggjgjlmhlaaGreatHs1
import Derived.Test.YthglggjgjlmhlaaGreatPi
import Derived.Test.YthglggjgjlmhlaaGreatGp
namespace Go.Proofs.YthglggjgjlmhlaaGreat
open Go.RowKit
set_option linter.unusedSimpArgs false
set_option linter.unusedVariables false

def T_mHb200 : Tab := fun f => match T_plBlock f with
  | some k => some k
  | none => T_playerOf f
theorem T_mHb200_ok : TabOk Tryz.prog T_mHb200 := fun f k h => by
  unfold T_mHb200 at h
  split at h
  · rename_i e; cases h; exact T_plBlock_ok f _ e
  · exact T_playerOf_ok f k h
attribute [go_sem] T_mHb200 T0


def T_mHb201 : Tab := fun f => match T_mHb200 f with
  | some k => some k
  | none => T_frameCode f
theorem T_mHb201_ok : TabOk Tryz.prog T_mHb201 := fun f k h => by
  unfold T_mHb201 at h
  split at h
  · rename_i e; cases h; exact T_mHb200_ok f _ e
  · exact T_frameCode_ok f k h
attribute [go_sem] T_mHb201 T0


def K_implRb : GCon where
  ps := [.val ((.prod (.int .i64) (.prod (.row 24 (.row 2 (.int .i64))) (.prod (.row 75 (.prod (.int .i64) (.prod (.int .i64) (.prod (.int .i64) (.row 2 (.int .i64)))))) (.row 2 (.int .i64)))))), .one ((.row 24 (.row 2 (.int .i64)))), .val ((.row 24 (.row 2 (.int .i64)))), .val (.int .i64)]
  os := []
  c := fun _ => True
  r := fun x => .tup [.c (.ow 10), .agg [.ow 11], .c (.sc (.int .i64 (rbR x.1.1 x.1.2.1 x.1.2.2.1 x.1.2.2.2.1).2.2))]
  o := fun x => [(10, .tree 24 (.row 2 (.int .i64)) ((rbR x.1.1 x.1.2.1 x.1.2.2.1 x.1.2.2.2.1).1) none), (11, .tree 24 (.row 2 (.int .i64)) ((rbR x.1.1 x.1.2.1 x.1.2.2.1 x.1.2.2.2.1).2.1) none)]
  ok := by
    rintro ⟨⟨⟨(pi : Int), (ts : List (List Int)), (ns : List NodeD), (os : List Int)⟩, (cc : List (List Int)), (ins : List (List Int)), (nn : Int), _⟩, _⟩
    exact ⟨rfl, rfl, by decide⟩
set_option maxRecDepth 100000 in
set_option maxHeartbeats 8000000 in
theorem implRb_ok : GenT Tryz.prog 11 K_implRb := by
  refine gen_of_body Tryz.func11 rfl ?_
  have hres : Tryz.f11.results.toList = [.tmp 8, .cell 9 32, .tmp 10] := rfl
  rintro ⟨⟨⟨(pi : Int), (ts : List (List Int)), (ns : List NodeD), (os : List Int)⟩, (cc : List (List Int)), (ins : List (List Int)), (nn : Int), _⟩, _⟩ hc hL hO
  simp only [K_implRb, lensOk, PK.lenOk, glensOk, GP.lenOk, flensOk, GO.lenOk, olensOk, Ty.lenOk, Ty.flat, Bool.and_true, Bool.true_and, Bool.and_false, Bool.false_and, true_and, and_true, implies_true, forall_const] at hL
  simp only [K_implRb, lensOk, PK.lenOk, glensOk, GP.lenOk, flensOk, GO.lenOk, olensOk, Ty.lenOk, Ty.flat, Bool.and_true, Bool.true_and, Bool.and_false, Bool.false_and, true_and, and_true, implies_true, forall_const] at hO
  simp only [K_implRb, St.init, St.initG, Tryz.ntmps11, go_sem] 
  refine AWP_seq_k fun K1 hK1 => ?_
  refine AWP_region (G := G) (T := T_mHb201) T_mHb201_ok ?_
  simp (maxSteps := 2000000) only [go_sem]
  refine hK1 _ ?_
  refine AWP_seq_k fun K2 hK2 => ?_
  refine AWP_seq_k fun K3 hK3 => ?_
  refine AWP_region (G := G) (T := T_mHb201) T_mHb201_ok ?_
  simp only [go_sem]
  repeat (with_reducible refine And.intro (by first | omega | exact ⟨rfl, by omega, by omega, by omega⟩) ?_)
  refine hK3 _ ?_
  refine AWP_cond rfl ?_ ?_
  ·
   intro c0
   try simp only [decide_eq_true_eq, decide_eq_false_iff_not, Bool.not_eq_true', Bool.not_eq_false', ne_eq, Int.not_lt, Int.not_le] at c0
   refine AWP_seq_k fun K4 hK4 => ?_
   refine AWP_region (G := G) (T := T_mHb201) T_mHb201_ok ?_
   simp only [go_sem]
   repeat (with_reducible refine And.intro (by first | omega | exact ⟨rfl, by omega, by omega, by omega⟩) ?_)
   refine hK4 _ ?_
   refine AWP_wk (Wk_nilSlot _ 8 9101 24 ((.row 2 (.int .i64))) (by decide)) ?_
   simp (maxSteps := 2000000) only [go_sem]
   refine AWP_wk (Wk_nilBox _ 244 0 9102 24 ((.row 2 (.int .i64))) (by decide)) ?_
   simp (maxSteps := 2000000) only [go_sem]
   refine AWP_ret ?_
   simp only [hres, go_sem]
   first
     | exact finOkG_mk (by rfl)
     | refine ⟨finOkG_mk (by rfl), ?_⟩
       rw [rbR_1 c0]
       (repeat' refine And.intro ?_ ?_) <;> first | rfl | (congr 1; done)
  ·
   intro c0
   try simp only [decide_eq_true_eq, decide_eq_false_iff_not, Bool.not_eq_true', Bool.not_eq_false', ne_eq, Int.not_lt, Int.not_le] at c0
   refine AWP_skip ?_
   simp only [go_sem]
   refine hK2 _ ?_
   refine AWP_seq_k fun K5 hK5 => ?_
   refine AWP_seq_k fun K6 hK6 => ?_
   refine AWP_region (G := G) (T := T_mHb201) T_mHb201_ok ?_
   simp (maxSteps := 2000000) only [go_sem]
   repeat' (first | (with_reducible refine And.intro (by first | omega | exact ⟨rfl, by omega, by omega, by omega⟩) ?_) | (with_reducible refine gcase_dt (fun g3 => ?_) (fun g3 => ?_)) | (with_reducible refine gcase_df (fun g3 => ?_) (fun g3 => ?_)) | (with_reducible refine gcase_ndt (fun g3 => ?_) (fun g3 => ?_)) | (with_reducible refine gcase_ndf (fun g3 => ?_) (fun g3 => ?_)) | (with_reducible refine gcase_nt (fun g3 => ?_) (fun g3 => ?_)) | (with_reducible refine gcase_nf (fun g3 => ?_) (fun g3 => ?_)) | (with_reducible refine gcase_mk (fun g3 => ?_) (fun g3 => ?_)))
   all_goals
    refine hK6 _ ?_
    refine AWP_cond rfl ?_ ?_
    ·
     intro c1
     try simp only [decide_eq_true_eq, decide_eq_false_iff_not, Bool.not_eq_true', Bool.not_eq_false', ne_eq, Int.not_lt, Int.not_le, Bool.true_eq_false, Bool.false_eq_true] at c1
     all_goals
      refine AWP_seq_k fun K7 hK7 => ?_
      refine AWP_region (G := G) (T := T_mHb201) T_mHb201_ok ?_
      simp only [go_sem]
      repeat (with_reducible refine And.intro (by first | omega | exact ⟨rfl, by omega, by omega, by omega⟩) ?_)
      refine hK7 _ ?_
      refine AWP_wk (Wk_nilSlot _ 8 9101 24 ((.row 2 (.int .i64))) (by decide)) ?_
      simp (maxSteps := 2000000) only [go_sem]
      refine AWP_wk (Wk_nilBox _ 244 0 9102 24 ((.row 2 (.int .i64))) (by decide)) ?_
      simp (maxSteps := 2000000) only [go_sem]
      refine AWP_ret ?_
      simp only [hres, go_sem]
      first
        | exact finOkG_mk (by rfl)
        | refine ⟨finOkG_mk (by rfl), ?_⟩
          have hq : (sigB (pi, ts, ns, os) ins && inR nn 0 4000) = false := by first | (rw [show sigB (pi, ts, ns, os) ins = false by assumption]; rfl) | (rw [show inR nn 0 4000 = false by assumption, Bool.and_false])
          rw [rbR_2 c0 hq]
          (repeat' refine And.intro ?_ ?_) <;> first | rfl | (congr 1; done)
    ·
     intro c1
     try simp only [decide_eq_true_eq, decide_eq_false_iff_not, Bool.not_eq_true', Bool.not_eq_false', ne_eq, Int.not_lt, Int.not_le, Bool.true_eq_false, Bool.false_eq_true] at c1
     all_goals
      have hsg : sigB (pi, ts, ns, os) ins = true := by assumption
      have hnz : inR nn 0 4000 = true := by assumption
      obtain ⟨hz1, hz2⟩ := inR_iff.1 hnz
      have hin := sigB_iff.1 hsg
      have hq : (sigB (pi, ts, ns, os) ins && inR nn 0 4000) = true := by rw [hsg, hnz]; rfl
      obtain ⟨hP, hS0⟩ := Bool.and_eq_true_iff.1 c0
      have hS := stateB_iff.1 hS0
      have hF := (patchB_parts hP).1
      have h00 : (0 : Int) ≤ 0 := Int.le_refl _
      have h0n : 0 + nn ≤ 1000000 := by omega
      have hrb := rbR_0 c0 hq
      refine AWP_skip ?_
      simp only [go_sem]
      refine hK5 _ ?_
      refine AWP_seq_k fun K8 hK8 => ?_
      refine AWP_region (G := G) (T := T_mHb201) T_mHb201_ok ?_
      simp only [go_sem]
      repeat (with_reducible refine And.intro (by first | omega | exact ⟨rfl, by omega, by omega, by omega⟩ | exact ⟨hP, hS⟩) ?_)
      refine hK8 _ ?_
      refine AWP_seq_k fun K9 hK9 => ?_
      refine AWP_region (G := G) (T := T_mHb201) T_mHb201_ok ?_
      simp (maxSteps := 2000000) only [go_sem]
      repeat (with_reducible refine And.intro (by first | omega | exact ⟨rfl, by omega, by omega, by omega⟩ | exact ⟨hP, rfl, vals0_ok _, hS, hin, h00, hz1, h0n⟩ | exact ⟨hP, vals0_ok _, hS, hin, h00, hz1, h0n⟩ | exact ⟨⟨hP, vals0_ok _, hS, hin, h00, hz1, h0n⟩, trivial⟩) ?_)
      refine hK9 _ ?_
      refine AWP_seq_k fun K10 hK10 => ?_
      refine AWP_draw (G := G) (T := T_mHb201) T_mHb201_ok mixed
        [[], [], [1], [1, 2], [1, 2, 3], [1, 2, 3, 4], [0], [0, 1, 2, 3, 4, 5, 6], [0, 1, 2, 3, 4, 5, 6, 7]]
        [[], [], [], [], [], [], [], [], []]
        [[], [], [], [], [], [], [], [], []] (by kernel_rfl) (by kernel_rfl) (adrawR_ok (acc := []) ?_)
      simp (maxSteps := 2000000) only [go_sem]
      repeat (with_reducible refine And.intro (by first | exact chk_leaf (by kernel_rfl) | omega | exact ⟨rfl, by omega, by omega, by omega⟩) ?_)
      refine hK10 _ ?_
      refine AWP_ret ?_
      simp only [hres, go_sem]
      first
        | exact finOkG_mk (by rfl)
        | refine ⟨finOkG_mk (by rfl), ?_⟩
          rw [hrb]
          (repeat' refine And.intro ?_ ?_) <;> first | rfl | (congr 1; done)

theorem implRb_fn : FnOk Tryz.prog 11 := fnOk_of Tryz.func11 rfl (by decide)

def T_implRb : Tab := fun f => if f = 11 then some (.g K_implRb) else T_mHb201 f
theorem T_implRb_ok : TabOk Tryz.prog T_implRb := fun f k h => by
  unfold T_implRb at h
  split at h
  · rename_i e; cases h; subst e; exact ⟨implRb_ok, implRb_fn⟩
  · exact T_mHb201_ok f k h
attribute [go_sem] T_implRb K_implRb

end Go.Proofs.YthglggjgjlmhlaaGreat
