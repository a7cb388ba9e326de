/-
  Contracts of functions: l08OwnState, RenderBlock.
-/
import Derived.Test.YthglggjgjlmhlaaGreatHb14
import Derived.Test.YthglggjgjlmhlaaGreatHs2
import Derived.Test.YthglggjgjlmhlaaGreatPi
import Derived.Test.YthglggjgjlmhlaaGreatGone
namespace Go.Proofs.YthglggjgjlmhlaaGreat
open Go.RowKit
set_option linter.unusedSimpArgs false
set_option linter.unusedVariables false

def T_mHb210 : Tab := fun f => match T_l08Block f with
  | some k => some k
  | none => T_l08Frame f
theorem T_mHb210_ok : TabOk Tryz.prog T_mHb210 := fun f k h => by
  unfold T_mHb210 at h
  split at h
  · rename_i e; cases h; exact T_l08Block_ok f _ e
  · exact T_l08Frame_ok f k h
attribute [go_sem] T_mHb210 T0


def K_l08OwnState : GCon where
  ps := [.ptr ((.row 24 (.row 2 (.int .i64))))]
  os := []
  c := fun x => fitsL x.1.1
  r := fun _ => .agg [.ow 10]
  o := fun x => [(10, .tree 24 (.row 2 (.int .i64)) (x.1.1) none)]
  ok := by
    rintro ⟨⟨(cc : List (List Int)), _⟩, _⟩
    exact ⟨rfl, rfl, by decide⟩
set_option maxRecDepth 100000 in
set_option maxHeartbeats 4000000 in
theorem l08OwnState_ok : GenT Tryz.prog 25 K_l08OwnState := by
  refine gen_of_body Tryz.func25 rfl ?_
  have hres : Tryz.f25.results.toList = [.cell 2 32] := rfl
  rintro ⟨⟨(cc : List (List Int)), _⟩, _⟩ hc hL hO
  simp only [K_l08OwnState, lensOk, PK.lenOk, glensOk, GP.lenOk, flensOk, GO.lenOk, olensOk, Ty.lenOk, Ty.flat, Bool.and_true, Bool.true_and, Bool.and_false, Bool.false_and, true_and, and_true, implies_true, forall_const] at hL
  simp only [K_l08OwnState, lensOk, PK.lenOk, glensOk, GP.lenOk, flensOk, GO.lenOk, olensOk, Ty.lenOk, Ty.flat, Bool.and_true, Bool.true_and, Bool.and_false, Bool.false_and, true_and, and_true, implies_true, forall_const] at hO
  simp only [K_l08OwnState, St.init, St.initG, Tryz.ntmps25, go_sem] 
  obtain ⟨hx, hy⟩ := (show fitsL cc from hc)
  refine AWP_seq_k fun K1 hK1 => ?_
  refine AWP_region (G := G) (T := T_mHb210) T_mHb210_ok ?_
  simp only [go_sem]
  refine hK1 _ ?_
  refine AWP_seq_k fun K2 hK2 => ?_
  refine AWP_region (G := G) (T := T_mHb210) T_mHb210_ok ?_
  simp only [List.nodup_cons, List.nodup_nil, List.not_mem_nil, not_false_eq_true, go_sem]
  repeat (with_reducible refine And.intro (by first | omega | exact ⟨rfl, by omega, by omega, by omega⟩) ?_)
  refine hK2 _ ?_
  refine AWP_seq_k fun K3 hK3 => ?_
  refine AWP_seq_k fun K4 hK4 => ?_
  refine AWP_region (G := G) (T := T_mHb210) T_mHb210_ok ?_
  simp only [go_sem]
  refine hK4 _ ?_
  refine AWP_block ?_
  refine AWP_loop_k (ι := { k : Nat // k ≤ cc.length }) (fun k => ⟨[.c (.pt [] ((.row 24 (.row 2 (.int .i64)))) cc 0), zz, .c (.po 132 0), .c (.po 148 0), .c (.sc (.int .i64 (k.1))), zz, zz, zz, zz, zz, zz, zz, zz, zz, zz, zz, zz, zz, zz, zz, zz, zz, zz, zz, zz, zz, zz, zz, zz, zz], [(132, .box [.sc (.slice none 0 0)]), (148, .box [.ow 9001]), (9001, .tree 24 (.row 2 (.int .i64)) (cc.take k.1) none)]⟩) (fun k => cc.length - k.1) ⟨0, by simp⟩ ?_ ?_
  ·
   refine Wk_to (by rfl) ?_
   simp (maxSteps := 2000000) only [go_sem]
   all_goals (first | rfl | ((repeat' refine And.intro ?_ ?_) <;> first | rfl | simp))
  rintro ⟨k, hk⟩ K5 hL5
  have htk : (List.take k cc).length ≤ 1099511627776 := by rw [List.length_take]; omega
  have hyk : k < cc.length → (cc.getD k []).length ≤ 1099511627776 := fun h => hy _ (getD_mem h)
  refine AWP_seq_k fun K6 hK6 => ?_
  refine AWP_seq_k fun K7 hK7 => ?_
  refine AWP_region (G := G) (T := T_mHb210) T_mHb210_ok ?_
  simp (maxSteps := 2000000) only [go_sem]
  repeat (with_reducible refine And.intro (by first | omega | exact ⟨rfl, by omega, by omega, by omega⟩) ?_)
  refine hK7 _ ?_
  refine AWP_cond rfl ?_ ?_
  ·
   intro c0
   try simp only [decide_eq_true_eq, decide_eq_false_iff_not, Bool.not_eq_true', Bool.not_eq_false', ne_eq, Int.not_lt, Int.not_le] at c0
   refine AWP_skip ?_
   simp only [go_sem]
   refine hK6 _ ?_
   refine AWP_seq_k fun K8 hK8 => ?_
   refine AWP_block ?_
   refine AWP_draw (G := G) (T := T_mHb210) T_mHb210_ok mixed
     [[], [0], [], [2], [2, 3], [2, 3, 4], [], [2, 3, 4, 5, 6], [2, 3, 4, 5, 6, 7], [2, 3, 4, 5, 6, 7, 8], [2, 3, 4, 5, 6, 7, 8, 9], [0, 1, 2, 3, 4, 5, 6, 7, 8, 9, 10], [0, 1, 2, 3, 4, 5, 6, 7, 8, 9, 10, 11], [0, 1, 2, 3, 4, 5, 6, 7, 8, 9, 10, 11, 12]]
     [[500, 501, 502, 503, 504, 505, 506, 507, 508, 509, 510, 511, 512, 513, 514, 515, 516], [500, 501, 502, 503, 504, 505, 506, 507, 508, 509, 510, 511, 512, 513, 514, 515, 516], [], [], [], [], [], [], [], [], [], [], [], []]
     [[], [], [], [], [], [], [], [], [], [500, 501, 502, 503, 504, 505, 506, 507, 508, 509, 510, 511, 512, 513, 514, 515], [500, 501, 502, 503, 504, 505, 506, 507, 508, 509, 510, 511, 512, 513, 514, 515, 516], [], [], []] (by kernel_rfl) (by kernel_rfl) (adrawR_ok (acc := []) ?_)
   simp (maxSteps := 2000000) only [List.nodup_cons, List.nodup_nil, List.not_mem_nil, not_false_eq_true, go_sem]
   repeat (with_reducible refine And.intro (by first | exact chk_leaf (by kernel_rfl) | omega | exact ⟨rfl, by omega, by omega, by omega⟩ | exact hyk (by omega)) ?_)
   refine hK8 _ ?_
   refine AWP_region (G := G) (T := T_mHb210) T_mHb210_ok ?_
   simp only [go_sem]
   refine hL5 ⟨k + 1, by omega⟩ _ (Wk_to (by rfl) ?_) ?_
   ·
    simp (maxSteps := 2000000) only [go_sem]
    all_goals ((repeat' refine And.intro ?_ ?_) <;> first | rfl | exact wk (by omega) | (congr 1; exact (take_next (xs := cc) (k := k) (d := []) (by omega)).symm) | exact (take_next (xs := cc) (k := k) (d := []) (by omega)).symm | (congr 1; done))
   ·
    first | (simp only []; omega) | omega | (simp; omega)
  ·
   intro c0
   try simp only [decide_eq_true_eq, decide_eq_false_iff_not, Bool.not_eq_true', Bool.not_eq_false', ne_eq, Int.not_lt, Int.not_le] at c0
   refine AWP_exit ?_
   simp only [go_sem]
   refine hK3 _ ?_
   refine AWP_seq_k fun K9 hK9 => ?_
   refine AWP_region (G := G) (T := T_mHb210) T_mHb210_ok ?_
   simp only [go_sem]
   repeat (with_reducible refine And.intro (by first | omega | exact ⟨rfl, by omega, by omega, by omega⟩) ?_)
   refine hK9 _ ?_
   refine AWP_ret ?_
   simp only [hres, go_sem]
   first
     | exact finOkG_mk (by rfl)
     | refine ⟨finOkG_mk (by rfl), ?_⟩
       (repeat' refine And.intro ?_ ?_) <;> first | rfl | (congr 1; exact List.take_of_length_le (by omega)) | (congr 1; done)

theorem l08OwnState_fn : FnOk Tryz.prog 25 := fnOk_of Tryz.func25 rfl (by decide)

def T_l08OwnState : Tab := fun f => if f = 25 then some (.g K_l08OwnState) else T_mHb210 f
theorem T_l08OwnState_ok : TabOk Tryz.prog T_l08OwnState := fun f k h => by
  unfold T_l08OwnState at h
  split at h
  · rename_i e; cases h; subst e; exact ⟨l08OwnState_ok, l08OwnState_fn⟩
  · exact T_mHb210_ok f k h
attribute [go_sem] T_l08OwnState K_l08OwnState


def K_specRb : GCon where
  ps := [.val ((.prod (.int .i64) (.prod (.row 24 (.row 2 (.int .i64))) (.prod (.row 75 (.prod (.int .i64) (.prod (.int .i64) (.prod (.int .i64) (.row 2 (.int .i64)))))) (.row 2 (.int .i64)))))), .one ((.row 24 (.row 2 (.int .i64)))), .val ((.row 24 (.row 2 (.int .i64)))), .val (.int .i64)]
  os := []
  c := fun _ => True
  r := fun x => .tup [.c (.ow 10), .agg [.rd [] 24 ((.row 2 (.int .i64))) ((rbR x.1.1 x.1.2.1 x.1.2.2.1 x.1.2.2.2.1).2.1)], .c (.sc (.int .i64 (rbR x.1.1 x.1.2.1 x.1.2.2.1 x.1.2.2.2.1).2.2))]
  o := fun x => [(10, .tree 24 (.row 2 (.int .i64)) ((rbR x.1.1 x.1.2.1 x.1.2.2.1 x.1.2.2.2.1).1) none)]
  ok := by
    rintro ⟨⟨⟨(pi : Int), (ts : List (List Int)), (ns : List NodeD), (os : List Int)⟩, (cc : List (List Int)), (ins : List (List Int)), (nn : Int), _⟩, _⟩
    exact ⟨rfl, rfl, by decide⟩
set_option maxRecDepth 100000 in
set_option maxHeartbeats 8000000 in
theorem specRb_ok : GenT Tryz.prog 7 K_specRb := by
  refine gen_of_body Tryz.func7 rfl ?_
  have hres : Tryz.f7.results.toList = [.tmp 8, .cell 9 32, .tmp 10] := rfl
  rintro ⟨⟨⟨(pi : Int), (ts : List (List Int)), (ns : List NodeD), (os : List Int)⟩, (cc : List (List Int)), (ins : List (List Int)), (nn : Int), _⟩, _⟩ hc hL hO
  simp only [K_specRb, lensOk, PK.lenOk, glensOk, GP.lenOk, flensOk, GO.lenOk, olensOk, Ty.lenOk, Ty.flat, Bool.and_true, Bool.true_and, Bool.and_false, Bool.false_and, true_and, and_true, implies_true, forall_const] at hL
  simp only [K_specRb, lensOk, PK.lenOk, glensOk, GP.lenOk, flensOk, GO.lenOk, olensOk, Ty.lenOk, Ty.flat, Bool.and_true, Bool.true_and, Bool.and_false, Bool.false_and, true_and, and_true, implies_true, forall_const] at hO
  simp only [K_specRb, St.init, St.initG, Tryz.ntmps7, go_sem] 
  refine AWP_seq_k fun K1 hK1 => ?_
  refine AWP_region (G := G) (T := T_l08OwnState) T_l08OwnState_ok ?_
  simp (maxSteps := 2000000) only [go_sem]
  refine hK1 _ ?_
  refine AWP_seq_k fun K2 hK2 => ?_
  refine AWP_seq_k fun K3 hK3 => ?_
  refine AWP_region (G := G) (T := T_l08OwnState) T_l08OwnState_ok ?_
  simp only [go_sem]
  repeat (with_reducible refine And.intro (by first | omega | exact ⟨rfl, by omega, by omega, by omega⟩) ?_)
  refine hK3 _ ?_
  refine AWP_cond rfl ?_ ?_
  ·
   intro c0
   try simp only [decide_eq_true_eq, decide_eq_false_iff_not, Bool.not_eq_true', Bool.not_eq_false', ne_eq, Int.not_lt, Int.not_le] at c0
   refine AWP_seq_k fun K4 hK4 => ?_
   refine AWP_region (G := G) (T := T_l08OwnState) T_l08OwnState_ok ?_
   simp only [go_sem]
   repeat (with_reducible refine And.intro (by first | omega | exact ⟨rfl, by omega, by omega, by omega⟩) ?_)
   refine hK4 _ ?_
   refine AWP_wk (Wk_nilSlot _ 8 9101 24 ((.row 2 (.int .i64))) (by decide)) ?_
   simp (maxSteps := 2000000) only [go_sem]
   refine AWP_wk (Wk_nilBox _ 244 0 9102 24 ((.row 2 (.int .i64))) (by decide)) ?_
   simp (maxSteps := 2000000) only [go_sem]
   refine AWP_wk (Wk_freeB _ 9102 (by decide)) ?_
   simp (maxSteps := 2000000) only [go_sem]
   refine AWP_ret ?_
   simp only [hres, go_sem]
   first
     | exact finOkG_mk (by rfl)
     | refine ⟨finOkG_mk (by rfl), ?_⟩
       rw [rbR_1 c0]
       (repeat' refine And.intro ?_ ?_) <;> first | rfl | (congr 1; done)
  ·
   intro c0
   try simp only [decide_eq_true_eq, decide_eq_false_iff_not, Bool.not_eq_true', Bool.not_eq_false', ne_eq, Int.not_lt, Int.not_le] at c0
   refine AWP_skip ?_
   simp only [go_sem]
   refine hK2 _ ?_
   refine AWP_seq_k fun K5 hK5 => ?_
   refine AWP_seq_k fun K6 hK6 => ?_
   refine AWP_region (G := G) (T := T_l08OwnState) T_l08OwnState_ok ?_
   simp (maxSteps := 2000000) only [go_sem]
   repeat' (first | (with_reducible refine And.intro (by first | omega | exact ⟨rfl, by omega, by omega, by omega⟩) ?_) | (with_reducible refine gcase_dt (fun g3 => ?_) (fun g3 => ?_)) | (with_reducible refine gcase_df (fun g3 => ?_) (fun g3 => ?_)) | (with_reducible refine gcase_ndt (fun g3 => ?_) (fun g3 => ?_)) | (with_reducible refine gcase_ndf (fun g3 => ?_) (fun g3 => ?_)) | (with_reducible refine gcase_nt (fun g3 => ?_) (fun g3 => ?_)) | (with_reducible refine gcase_nf (fun g3 => ?_) (fun g3 => ?_)) | (with_reducible refine gcase_mk (fun g3 => ?_) (fun g3 => ?_)))
   all_goals
    refine hK6 _ ?_
    refine AWP_cond rfl ?_ ?_
    ·
     intro c1
     try simp only [decide_eq_true_eq, decide_eq_false_iff_not, Bool.not_eq_true', Bool.not_eq_false', ne_eq, Int.not_lt, Int.not_le, Bool.true_eq_false, Bool.false_eq_true] at c1
     all_goals
      refine AWP_seq_k fun K7 hK7 => ?_
      refine AWP_region (G := G) (T := T_l08OwnState) T_l08OwnState_ok ?_
      simp only [go_sem]
      repeat (with_reducible refine And.intro (by first | omega | exact ⟨rfl, by omega, by omega, by omega⟩) ?_)
      refine hK7 _ ?_
      refine AWP_wk (Wk_nilSlot _ 8 9101 24 ((.row 2 (.int .i64))) (by decide)) ?_
      simp (maxSteps := 2000000) only [go_sem]
      refine AWP_wk (Wk_nilBox _ 244 0 9102 24 ((.row 2 (.int .i64))) (by decide)) ?_
      simp (maxSteps := 2000000) only [go_sem]
      refine AWP_wk (Wk_freeB _ 9102 (by decide)) ?_
      simp (maxSteps := 2000000) only [go_sem]
      refine AWP_ret ?_
      simp only [hres, go_sem]
      first
        | exact finOkG_mk (by rfl)
        | refine ⟨finOkG_mk (by rfl), ?_⟩
          have hq : (sigB (pi, ts, ns, os) ins && inR nn 0 4000) = false := by first | (rw [show sigB (pi, ts, ns, os) ins = false by assumption]; rfl) | (rw [show inR nn 0 4000 = false by assumption, Bool.and_false])
          rw [rbR_2 c0 hq]
          (repeat' refine And.intro ?_ ?_) <;> first | rfl | (congr 1; done)
    ·
     intro c1
     try simp only [decide_eq_true_eq, decide_eq_false_iff_not, Bool.not_eq_true', Bool.not_eq_false', ne_eq, Int.not_lt, Int.not_le, Bool.true_eq_false, Bool.false_eq_true] at c1
     all_goals
      have hsg : sigB (pi, ts, ns, os) ins = true := by assumption
      have hnz : inR nn 0 4000 = true := by assumption
      obtain ⟨hz1, hz2⟩ := inR_iff.1 hnz
      have hin := sigB_iff.1 hsg
      have hq : (sigB (pi, ts, ns, os) ins && inR nn 0 4000) = true := by rw [hsg, hnz]; rfl
      obtain ⟨hP, hS0⟩ := Bool.and_eq_true_iff.1 c0
      have hS := stateB_iff.1 hS0
      have hF := (patchB_parts hP).1
      have h00 : (0 : Int) ≤ 0 := Int.le_refl _
      have h0n : 0 + nn ≤ 1000000 := by omega
      have hrb := rbR_0 c0 hq
      have hfc : fitsL cc := fitsL_st hF hS
      refine AWP_skip ?_
      simp only [go_sem]
      refine hK5 _ ?_
      refine AWP_seq_k fun K8 hK8 => ?_
      refine AWP_region (G := G) (T := T_l08OwnState) T_l08OwnState_ok ?_
      simp only [go_sem]
      repeat (with_reducible refine And.intro (by first | omega | exact ⟨rfl, by omega, by omega, by omega⟩ | exact hfc) ?_)
      refine hK8 _ ?_
      refine AWP_seq_k fun K9 hK9 => ?_
      refine AWP_region (G := G) (T := T_l08OwnState) T_l08OwnState_ok ?_
      simp only [go_sem]
      repeat (with_reducible refine And.intro (by first | omega | exact ⟨rfl, by omega, by omega, by omega⟩ | exact ⟨hP, hS, hin, h00, hz1, h0n⟩) ?_)
      refine hK9 _ ?_
      refine AWP_seq_k fun K10 hK10 => ?_
      refine AWP_draw (G := G) (T := T_l08OwnState) T_l08OwnState_ok mixed
        [[], [], [0], [0, 1, 2], [0, 1, 2, 3]]
        [[], [], [], [], []]
        [[], [], [], [], []] (by kernel_rfl) (by kernel_rfl) (adrawR_ok (acc := []) ?_)
      simp (maxSteps := 2000000) only [go_sem]
      repeat (with_reducible refine And.intro (by first | exact chk_leaf (by kernel_rfl) | omega | exact ⟨rfl, by omega, by omega, by omega⟩) ?_)
      refine hK10 _ ?_
      refine AWP_wk (Wk_gone _ 164 (by decide)) ?_
      simp (maxSteps := 2000000) only [go_sem]
      refine AWP_wk (Wk_gone _ 500 (by decide)) ?_
      simp (maxSteps := 2000000) only [go_sem]
      refine AWP_ret ?_
      simp only [hres, go_sem]
      first
        | exact finOkG_mk (by rfl)
        | refine ⟨finOkG_mk (by rfl), ?_⟩
          rw [hrb]
          (repeat' refine And.intro ?_ ?_) <;> first | rfl | (congr 1; done)

theorem specRb_fn : FnOk Tryz.prog 7 := fnOk_of Tryz.func7 rfl (by decide)

def T_specRb : Tab := fun f => if f = 7 then some (.g K_specRb) else T_l08OwnState f
theorem T_specRb_ok : TabOk Tryz.prog T_specRb := fun f k h => by
  unfold T_specRb at h
  split at h
  · rename_i e; cases h; subst e; exact ⟨specRb_ok, specRb_fn⟩
  · exact T_l08OwnState_ok f k h
attribute [go_sem] T_specRb K_specRb

end Go.Proofs.YthglggjgjlmhlaaGreat
