/-
  Contracts of functions: within, l00In, Frac], isFrac, l02Ok, areFracs, compare, l02Compare, whole, l15One, MulFrac, MulFrac, DivFrac, DivFrac.
-/
import Derived.Test.YtpngabaeekjhmaaTu
namespace Go.Proofs.Ytpngabaeekjhmaa
open Go.RowKit
set_option linter.unusedSimpArgs false
set_option linter.unusedVariables false

def K_within : Con := ⟨[.val (.int .i64), .val (.int .i64), .val (.int .i64)], [⟨.bool, true⟩], fun _ => True, fun x => inR x.1 x.2.1 x.2.2.1⟩
set_option maxRecDepth 100000 in
set_option maxHeartbeats 1000000 in
theorem within_ok : PureT Try.prog 57 K_within := by
  refine pure_of_body Try.func57 rfl ?_
  have hres : Try.f57.results.toList = [.tmp 6] := rfl
  rintro ⟨(x : Int), (lo : Int), (hi : Int), _⟩ _
  simp only [K_within, St.init, Try.ntmps57, go_sem, Nat.reduceEqDiff, Nat.reduceMul, Nat.reduceAdd, Nat.reduceBEq, Nat.reduceLT, Nat.reduceLeDiff, Nat.reducePow, reduceIte, reduceDIte, Nat.reduceSub, Nat.reduceBNe, Nat.reduceGT, Int.reduceNeg, reduceCtorEq, Int.reduceToNat] 
  refine AWP_seq_k fun K1 hK1 => ?_
  refine AWP_region (G := G) (T := T0) T0_ok ?_
  simp (maxSteps := 2000000) only [go_sem, Nat.reduceEqDiff, Nat.reduceMul, Nat.reduceAdd, Nat.reduceBEq, Nat.reduceLT, Nat.reduceLeDiff, Nat.reducePow, reduceIte, reduceDIte, Nat.reduceSub, Nat.reduceBNe, Nat.reduceGT, Int.reduceNeg, reduceCtorEq, Int.reduceToNat]
  repeat (with_reducible refine And.intro (by first | omega) ?_)
  refine hK1 _ ?_
  refine AWP_seq_k fun K2 hK2 => ?_
  refine AWP_region (G := G) (T := T0) T0_ok ?_
  simp (maxSteps := 2000000) only [go_sem, Nat.reduceEqDiff, Nat.reduceMul, Nat.reduceAdd, Nat.reduceBEq, Nat.reduceLT, Nat.reduceLeDiff, Nat.reducePow, reduceIte, reduceDIte, Nat.reduceSub, Nat.reduceBNe, Nat.reduceGT, Int.reduceNeg, reduceCtorEq, Int.reduceToNat]
  repeat' (first | (with_reducible refine And.intro (by first | omega) ?_) | (with_reducible refine gcase_dt (fun g1 => ?_) (fun g1 => ?_)) | (with_reducible refine gcase_df (fun g1 => ?_) (fun g1 => ?_)) | (with_reducible refine gcase_nt (fun g1 => ?_) (fun g1 => ?_)) | (with_reducible refine gcase_nf (fun g1 => ?_) (fun g1 => ?_)) | (with_reducible refine gcase_mk (fun g1 => ?_) (fun g1 => ?_)))
  all_goals
    refine hK2 _ ?_
    refine AWP_ret ?_
    simp (maxSteps := 2000000) only [hres, go_sem, Nat.reduceEqDiff, Nat.reduceMul, Nat.reduceAdd, Nat.reduceBEq, Nat.reduceLT, Nat.reduceLeDiff, Nat.reducePow, reduceIte, reduceDIte, Nat.reduceSub, Nat.reduceBNe, Nat.reduceGT, Int.reduceNeg, reduceCtorEq, Int.reduceToNat]
    first
      | exact finOk_mk (by rfl) (by decide)
      | refine ⟨?_, finOk_mk (by rfl) (by decide)⟩
        first | rw [inR, decide_eq_true (show lo ≤ x from g1), Bool.true_and] | rw [inR, decide_eq_false (show ¬ lo ≤ x from g1), Bool.false_and]

theorem within_fn : FnOk Try.prog 57 := fnOk_of Try.func57 rfl (by decide)

def T_within : Tab := fun f => if f = 57 then some K_within else T0 f
theorem T_within_ok : TabOk Try.prog T_within := fun f k h => by
  unfold T_within at h
  split at h
  · rename_i e; cases h; subst e; exact ⟨within_ok, within_fn⟩
  · exact T0_ok f k h
attribute [go_sem] T_within K_within


def K_l00In : Con := ⟨[.val (.int .i64), .val (.int .i64), .val (.int .i64)], [⟨.bool, true⟩], fun _ => True, fun x => inR x.1 x.2.1 x.2.2.1⟩
set_option maxRecDepth 100000 in
set_option maxHeartbeats 1000000 in
theorem l00In_ok : PureT Try.prog 44 K_l00In := by
  refine pure_of_body Try.func44 rfl ?_
  have hres : Try.f44.results.toList = [.tmp 6] := rfl
  rintro ⟨(x : Int), (lo : Int), (hi : Int), _⟩ _
  simp only [K_l00In, St.init, Try.ntmps44, go_sem, Nat.reduceEqDiff, Nat.reduceMul, Nat.reduceAdd, Nat.reduceBEq, Nat.reduceLT, Nat.reduceLeDiff, Nat.reducePow, reduceIte, reduceDIte, Nat.reduceSub, Nat.reduceBNe, Nat.reduceGT, Int.reduceNeg, reduceCtorEq, Int.reduceToNat] 
  refine AWP_seq_k fun K1 hK1 => ?_
  refine AWP_region (G := G) (T := T_within) T_within_ok ?_
  simp (maxSteps := 2000000) only [go_sem, Nat.reduceEqDiff, Nat.reduceMul, Nat.reduceAdd, Nat.reduceBEq, Nat.reduceLT, Nat.reduceLeDiff, Nat.reducePow, reduceIte, reduceDIte, Nat.reduceSub, Nat.reduceBNe, Nat.reduceGT, Int.reduceNeg, reduceCtorEq, Int.reduceToNat]
  repeat (with_reducible refine And.intro (by first | omega) ?_)
  refine hK1 _ ?_
  refine AWP_seq_k fun K2 hK2 => ?_
  refine AWP_region (G := G) (T := T_within) T_within_ok ?_
  simp (maxSteps := 2000000) only [go_sem, Nat.reduceEqDiff, Nat.reduceMul, Nat.reduceAdd, Nat.reduceBEq, Nat.reduceLT, Nat.reduceLeDiff, Nat.reducePow, reduceIte, reduceDIte, Nat.reduceSub, Nat.reduceBNe, Nat.reduceGT, Int.reduceNeg, reduceCtorEq, Int.reduceToNat]
  repeat' (first | (with_reducible refine And.intro (by first | omega) ?_) | (with_reducible refine gcase_dt (fun g1 => ?_) (fun g1 => ?_)) | (with_reducible refine gcase_df (fun g1 => ?_) (fun g1 => ?_)) | (with_reducible refine gcase_nt (fun g1 => ?_) (fun g1 => ?_)) | (with_reducible refine gcase_nf (fun g1 => ?_) (fun g1 => ?_)) | (with_reducible refine gcase_mk (fun g1 => ?_) (fun g1 => ?_)))
  all_goals
    refine hK2 _ ?_
    refine AWP_ret ?_
    simp (maxSteps := 2000000) only [hres, go_sem, Nat.reduceEqDiff, Nat.reduceMul, Nat.reduceAdd, Nat.reduceBEq, Nat.reduceLT, Nat.reduceLeDiff, Nat.reducePow, reduceIte, reduceDIte, Nat.reduceSub, Nat.reduceBNe, Nat.reduceGT, Int.reduceNeg, reduceCtorEq, Int.reduceToNat]
    first
      | exact finOk_mk (by rfl) (by decide)
      | refine ⟨?_, finOk_mk (by rfl) (by decide)⟩
        first | rw [inR, decide_eq_true (show lo ≤ x from g1), Bool.true_and] | rw [inR, decide_eq_false (show ¬ lo ≤ x from g1), Bool.false_and]

theorem l00In_fn : FnOk Try.prog 44 := fnOk_of Try.func44 rfl (by decide)

def T_l00In : Tab := fun f => if f = 44 then some K_l00In else T_within f
theorem T_l00In_ok : TabOk Try.prog T_l00In := fun f k h => by
  unfold T_l00In at h
  split at h
  · rename_i e; cases h; subst e; exact ⟨l00In_ok, l00In_fn⟩
  · exact T_within_ok f k h
attribute [go_sem] T_l00In K_l00In


def K_sizeF : Con := ⟨[.val (.row 29 (.prod (.int .i64) (.int .i64)))], [⟨.int .i64, true⟩], fun _ => True, fun x => (x.1.length : Int)⟩
set_option maxRecDepth 100000 in
set_option maxHeartbeats 1000000 in
theorem sizeF_ok : PureT Try.prog 58 K_sizeF := by
  refine pure_of_body Try.func58 rfl ?_
  have hres : Try.f58.results.toList = [.tmp 2] := rfl
  rintro ⟨xs, _⟩ _
  simp only [K_sizeF, St.init, Try.ntmps58, go_sem, Nat.reduceEqDiff, Nat.reduceMul, Nat.reduceAdd, Nat.reduceBEq, Nat.reduceLT, Nat.reduceLeDiff, Nat.reducePow, reduceIte, reduceDIte, Nat.reduceSub, Nat.reduceBNe, Nat.reduceGT, Int.reduceNeg, reduceCtorEq, Int.reduceToNat] 
  refine AWP_seq_k fun K1 hK1 => ?_
  refine AWP_region (G := G) (T := T_l00In) T_l00In_ok ?_
  simp (maxSteps := 2000000) only [go_sem, Nat.reduceEqDiff, Nat.reduceMul, Nat.reduceAdd, Nat.reduceBEq, Nat.reduceLT, Nat.reduceLeDiff, Nat.reducePow, reduceIte, reduceDIte, Nat.reduceSub, Nat.reduceBNe, Nat.reduceGT, Int.reduceNeg, reduceCtorEq, Int.reduceToNat]
  repeat (with_reducible refine And.intro (by first | omega) ?_)
  refine hK1 _ ?_
  refine AWP_seq_k fun K2 hK2 => ?_
  refine AWP_region (G := G) (T := T_l00In) T_l00In_ok ?_
  simp (maxSteps := 2000000) only [go_sem, Nat.reduceEqDiff, Nat.reduceMul, Nat.reduceAdd, Nat.reduceBEq, Nat.reduceLT, Nat.reduceLeDiff, Nat.reducePow, reduceIte, reduceDIte, Nat.reduceSub, Nat.reduceBNe, Nat.reduceGT, Int.reduceNeg, reduceCtorEq, Int.reduceToNat]
  repeat (with_reducible refine And.intro (by first | omega) ?_)
  refine hK2 _ ?_
  refine AWP_ret ?_
  simp (maxSteps := 2000000) only [hres, go_sem, Nat.reduceEqDiff, Nat.reduceMul, Nat.reduceAdd, Nat.reduceBEq, Nat.reduceLT, Nat.reduceLeDiff, Nat.reducePow, reduceIte, reduceDIte, Nat.reduceSub, Nat.reduceBNe, Nat.reduceGT, Int.reduceNeg, reduceCtorEq, Int.reduceToNat]
  first
    | exact finOk_mk (by rfl) (by decide)
    | refine ⟨?_, finOk_mk (by rfl) (by decide)⟩
      rfl

theorem sizeF_fn : FnOk Try.prog 58 := fnOk_of Try.func58 rfl (by decide)

def T_sizeF : Tab := fun f => if f = 58 then some K_sizeF else T_l00In f
theorem T_sizeF_ok : TabOk Try.prog T_sizeF := fun f k h => by
  unfold T_sizeF at h
  split at h
  · rename_i e; cases h; subst e; exact ⟨sizeF_ok, sizeF_fn⟩
  · exact T_l00In_ok f k h
attribute [go_sem] T_sizeF K_sizeF


def K_isFrac : Con := ⟨[.val (.prod (.int .i64) (.int .i64))], [⟨.bool, true⟩], fun _ => True, fun x => frB x.1.1 x.1.2⟩
theorem isFrac_ok : PureT Try.prog 38 K_isFrac := by
  refine pure_lift fun ⟨x, _⟩ _ R w vs hv => ?_
  obtain ⟨us, e, hv⟩ := vrt_frac hv
  have e2 := vrt_nil hv; subst e2
  have e3 := arr_of e; subst e3
  exact (isFrac_b x.1 x.2 _ w rfl).mono fun _ _ ⟨he, hb⟩ => ⟨_, he, vr_sc _, obsOk_nil _ _, hb⟩

theorem isFrac_fn : FnOk Try.prog 38 := fnOk_of Try.func38 rfl (by decide)

def T_isFrac : Tab := fun f => if f = 38 then some K_isFrac else T_sizeF f
theorem T_isFrac_ok : TabOk Try.prog T_isFrac := fun f k h => by
  unfold T_isFrac at h
  split at h
  · rename_i e; cases h; subst e; exact ⟨isFrac_ok, isFrac_fn⟩
  · exact T_sizeF_ok f k h
attribute [go_sem] T_isFrac K_isFrac


def K_l02Ok : Con := ⟨[.val (.prod (.int .i64) (.int .i64))], [⟨.bool, true⟩], fun _ => True, fun x => frB x.1.1 x.1.2⟩
theorem l02Ok_ok : PureT Try.prog 34 K_l02Ok := by
  refine pure_lift fun ⟨x, _⟩ _ R w vs hv => ?_
  obtain ⟨us, e, hv⟩ := vrt_frac hv
  have e2 := vrt_nil hv; subst e2
  have e3 := arr_of e; subst e3
  exact (l02Ok_b x.1 x.2 _ w rfl).mono fun _ _ ⟨he, hb⟩ => ⟨_, he, vr_sc _, obsOk_nil _ _, hb⟩

theorem l02Ok_fn : FnOk Try.prog 34 := fnOk_of Try.func34 rfl (by decide)

def T_l02Ok : Tab := fun f => if f = 34 then some K_l02Ok else T_isFrac f
theorem T_l02Ok_ok : TabOk Try.prog T_l02Ok := fun f k h => by
  unfold T_l02Ok at h
  split at h
  · rename_i e; cases h; subst e; exact ⟨l02Ok_ok, l02Ok_fn⟩
  · exact T_isFrac_ok f k h
attribute [go_sem] T_l02Ok K_l02Ok


def K_areFracs : Con := ⟨[.val (.row 29 (.prod (.int .i64) (.int .i64)))], [⟨.bool, true⟩], fun _ => True, fun x => frAll x.1⟩
theorem areFracs_ok : PureT Try.prog 55 K_areFracs := by
  refine pure_lift fun ⟨xs, _⟩ _ R w vs hv => ?_
  obtain ⟨u, us, e, hr, hv⟩ := vrt_rd hv
  have e2 := vrt_nil hv; subst e2
  have e3 := arr_of e; subst e3
  exact (areFracs_any u xs w hr.pairs).mono fun _ _ ⟨he, hb⟩ => ⟨_, he, vr_sc _, obsOk_nil _ _, hb⟩

theorem areFracs_fn : FnOk Try.prog 55 := fnOk_of Try.func55 rfl (by decide)

def T_areFracs : Tab := fun f => if f = 55 then some K_areFracs else T_l02Ok f
theorem T_areFracs_ok : TabOk Try.prog T_areFracs := fun f k h => by
  unfold T_areFracs at h
  split at h
  · rename_i e; cases h; subst e; exact ⟨areFracs_ok, areFracs_fn⟩
  · exact T_l02Ok_ok f k h
attribute [go_sem] T_areFracs K_areFracs


def K_implCmp : Con := ⟨[.val (.prod (.int .i64) (.int .i64)), .val (.prod (.int .i64) (.int .i64))], [⟨.int .i64, true⟩], fun x => frB x.1.1 x.1.2 = true ∧ frB x.2.1.1 x.2.1.2 = true, fun x => cmpF x.1.1 x.1.2 x.2.1.1 x.2.1.2⟩
theorem implCmp_ok : PureT Try.prog 56 K_implCmp := by
  refine pure_lift fun ⟨x, y, _⟩ hc R w vs hv => ?_
  obtain ⟨us, e, hv⟩ := vrt_frac hv
  obtain ⟨us', e', hv2⟩ := vrt_frac hv; clear hv; subst e'
  have e2 := vrt_nil hv2; subst e2
  have e3 := arr_of e; subst e3
  have h1 := frB_bd hc.1; have h2 := frB_bd hc.2
  simp only at h1 h2
  exact (implCmp_any x.1 x.2 y.1 y.2 w (by omega) (by omega) (by omega) (by omega)).mono fun _ _ ⟨he, hb⟩ => ⟨_, he, vr_sc _, obsOk_nil _ _, hb⟩

theorem implCmp_fn : FnOk Try.prog 56 := fnOk_of Try.func56 rfl (by decide)

def T_implCmp : Tab := fun f => if f = 56 then some K_implCmp else T_areFracs f
theorem T_implCmp_ok : TabOk Try.prog T_implCmp := fun f k h => by
  unfold T_implCmp at h
  split at h
  · rename_i e; cases h; subst e; exact ⟨implCmp_ok, implCmp_fn⟩
  · exact T_areFracs_ok f k h
attribute [go_sem] T_implCmp K_implCmp


def K_specCmp : Con := ⟨[.val (.prod (.int .i64) (.int .i64)), .val (.prod (.int .i64) (.int .i64))], [⟨.int .i64, true⟩], fun x => frB x.1.1 x.1.2 = true ∧ frB x.2.1.1 x.2.1.2 = true, fun x => cmpF x.1.1 x.1.2 x.2.1.1 x.2.1.2⟩
theorem specCmp_ok : PureT Try.prog 54 K_specCmp := by
  refine pure_lift fun ⟨x, y, _⟩ hc R w vs hv => ?_
  obtain ⟨us, e, hv⟩ := vrt_frac hv
  obtain ⟨us', e', hv2⟩ := vrt_frac hv; clear hv; subst e'
  have e2 := vrt_nil hv2; subst e2
  have e3 := arr_of e; subst e3
  have h1 := frB_bd hc.1; have h2 := frB_bd hc.2
  simp only at h1 h2
  exact (specCmp_any x.1 x.2 y.1 y.2 w (by omega) (by omega) (by omega) (by omega)).mono fun _ _ ⟨he, hb⟩ => ⟨_, he, vr_sc _, obsOk_nil _ _, hb⟩

theorem specCmp_fn : FnOk Try.prog 54 := fnOk_of Try.func54 rfl (by decide)

def T_specCmp : Tab := fun f => if f = 54 then some K_specCmp else T_implCmp f
theorem T_specCmp_ok : TabOk Try.prog T_specCmp := fun f k h => by
  unfold T_specCmp at h
  split at h
  · rename_i e; cases h; subst e; exact ⟨specCmp_ok, specCmp_fn⟩
  · exact T_implCmp_ok f k h
attribute [go_sem] T_specCmp K_specCmp


def K_whole : Con := ⟨[.val (.int .i64)], [⟨.prod (.int .i64) (.int .i64), true⟩], fun _ => True, fun x => (x.1, 1)⟩
theorem whole_ok : PureT Try.prog 50 K_whole := by
  refine pure_lift fun ⟨x, _⟩ _ R w vs hv => ?_
  obtain ⟨us, e, hv⟩ := vrt_sc hv
  have e2 := vrt_nil hv; subst e2
  have e3 := arr_of e; subst e3
  exact (whole_any x w).mono fun _ _ ⟨he, hb⟩ => ⟨_, he, vr_frac _ _, obsOk_nil _ _, hb⟩

theorem whole_fn : FnOk Try.prog 50 := fnOk_of Try.func50 rfl (by decide)

def T_whole : Tab := fun f => if f = 50 then some K_whole else T_specCmp f
theorem T_whole_ok : TabOk Try.prog T_whole := fun f k h => by
  unfold T_whole at h
  split at h
  · rename_i e; cases h; subst e; exact ⟨whole_ok, whole_fn⟩
  · exact T_specCmp_ok f k h
attribute [go_sem] T_whole K_whole


def K_l15One : Con := ⟨[], [⟨.prod (.int .i64) (.int .i64), true⟩], fun _ => True, fun _ => (1, 1)⟩
theorem l15One_ok : PureT Try.prog 48 K_l15One := by
  refine pure_lift fun _ _ R w vs hv => ?_
  have e2 := arr_of (vrt_nil hv); subst e2
  exact (l15One_any w).mono fun _ _ ⟨he, hb⟩ => ⟨_, he, vr_frac _ _, obsOk_nil _ _, hb⟩

theorem l15One_fn : FnOk Try.prog 48 := fnOk_of Try.func48 rfl (by decide)

def T_l15One : Tab := fun f => if f = 48 then some K_l15One else T_whole f
theorem T_l15One_ok : TabOk Try.prog T_l15One := fun f k h => by
  unfold T_l15One at h
  split at h
  · rename_i e; cases h; subst e; exact ⟨l15One_ok, l15One_fn⟩
  · exact T_whole_ok f k h
attribute [go_sem] T_l15One K_l15One


def K_implMul : Con := ⟨[.val (.prod (.int .i64) (.int .i64)), .val (.prod (.int .i64) (.int .i64))], [⟨.prod (.int .i64) (.int .i64), true⟩, ⟨.int .i64, true⟩], fun _ => True, fun x => (mulF x.1.1 x.1.2 x.2.1.1 x.2.1.2)⟩
theorem implMul_ok : PureT Try.prog 70 K_implMul := by
  refine pure_lift fun ⟨x, y, _⟩ hc R w vs hv => ?_
  obtain ⟨us, e, hv⟩ := vrt_frac hv
  obtain ⟨us', e', hv2⟩ := vrt_frac hv; clear hv; subst e'
  have e2 := vrt_nil hv2; subst e2
  have e3 := arr_of e; subst e3
  exact (implMul_any x.1 x.2 y.1 y.2 w).mono fun _ _ ⟨he, hb⟩ => ⟨_, he, vr_fracInt _ _ _, obsOk_nil _ _, hb⟩

theorem implMul_fn : FnOk Try.prog 70 := fnOk_of Try.func70 rfl (by decide)

def T_implMul : Tab := fun f => if f = 70 then some K_implMul else T_l15One f
theorem T_implMul_ok : TabOk Try.prog T_implMul := fun f k h => by
  unfold T_implMul at h
  split at h
  · rename_i e; cases h; subst e; exact ⟨implMul_ok, implMul_fn⟩
  · exact T_l15One_ok f k h
attribute [go_sem] T_implMul K_implMul


def K_specMul : Con := ⟨[.val (.prod (.int .i64) (.int .i64)), .val (.prod (.int .i64) (.int .i64))], [⟨.prod (.int .i64) (.int .i64), true⟩, ⟨.int .i64, true⟩], fun _ => True, fun x => (mulF x.1.1 x.1.2 x.2.1.1 x.2.1.2)⟩
theorem specMul_ok : PureT Try.prog 69 K_specMul := by
  refine pure_lift fun ⟨x, y, _⟩ hc R w vs hv => ?_
  obtain ⟨us, e, hv⟩ := vrt_frac hv
  obtain ⟨us', e', hv2⟩ := vrt_frac hv; clear hv; subst e'
  have e2 := vrt_nil hv2; subst e2
  have e3 := arr_of e; subst e3
  exact (specMul_any x.1 x.2 y.1 y.2 w).mono fun _ _ ⟨he, hb⟩ => ⟨_, he, vr_fracInt _ _ _, obsOk_nil _ _, hb⟩

theorem specMul_fn : FnOk Try.prog 69 := fnOk_of Try.func69 rfl (by decide)

def T_specMul : Tab := fun f => if f = 69 then some K_specMul else T_implMul f
theorem T_specMul_ok : TabOk Try.prog T_specMul := fun f k h => by
  unfold T_specMul at h
  split at h
  · rename_i e; cases h; subst e; exact ⟨specMul_ok, specMul_fn⟩
  · exact T_implMul_ok f k h
attribute [go_sem] T_specMul K_specMul


def K_implDiv : Con := ⟨[.val (.prod (.int .i64) (.int .i64)), .val (.prod (.int .i64) (.int .i64))], [⟨.prod (.int .i64) (.int .i64), true⟩, ⟨.int .i64, true⟩], fun _ => True, fun x => (divF x.1.1 x.1.2 x.2.1.1 x.2.1.2)⟩
theorem implDiv_ok : PureT Try.prog 51 K_implDiv := by
  refine pure_lift fun ⟨x, y, _⟩ hc R w vs hv => ?_
  obtain ⟨us, e, hv⟩ := vrt_frac hv
  obtain ⟨us', e', hv2⟩ := vrt_frac hv; clear hv; subst e'
  have e2 := vrt_nil hv2; subst e2
  have e3 := arr_of e; subst e3
  exact (implDiv_any x.1 x.2 y.1 y.2 w).mono fun _ _ ⟨he, hb⟩ => ⟨_, he, vr_fracInt _ _ _, obsOk_nil _ _, hb⟩

theorem implDiv_fn : FnOk Try.prog 51 := fnOk_of Try.func51 rfl (by decide)

def T_implDiv : Tab := fun f => if f = 51 then some K_implDiv else T_specMul f
theorem T_implDiv_ok : TabOk Try.prog T_implDiv := fun f k h => by
  unfold T_implDiv at h
  split at h
  · rename_i e; cases h; subst e; exact ⟨implDiv_ok, implDiv_fn⟩
  · exact T_specMul_ok f k h
attribute [go_sem] T_implDiv K_implDiv


def K_specDiv : Con := ⟨[.val (.prod (.int .i64) (.int .i64)), .val (.prod (.int .i64) (.int .i64))], [⟨.prod (.int .i64) (.int .i64), true⟩, ⟨.int .i64, true⟩], fun _ => True, fun x => (divF x.1.1 x.1.2 x.2.1.1 x.2.1.2)⟩
theorem specDiv_ok : PureT Try.prog 49 K_specDiv := by
  refine pure_lift fun ⟨x, y, _⟩ hc R w vs hv => ?_
  obtain ⟨us, e, hv⟩ := vrt_frac hv
  obtain ⟨us', e', hv2⟩ := vrt_frac hv; clear hv; subst e'
  have e2 := vrt_nil hv2; subst e2
  have e3 := arr_of e; subst e3
  exact (specDiv_any x.1 x.2 y.1 y.2 w).mono fun _ _ ⟨he, hb⟩ => ⟨_, he, vr_fracInt _ _ _, obsOk_nil _ _, hb⟩

theorem specDiv_fn : FnOk Try.prog 49 := fnOk_of Try.func49 rfl (by decide)

def T_specDiv : Tab := fun f => if f = 49 then some K_specDiv else T_implDiv f
theorem T_specDiv_ok : TabOk Try.prog T_specDiv := fun f k h => by
  unfold T_specDiv at h
  split at h
  · rename_i e; cases h; subst e; exact ⟨specDiv_ok, specDiv_fn⟩
  · exact T_implDiv_ok f k h
attribute [go_sem] T_specDiv K_specDiv

end Go.Proofs.Ytpngabaeekjhmaa
