/-
  Contracts of functions: l08Render, Render.
-/
import Derived.Test.YthglggjgjlmhlaaHb14
import Derived.Test.YthglggjgjlmhlaaHb12
namespace Go.Proofs.Ythglggjgjlmhlaa
open Go.RowKit
set_option linter.unusedSimpArgs false
set_option linter.unusedVariables false

def T_mHb160 : Tab := fun f => match T_l08Block f with
  | some k => some k
  | none => T_l08Start f
theorem T_mHb160_ok : TabOk Try.prog T_mHb160 := fun f k h => by
  unfold T_mHb160 at h
  split at h
  · rename_i e; cases h; exact T_l08Block_ok f _ e
  · exact T_l08Start_ok f k h
attribute [go_sem] T_mHb160 T0


def K_l08Render : Con := ⟨[.ptr (.prod (.int .i64) (.prod (.row 24 (.row 2 (.int .i64))) (.prod (.row 140 (.prod (.int .i64) (.prod (.int .i64) (.prod (.int .i64) (.row 2 (.int .i64)))))) (.row 2 (.int .i64))))), .val ((.row 24 (.row 2 (.int .i64)))), .val (.int .i64)], [⟨(.row 24 (.row 2 (.int .i64))), true⟩], fun x => patchB x.1 = true ∧ insOk x.1 x.2.1 ∧ inR x.2.2.1 0 1000000 = true, fun x => renderL x.1 x.2.1 (Int.toNat x.2.2.1)⟩
set_option maxRecDepth 100000 in
set_option maxHeartbeats 4000000 in
theorem l08Render_ok : PureT Try.prog 73 K_l08Render := by
  refine pure_of_body Try.func73 rfl ?_
  have hres : Try.f73.results.toList = [.tmp 6] := rfl
  rintro ⟨⟨(pi : Int), (ts : List (List Int)), (ns : List NodeD), (os : List Int)⟩, (ins : List (List Int)), (nn : Int), _⟩ hc hL
  simp only [K_l08Render, lensOk, PK.lenOk, glensOk, GP.lenOk, flensOk, GO.lenOk, olensOk, Ty.lenOk, Ty.flat, Bool.and_true, Bool.true_and, Bool.and_false, Bool.false_and, true_and, and_true, implies_true, forall_const] at hL
  simp only [K_l08Render, St.init, St.initG, Try.ntmps73, go_sem] 
  obtain ⟨hP, hin, hnr⟩ := (show patchB (pi, ts, ns, os) = true ∧ insOk (pi, ts, ns, os) ins ∧ inR nn 0 1000000 = true from hc)
  obtain ⟨hn1, hn2⟩ := inR_iff.1 hnr
  have hF := (patchB_parts hP).1
  have hs0 := startL_ok hF
  have h00 : (0 : Int) ≤ 0 := Int.le_refl _
  have h0n : 0 + nn ≤ 1000000 := by omega
  refine AWP_seq_k fun K1 hK1 => ?_
  refine AWP_region (G := G) (T := T_mHb160) T_mHb160_ok ?_
  simp only [go_sem]
  refine hK1 _ ?_
  refine AWP_seq_k fun K2 hK2 => ?_
  refine AWP_region (G := G) (T := T_mHb160) T_mHb160_ok ?_
  simp only [go_sem]
  repeat (with_reducible refine And.intro (by first | omega | exact ⟨rfl, by omega, by omega, by omega⟩ | exact hP | exact ⟨hP, hs0⟩ | exact ⟨hP, hs0, hin, h00, hn1, h0n⟩ | exact ⟨hP, vals0_ok _, hs0, hin, h00, hn1, h0n⟩ | exact ⟨hP, rfl, vals0_ok _, hs0, hin, h00, hn1, h0n⟩ | exact ⟨hP, hs0, hin, hn2⟩ | exact ⟨hP, hs0, hin, hn1, hn2⟩ | exact ⟨hP, hs0, hin, h00, hn1, hn2⟩ | exact ⟨hP, vals0_ok _, hs0, hin, hn2⟩ | exact ⟨hP, vals0_ok _, hs0, hin, hn1, hn2⟩ | exact ⟨hP, vals0_ok _, hs0, hin, h00, hn1, hn2⟩) ?_)
  refine hK2 _ ?_
  refine AWP_seq_k fun K3 hK3 => ?_
  refine AWP_region (G := G) (T := T_mHb160) T_mHb160_ok ?_
  simp (maxSteps := 2000000) only [go_sem]
  repeat (with_reducible refine And.intro (by first | omega | exact ⟨rfl, by omega, by omega, by omega⟩ | exact hP | exact ⟨hP, hs0⟩ | exact ⟨hP, hs0, hin, h00, hn1, h0n⟩ | exact ⟨hP, vals0_ok _, hs0, hin, h00, hn1, h0n⟩ | exact ⟨hP, rfl, vals0_ok _, hs0, hin, h00, hn1, h0n⟩ | exact ⟨hP, hs0, hin, hn2⟩ | exact ⟨hP, hs0, hin, hn1, hn2⟩ | exact ⟨hP, hs0, hin, h00, hn1, hn2⟩ | exact ⟨hP, vals0_ok _, hs0, hin, hn2⟩ | exact ⟨hP, vals0_ok _, hs0, hin, hn1, hn2⟩ | exact ⟨hP, vals0_ok _, hs0, hin, h00, hn1, hn2⟩) ?_)
  refine hK3 _ ?_
  refine AWP_ret ?_
  simp only [hres, go_sem]
  first
    | exact finOk_mk (by rfl) (by decide)
    | refine ⟨?_, finOk_mk (by rfl) (by decide)⟩
      rfl

theorem l08Render_fn : FnOk Try.prog 73 := fnOk_of Try.func73 rfl (by decide)

def T_l08Render : Tab := fun f => if f = 73 then some (.p K_l08Render) else T_mHb160 f
theorem T_l08Render_ok : TabOk Try.prog T_l08Render := fun f k h => by
  unfold T_l08Render at h
  split at h
  · rename_i e; cases h; subst e; exact ⟨l08Render_ok, l08Render_fn⟩
  · exact T_mHb160_ok f k h
attribute [go_sem] T_l08Render K_l08Render


def K_specRender : Con := ⟨[.val ((.prod (.int .i64) (.prod (.row 24 (.row 2 (.int .i64))) (.prod (.row 140 (.prod (.int .i64) (.prod (.int .i64) (.prod (.int .i64) (.row 2 (.int .i64)))))) (.row 2 (.int .i64)))))), .val ((.row 24 (.row 2 (.int .i64)))), .val (.int .i64)], [⟨(.row 24 (.row 2 (.int .i64))), true⟩, ⟨.int .i64, true⟩], fun _ => True, fun x => renderR x.1 x.2.1 x.2.2.1⟩
set_option maxRecDepth 100000 in
set_option maxHeartbeats 4000000 in
theorem specRender_ok : PureT Try.prog 27 K_specRender := by
  refine pure_of_body Try.func27 rfl ?_
  have hres : Try.f27.results.toList = [.tmp 6, .tmp 7] := rfl
  rintro ⟨⟨(pi : Int), (ts : List (List Int)), (ns : List NodeD), (os : List Int)⟩, (ins : List (List Int)), (nn : Int), _⟩ hc hL
  simp only [K_specRender, lensOk, PK.lenOk, glensOk, GP.lenOk, flensOk, GO.lenOk, olensOk, Ty.lenOk, Ty.flat, Bool.and_true, Bool.true_and, Bool.and_false, Bool.false_and, true_and, and_true, implies_true, forall_const] at hL
  simp only [K_specRender, St.init, St.initG, Try.ntmps27, go_sem] 
  refine AWP_seq_k fun K1 hK1 => ?_
  refine AWP_region (G := G) (T := T_l08Render) T_l08Render_ok ?_
  simp only [go_sem]
  refine hK1 _ ?_
  refine AWP_seq_k fun K2 hK2 => ?_
  refine AWP_seq_k fun K3 hK3 => ?_
  refine AWP_region (G := G) (T := T_l08Render) T_l08Render_ok ?_
  simp only [go_sem]
  repeat (with_reducible refine And.intro (by first | omega | exact ⟨rfl, by omega, by omega, by omega⟩) ?_)
  refine hK3 _ ?_
  refine AWP_cond rfl ?_ ?_
  ·
   intro c0
   try simp only [decide_eq_true_eq, decide_eq_false_iff_not, Bool.not_eq_true', Bool.not_eq_false', ne_eq, Int.not_lt, Int.not_le] at c0
   refine AWP_seq_k fun K4 hK4 => ?_
   refine AWP_region (G := G) (T := T_l08Render) T_l08Render_ok ?_
   simp only [go_sem]
   refine hK4 _ ?_
   refine AWP_ret ?_
   simp only [hres, go_sem]
   first
     | exact finOk_mk (by rfl) (by decide)
     | refine ⟨?_, finOk_mk (by rfl) (by decide)⟩
       first | (rw [renderR_1 c0]; exact ⟨rfl, rfl⟩) | (rw [renderR_1 c0])
  ·
   intro c0
   try simp only [decide_eq_true_eq, decide_eq_false_iff_not, Bool.not_eq_true', Bool.not_eq_false', ne_eq, Int.not_lt, Int.not_le] at c0
   refine AWP_skip ?_
   simp only [go_sem]
   refine hK2 _ ?_
   refine AWP_seq_k fun K5 hK5 => ?_
   refine AWP_seq_k fun K6 hK6 => ?_
   refine AWP_region (G := G) (T := T_l08Render) T_l08Render_ok ?_
   simp (maxSteps := 2000000) only [go_sem]
   repeat' (first | (with_reducible refine And.intro (by first | omega | exact ⟨rfl, by omega, by omega, by omega⟩) ?_) | (with_reducible refine gcase_dt (fun g3 => ?_) (fun g3 => ?_)) | (with_reducible refine gcase_df (fun g3 => ?_) (fun g3 => ?_)) | (with_reducible refine gcase_ndt (fun g3 => ?_) (fun g3 => ?_)) | (with_reducible refine gcase_ndf (fun g3 => ?_) (fun g3 => ?_)) | (with_reducible refine gcase_nt (fun g3 => ?_) (fun g3 => ?_)) | (with_reducible refine gcase_nf (fun g3 => ?_) (fun g3 => ?_)) | (with_reducible refine gcase_mk (fun g3 => ?_) (fun g3 => ?_)))
   all_goals
    refine hK6 _ ?_
    refine AWP_cond rfl ?_ ?_
    ·
     intro c1
     try simp only [decide_eq_true_eq, decide_eq_false_iff_not, Bool.not_eq_true', Bool.not_eq_false', ne_eq, Int.not_lt, Int.not_le, Bool.true_eq_false, Bool.false_eq_true] at c1
     all_goals
      refine AWP_seq_k fun K7 hK7 => ?_
      refine AWP_region (G := G) (T := T_l08Render) T_l08Render_ok ?_
      simp only [go_sem]
      refine hK7 _ ?_
      refine AWP_ret ?_
      simp only [hres, go_sem]
      first
        | exact finOk_mk (by rfl) (by decide)
        | refine ⟨?_, finOk_mk (by rfl) (by decide)⟩
          have hq : (sigB (pi, ts, ns, os) ins && inR nn 0 4000) = false := by first | (rw [show sigB (pi, ts, ns, os) ins = false by assumption]; rfl) | (rw [show inR nn 0 4000 = false by assumption, Bool.and_false])
          first | (rw [renderR_2 c0 hq]; exact ⟨rfl, rfl⟩) | (rw [renderR_2 c0 hq])
    ·
     intro c1
     try simp only [decide_eq_true_eq, decide_eq_false_iff_not, Bool.not_eq_true', Bool.not_eq_false', ne_eq, Int.not_lt, Int.not_le, Bool.true_eq_false, Bool.false_eq_true] at c1
     all_goals
      have hsg : sigB (pi, ts, ns, os) ins = true := by assumption
      have hnz : inR nn 0 4000 = true := by assumption
      obtain ⟨hz1, hz2⟩ := inR_iff.1 hnz
      have hrc : patchB (pi, ts, ns, os) = true ∧ insOk (pi, ts, ns, os) ins ∧ inR nn 0 1000000 = true := ⟨c0, sigB_iff.1 hsg, inR_t (by omega) (by omega)⟩
      refine AWP_skip ?_
      simp only [go_sem]
      refine hK5 _ ?_
      refine AWP_seq_k fun K8 hK8 => ?_
      refine AWP_region (G := G) (T := T_l08Render) T_l08Render_ok ?_
      simp (maxSteps := 2000000) only [go_sem]
      repeat (with_reducible refine And.intro (by first | omega | exact ⟨rfl, by omega, by omega, by omega⟩ | exact hrc) ?_)
      refine hK8 _ ?_
      refine AWP_ret ?_
      simp only [hres, go_sem]
      first
        | exact finOk_mk (by rfl) (by decide)
        | refine ⟨?_, finOk_mk (by rfl) (by decide)⟩
          have hq : (sigB (pi, ts, ns, os) ins && inR nn 0 4000) = true := by rw [show sigB (pi, ts, ns, os) ins = true by assumption, show inR nn 0 4000 = true by assumption]; rfl
          first | (rw [renderR_0 c0 hq]; exact ⟨rfl, rfl⟩) | (rw [renderR_0 c0 hq])

theorem specRender_fn : FnOk Try.prog 27 := fnOk_of Try.func27 rfl (by decide)

def T_specRender : Tab := fun f => if f = 27 then some (.p K_specRender) else T_l08Render f
theorem T_specRender_ok : TabOk Try.prog T_specRender := fun f k h => by
  unfold T_specRender at h
  split at h
  · rename_i e; cases h; subst e; exact ⟨specRender_ok, specRender_fn⟩
  · exact T_l08Render_ok f k h
attribute [go_sem] T_specRender K_specRender

end Go.Proofs.Ythglggjgjlmhlaa
