/-
  Contracts of functions: render, Render.
-/
import Derived.Test.YthglggjgjlmhlaaHb13
import Derived.Test.YthglggjgjlmhlaaHb11
import Derived.Test.YthglggjgjlmhlaaHt1
namespace Go.Proofs.Ythglggjgjlmhlaa
open Go.RowKit
set_option linter.unusedSimpArgs false
set_option linter.unusedVariables false

def T_mHb150 : Tab := fun f => match T_plBlock f with
  | some k => some k
  | none => T_startState f
theorem T_mHb150_ok : TabOk Try.prog T_mHb150 := fun f k h => by
  unfold T_mHb150 at h
  split at h
  · rename_i e; cases h; exact T_plBlock_ok f _ e
  · exact T_startState_ok f k h
attribute [go_sem] T_mHb150 T0


def T_mHb151 : Tab := fun f => match T_mHb150 f with
  | some k => some k
  | none => T_playerOf f
theorem T_mHb151_ok : TabOk Try.prog T_mHb151 := fun f k h => by
  unfold T_mHb151 at h
  split at h
  · rename_i e; cases h; exact T_mHb150_ok f _ e
  · exact T_playerOf_ok f k h
attribute [go_sem] T_mHb151 T0


def K_implRender0 : Con := ⟨[.val ((.prod (.int .i64) (.prod (.row 24 (.row 2 (.int .i64))) (.prod (.row 140 (.prod (.int .i64) (.prod (.int .i64) (.prod (.int .i64) (.row 2 (.int .i64)))))) (.row 2 (.int .i64)))))), .val ((.row 24 (.row 2 (.int .i64)))), .val (.int .i64)], [⟨(.row 24 (.row 2 (.int .i64))), true⟩], fun x => patchB x.1 = true ∧ insOk x.1 x.2.1 ∧ inR x.2.2.1 0 1000000 = true, fun x => renderL x.1 x.2.1 (Int.toNat x.2.2.1)⟩
set_option maxRecDepth 100000 in
set_option maxHeartbeats 4000000 in
theorem implRender0_ok : PureT Try.prog 77 K_implRender0 := by
  refine pure_of_body Try.func77 rfl ?_
  have hres : Try.f77.results.toList = [.tmp 6] := rfl
  rintro ⟨⟨(pi : Int), (ts : List (List Int)), (ns : List NodeD), (os : List Int)⟩, (ins : List (List Int)), (nn : Int), _⟩ hc hL
  simp only [K_implRender0, lensOk, PK.lenOk, glensOk, GP.lenOk, flensOk, GO.lenOk, olensOk, Ty.lenOk, Ty.flat, Bool.and_true, Bool.true_and, Bool.and_false, Bool.false_and, true_and, and_true, implies_true, forall_const] at hL
  simp only [K_implRender0, St.init, St.initG, Try.ntmps77, go_sem] 
  obtain ⟨hP, hin, hnr⟩ := (show patchB (pi, ts, ns, os) = true ∧ insOk (pi, ts, ns, os) ins ∧ inR nn 0 1000000 = true from hc)
  obtain ⟨hn1, hn2⟩ := inR_iff.1 hnr
  have hF := (patchB_parts hP).1
  have hs0 := startL_ok hF
  have h00 : (0 : Int) ≤ 0 := Int.le_refl _
  have h0n : 0 + nn ≤ 1000000 := by omega
  refine AWP_seq_k fun K1 hK1 => ?_
  refine AWP_region (G := G) (T := T_mHb151) T_mHb151_ok ?_
  simp only [go_sem]
  refine hK1 _ ?_
  refine AWP_seq_k fun K2 hK2 => ?_
  refine AWP_draw (G := G) (T := T_mHb151) T_mHb151_ok mixed
    [[], [], [1], [0, 1, 2], [], [], [0, 1, 2, 3, 4, 5], [0, 1, 2, 3, 4, 5, 6]]
    [[244, 245, 246, 247, 248, 249, 250, 251, 252, 253, 254, 255, 256, 257, 258, 259, 260, 261, 262, 263], [], [], [], [244, 245, 246, 247, 248, 249, 250, 251, 252, 253, 254, 255, 256, 257, 258, 259, 260, 261, 262, 263, 264, 265, 266, 267, 268, 269, 270, 271, 272, 273, 274, 275], [244, 245, 246, 247, 248, 249, 250, 251, 252, 253, 254, 255, 256, 257, 258, 259, 260, 261, 262, 263, 264, 265, 266, 267, 268, 269, 270, 271, 272, 273, 274, 275], [], []]
    [[], [], [244, 245, 246, 247, 248, 249, 250, 251, 252, 253, 254, 255, 256, 257, 258, 259, 260, 261, 262, 263], [260, 261, 262, 263, 264, 265, 266, 267, 268, 269, 270, 271, 272, 273, 274, 275], [], [], [], []] (by kernel_rfl) (by kernel_rfl) (adrawR_ok (acc := []) ?_)
  simp (maxSteps := 2000000) only [go_sem]
  repeat (with_reducible refine And.intro (by first | exact chk_leaf (by kernel_rfl) | omega | exact ⟨rfl, by omega, by omega, by omega⟩ | exact hP | exact ⟨hP, hs0⟩ | exact ⟨hP, hs0, hin, h00, hn1, h0n⟩ | exact ⟨hP, vals0_ok _, hs0, hin, h00, hn1, h0n⟩ | exact ⟨hP, rfl, vals0_ok _, hs0, hin, h00, hn1, h0n⟩ | exact ⟨hP, hs0, hin, hn2⟩ | exact ⟨hP, hs0, hin, hn1, hn2⟩ | exact ⟨hP, hs0, hin, h00, hn1, hn2⟩ | exact ⟨hP, vals0_ok _, hs0, hin, hn2⟩ | exact ⟨hP, vals0_ok _, hs0, hin, hn1, hn2⟩ | exact ⟨hP, vals0_ok _, hs0, hin, h00, hn1, hn2⟩) ?_)
  refine hK2 _ ?_
  refine AWP_ret ?_
  simp only [hres, go_sem]
  first
    | exact finOk_mk (by rfl) (by decide)
    | refine ⟨?_, finOk_mk (by rfl) (by decide)⟩
      rfl

theorem implRender0_fn : FnOk Try.prog 77 := fnOk_of Try.func77 rfl (by decide)

def T_implRender0 : Tab := fun f => if f = 77 then some (.p K_implRender0) else T_mHb151 f
theorem T_implRender0_ok : TabOk Try.prog T_implRender0 := fun f k h => by
  unfold T_implRender0 at h
  split at h
  · rename_i e; cases h; subst e; exact ⟨implRender0_ok, implRender0_fn⟩
  · exact T_mHb151_ok f k h
attribute [go_sem] T_implRender0 K_implRender0


def K_implRender : Con := ⟨[.val ((.prod (.int .i64) (.prod (.row 24 (.row 2 (.int .i64))) (.prod (.row 140 (.prod (.int .i64) (.prod (.int .i64) (.prod (.int .i64) (.row 2 (.int .i64)))))) (.row 2 (.int .i64)))))), .val ((.row 24 (.row 2 (.int .i64)))), .val (.int .i64)], [⟨(.row 24 (.row 2 (.int .i64))), true⟩, ⟨.int .i64, true⟩], fun _ => True, fun x => renderR x.1 x.2.1 x.2.2.1⟩
set_option maxRecDepth 100000 in
set_option maxHeartbeats 4000000 in
theorem implRender_ok : PureT Try.prog 29 K_implRender := by
  refine pure_of_body Try.func29 rfl ?_
  have hres : Try.f29.results.toList = [.tmp 6, .tmp 7] := rfl
  rintro ⟨⟨(pi : Int), (ts : List (List Int)), (ns : List NodeD), (os : List Int)⟩, (ins : List (List Int)), (nn : Int), _⟩ hc hL
  simp only [K_implRender, lensOk, PK.lenOk, glensOk, GP.lenOk, flensOk, GO.lenOk, olensOk, Ty.lenOk, Ty.flat, Bool.and_true, Bool.true_and, Bool.and_false, Bool.false_and, true_and, and_true, implies_true, forall_const] at hL
  simp only [K_implRender, St.init, St.initG, Try.ntmps29, go_sem] 
  refine AWP_seq_k fun K1 hK1 => ?_
  refine AWP_region (G := G) (T := T_implRender0) T_implRender0_ok ?_
  simp only [go_sem]
  refine hK1 _ ?_
  refine AWP_seq_k fun K2 hK2 => ?_
  refine AWP_seq_k fun K3 hK3 => ?_
  refine AWP_region (G := G) (T := T_implRender0) T_implRender0_ok ?_
  simp only [go_sem]
  repeat (with_reducible refine And.intro (by first | omega | exact ⟨rfl, by omega, by omega, by omega⟩) ?_)
  refine hK3 _ ?_
  refine AWP_cond rfl ?_ ?_
  ·
   intro c0
   try simp only [decide_eq_true_eq, decide_eq_false_iff_not, Bool.not_eq_true', Bool.not_eq_false', ne_eq, Int.not_lt, Int.not_le] at c0
   refine AWP_seq_k fun K4 hK4 => ?_
   refine AWP_region (G := G) (T := T_implRender0) T_implRender0_ok ?_
   simp only [go_sem]
   refine hK4 _ ?_
   refine AWP_ret ?_
   simp only [hres, go_sem]
   first
     | exact finOk_mk (by rfl) (by decide)
     | refine ⟨?_, finOk_mk (by rfl) (by decide)⟩
       first | (rw [renderR_1 c0]; exact ⟨rfl, rfl⟩) | (rw [renderR_1 c0])
  ·
   intro c0
   try simp only [decide_eq_true_eq, decide_eq_false_iff_not, Bool.not_eq_true', Bool.not_eq_false', ne_eq, Int.not_lt, Int.not_le] at c0
   refine AWP_skip ?_
   simp only [go_sem]
   refine hK2 _ ?_
   refine AWP_seq_k fun K5 hK5 => ?_
   refine AWP_seq_k fun K6 hK6 => ?_
   refine AWP_region (G := G) (T := T_implRender0) T_implRender0_ok ?_
   simp (maxSteps := 2000000) only [go_sem]
   repeat' (first | (with_reducible refine And.intro (by first | omega | exact ⟨rfl, by omega, by omega, by omega⟩) ?_) | (with_reducible refine gcase_dt (fun g3 => ?_) (fun g3 => ?_)) | (with_reducible refine gcase_df (fun g3 => ?_) (fun g3 => ?_)) | (with_reducible refine gcase_ndt (fun g3 => ?_) (fun g3 => ?_)) | (with_reducible refine gcase_ndf (fun g3 => ?_) (fun g3 => ?_)) | (with_reducible refine gcase_nt (fun g3 => ?_) (fun g3 => ?_)) | (with_reducible refine gcase_nf (fun g3 => ?_) (fun g3 => ?_)) | (with_reducible refine gcase_mk (fun g3 => ?_) (fun g3 => ?_)))
   all_goals
    refine hK6 _ ?_
    refine AWP_cond rfl ?_ ?_
    ·
     intro c1
     try simp only [decide_eq_true_eq, decide_eq_false_iff_not, Bool.not_eq_true', Bool.not_eq_false', ne_eq, Int.not_lt, Int.not_le, Bool.true_eq_false, Bool.false_eq_true] at c1
     all_goals
      refine AWP_seq_k fun K7 hK7 => ?_
      refine AWP_region (G := G) (T := T_implRender0) T_implRender0_ok ?_
      simp only [go_sem]
      refine hK7 _ ?_
      refine AWP_ret ?_
      simp only [hres, go_sem]
      first
        | exact finOk_mk (by rfl) (by decide)
        | refine ⟨?_, finOk_mk (by rfl) (by decide)⟩
          have hq : (sigB (pi, ts, ns, os) ins && inR nn 0 4000) = false := by first | (rw [show sigB (pi, ts, ns, os) ins = false by assumption]; rfl) | (rw [show inR nn 0 4000 = false by assumption, Bool.and_false])
          first | (rw [renderR_2 c0 hq]; exact ⟨rfl, rfl⟩) | (rw [renderR_2 c0 hq])
    ·
     intro c1
     try simp only [decide_eq_true_eq, decide_eq_false_iff_not, Bool.not_eq_true', Bool.not_eq_false', ne_eq, Int.not_lt, Int.not_le, Bool.true_eq_false, Bool.false_eq_true] at c1
     all_goals
      have hsg : sigB (pi, ts, ns, os) ins = true := by assumption
      have hnz : inR nn 0 4000 = true := by assumption
      obtain ⟨hz1, hz2⟩ := inR_iff.1 hnz
      have hrc : patchB (pi, ts, ns, os) = true ∧ insOk (pi, ts, ns, os) ins ∧ inR nn 0 1000000 = true := ⟨c0, sigB_iff.1 hsg, inR_t (by omega) (by omega)⟩
      refine AWP_skip ?_
      simp only [go_sem]
      refine hK5 _ ?_
      refine AWP_seq_k fun K8 hK8 => ?_
      refine AWP_region (G := G) (T := T_implRender0) T_implRender0_ok ?_
      simp (maxSteps := 2000000) only [go_sem]
      repeat (with_reducible refine And.intro (by first | omega | exact ⟨rfl, by omega, by omega, by omega⟩ | exact hrc) ?_)
      refine hK8 _ ?_
      refine AWP_ret ?_
      simp only [hres, go_sem]
      first
        | exact finOk_mk (by rfl) (by decide)
        | refine ⟨?_, finOk_mk (by rfl) (by decide)⟩
          have hq : (sigB (pi, ts, ns, os) ins && inR nn 0 4000) = true := by rw [show sigB (pi, ts, ns, os) ins = true by assumption, show inR nn 0 4000 = true by assumption]; rfl
          first | (rw [renderR_0 c0 hq]; exact ⟨rfl, rfl⟩) | (rw [renderR_0 c0 hq])

theorem implRender_fn : FnOk Try.prog 29 := fnOk_of Try.func29 rfl (by decide)

def T_implRender : Tab := fun f => if f = 29 then some (.p K_implRender) else T_implRender0 f
theorem T_implRender_ok : TabOk Try.prog T_implRender := fun f k h => by
  unfold T_implRender at h
  split at h
  · rename_i e; cases h; subst e; exact ⟨implRender_ok, implRender_fn⟩
  · exact T_implRender0_ok f k h
attribute [go_sem] T_implRender K_implRender

end Go.Proofs.Ythglggjgjlmhlaa
