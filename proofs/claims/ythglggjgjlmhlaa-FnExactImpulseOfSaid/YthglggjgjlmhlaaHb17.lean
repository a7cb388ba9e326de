/-
  Contracts of functions: ImpulseOf, l08Impulse, ImpulseOf.
-/
import Derived.Test.YthglggjgjlmhlaaHb15
import Derived.Test.YthglggjgjlmhlaaHb16
import Derived.Test.YthglggjgjlmhlaaPi
import Derived.Test.YthglggjgjlmhlaaGp
namespace Go.Proofs.Ythglggjgjlmhlaa
open Go.RowKit
set_option linter.unusedSimpArgs false
set_option linter.unusedVariables false

def T_mHb170 : Tab := fun f => match T_implRender f with
  | some k => some k
  | none => T_specRender f
theorem T_mHb170_ok : TabOk Try.prog T_mHb170 := fun f k h => by
  unfold T_mHb170 at h
  split at h
  · rename_i e; cases h; exact T_implRender_ok f _ e
  · exact T_specRender_ok f k h
attribute [go_sem] T_mHb170 T0


def K_implImp : Con := ⟨[.val ((.prod (.int .i64) (.prod (.row 24 (.row 2 (.int .i64))) (.prod (.row 140 (.prod (.int .i64) (.prod (.int .i64) (.prod (.int .i64) (.row 2 (.int .i64)))))) (.row 2 (.int .i64)))))), .val (.int .i64), .val (.int .i64), .val (.int .i64)], [⟨(.row 2 (.int .i64)), true⟩, ⟨.int .i64, true⟩], fun _ => True, fun x => impR x.1 x.2.1 x.2.2.1 x.2.2.2.1⟩
set_option maxRecDepth 100000 in
set_option maxHeartbeats 4000000 in
theorem implImp_ok : PureT Try.prog 34 K_implImp := by
  refine pure_of_body Try.func34 rfl ?_
  have hres : Try.f34.results.toList = [.tmp 8, .tmp 9] := rfl
  rintro ⟨⟨(pi : Int), (ts : List (List Int)), (ns : List NodeD), (os : List Int)⟩, (ii : Int), (oi : Int), (nn : Int), _⟩ hc hL
  simp only [K_implImp, lensOk, PK.lenOk, glensOk, GP.lenOk, flensOk, GO.lenOk, olensOk, Ty.lenOk, Ty.flat, Bool.and_true, Bool.true_and, Bool.and_false, Bool.false_and, true_and, and_true, implies_true, forall_const] at hL
  simp only [K_implImp, St.init, St.initG, Try.ntmps34, go_sem] 
  refine AWP_seq_k fun K1 hK1 => ?_
  refine AWP_region (G := G) (T := T_mHb170) T_mHb170_ok ?_
  simp only [go_sem]
  refine hK1 _ ?_
  refine AWP_seq_k fun K2 hK2 => ?_
  refine AWP_seq_k fun K3 hK3 => ?_
  refine AWP_region (G := G) (T := T_mHb170) T_mHb170_ok ?_
  simp only [go_sem]
  repeat (with_reducible refine And.intro (by first | omega | exact ⟨rfl, by omega, by omega, by omega⟩) ?_)
  refine hK3 _ ?_
  refine AWP_cond rfl ?_ ?_
  ·
   intro c0
   try simp only [decide_eq_true_eq, decide_eq_false_iff_not, Bool.not_eq_true', Bool.not_eq_false', ne_eq, Int.not_lt, Int.not_le] at c0
   refine AWP_seq_k fun K4 hK4 => ?_
   refine AWP_region (G := G) (T := T_mHb170) T_mHb170_ok ?_
   simp only [go_sem]
   refine hK4 _ ?_
   refine AWP_ret ?_
   simp only [hres, go_sem]
   first
     | exact finOk_mk (by rfl) (by decide)
     | refine ⟨?_, finOk_mk (by rfl) (by decide)⟩
       first | (rw [impR_1 c0]; exact ⟨rfl, rfl⟩) | (rw [impR_1 c0])
  ·
   intro c0
   try simp only [decide_eq_true_eq, decide_eq_false_iff_not, Bool.not_eq_true', Bool.not_eq_false', ne_eq, Int.not_lt, Int.not_le] at c0
   have hF := (patchB_parts c0).1
   have hpi0 : 0 ≤ pi ∧ pi ≤ 4 := ⟨(formedB_parts hF).2.2.2.1, (formedB_parts hF).2.2.2.2.1⟩
   have ho4 : os.length ≤ 4 := (formedB_parts hF).2.1
   have hwp : IntKind.i64.wrap (pi - 1) = pi - 1 := wrapI (by omega)
   have hwo : IntKind.i64.wrap ((os.length : Int) - 1) = os.length - 1 := wrapI (by omega)
   refine AWP_skip ?_
   simp only [go_sem]
   refine hK2 _ ?_
   refine AWP_seq_k fun K5 hK5 => ?_
   refine AWP_seq_k fun K6 hK6 => ?_
   refine AWP_region (G := G) (T := T_mHb170) T_mHb170_ok ?_
   simp (maxSteps := 2000000) only [hwp, hwo, go_sem]
   repeat' (first | (with_reducible refine And.intro (by first | omega | exact ⟨rfl, by omega, by omega, by omega⟩) ?_) | (with_reducible refine gcase_dt (fun g3 => ?_) (fun g3 => ?_)) | (with_reducible refine gcase_df (fun g3 => ?_) (fun g3 => ?_)) | (with_reducible refine gcase_ndt (fun g3 => ?_) (fun g3 => ?_)) | (with_reducible refine gcase_ndf (fun g3 => ?_) (fun g3 => ?_)) | (with_reducible refine gcase_nt (fun g3 => ?_) (fun g3 => ?_)) | (with_reducible refine gcase_nf (fun g3 => ?_) (fun g3 => ?_)) | (with_reducible refine gcase_mk (fun g3 => ?_) (fun g3 => ?_)))
   all_goals
    refine hK6 _ ?_
    refine AWP_cond rfl ?_ ?_
    ·
     intro c1
     try simp only [decide_eq_true_eq, decide_eq_false_iff_not, Bool.not_eq_true', Bool.not_eq_false', ne_eq, Int.not_lt, Int.not_le, Bool.true_eq_false, Bool.false_eq_true] at c1
     all_goals
      refine AWP_seq_k fun K7 hK7 => ?_
      refine AWP_region (G := G) (T := T_mHb170) T_mHb170_ok ?_
      simp only [go_sem]
      refine hK7 _ ?_
      refine AWP_ret ?_
      simp only [hres, go_sem]
      first
        | exact finOk_mk (by rfl) (by decide)
        | refine ⟨?_, finOk_mk (by rfl) (by decide)⟩
          have hK : (inR ii 0 (pi - 1) && (inR oi 0 ((os.length : Int) - 1) && inR nn 0 4000)) = false := by first | (rw [show inR ii 0 (pi - 1) = false by assumption]; rfl) | (rw [show inR oi 0 ((os.length : Int) - 1) = false by assumption, Bool.false_and, Bool.and_false]) | (rw [show inR nn 0 4000 = false by assumption, Bool.and_false, Bool.and_false])
          first | (rw [impR_2 c0 hK]; exact ⟨rfl, rfl⟩) | (rw [impR_2 c0 hK])
    ·
     intro c1
     try simp only [decide_eq_true_eq, decide_eq_false_iff_not, Bool.not_eq_true', Bool.not_eq_false', ne_eq, Int.not_lt, Int.not_le, Bool.true_eq_false, Bool.false_eq_true] at c1
     all_goals
      have hk1 : inR ii 0 (pi - 1) = true := by assumption
      have hk2 : inR oi 0 ((os.length : Int) - 1) = true := by assumption
      have hk3 : inR nn 0 4000 = true := by assumption
      have hK : (inR ii 0 (pi - 1) && (inR oi 0 ((os.length : Int) - 1) && inR nn 0 4000)) = true := by rw [hk1, hk2, hk3]; rfl
      obtain ⟨q1, q2⟩ := inR_iff.1 hk1
      obtain ⟨q3, q4⟩ := inR_iff.1 hk2
      obtain ⟨q5, q6⟩ := inR_iff.1 hk3
      have hio : insOk (pi, ts, ns, os) (impIn pi ii) := impIn_ok (p := (pi, ts, ns, os)) hpi0.1
      have hrc : patchB (pi, ts, ns, os) = true ∧ insOk (pi, ts, ns, os) (impIn pi ii) ∧ inR nn 0 1000000 = true := ⟨c0, hio, inR_t (by omega) (by omega)⟩
      have hll : (renderL (pi, ts, ns, os) (impIn pi ii) nn.toNat).length = os.length := renderL_len hF hio _
      have hq2 : ii < pi := by omega
      have hrl : (List.replicate pi.toNat ([] : List Int)).length = pi.toNat := List.length_replicate
      have himp : (List.replicate pi.toNat ([] : List Int)).set ii.toNat [1] = impIn pi ii := rfl
      refine AWP_skip ?_
      simp only [go_sem]
      refine hK5 _ ?_
      refine AWP_seq_k fun K8 hK8 => ?_
      refine AWP_region (G := G) (T := T_mHb170) T_mHb170_ok ?_
      simp only [List.nodup_nil, go_sem]
      repeat (with_reducible refine And.intro (by first | omega | exact ⟨rfl, by omega, by omega, by omega⟩ | exact ⟨by omega, by omega⟩) ?_)
      refine hK8 _ ?_
      refine AWP_seq_k fun K9 hK9 => ?_
      refine AWP_region (G := G) (T := T_mHb170) T_mHb170_ok ?_
      simp (maxSteps := 2000000) only [List.nodup_cons, List.nodup_nil, List.not_mem_nil, not_false_eq_true, go_sem]
      repeat (with_reducible refine And.intro (by first | omega | exact ⟨rfl, by omega, by omega, by omega⟩ | exact ⟨by omega, by omega⟩ | omega) ?_)
      refine hK9 _ ?_
      refine AWP_seq_k fun K10 hK10 => ?_
      refine AWP_region (G := G) (T := T_mHb170) T_mHb170_ok ?_
      simp (maxSteps := 2000000) only [himp, hll, go_sem]
      repeat (with_reducible refine And.intro (by first | omega | exact ⟨rfl, by omega, by omega, by omega⟩ | exact hrc) ?_)
      refine hK10 _ ?_
      refine AWP_takeT 8 9001 ?_
      simp (maxSteps := 2000000) only [go_sem]
      repeat (with_reducible refine And.intro (by first | omega | decide) ?_)
      refine AWP_ret ?_
      simp only [hres, go_sem]
      first
        | exact finOk_mk (by rfl) (by decide)
        | refine ⟨?_, finOk_mk (by rfl) (by decide)⟩
          first | (rw [impR_0 c0 hK]; exact ⟨rfl, rfl⟩) | (rw [impR_0 c0 hK])

theorem implImp_fn : FnOk Try.prog 34 := fnOk_of Try.func34 rfl (by decide)

def T_implImp : Tab := fun f => if f = 34 then some (.p K_implImp) else T_mHb170 f
theorem T_implImp_ok : TabOk Try.prog T_implImp := fun f k h => by
  unfold T_implImp at h
  split at h
  · rename_i e; cases h; subst e; exact ⟨implImp_ok, implImp_fn⟩
  · exact T_mHb170_ok f k h
attribute [go_sem] T_implImp K_implImp


def K_l08Impulse : Con := ⟨[.ptr (.prod (.int .i64) (.prod (.row 24 (.row 2 (.int .i64))) (.prod (.row 140 (.prod (.int .i64) (.prod (.int .i64) (.prod (.int .i64) (.row 2 (.int .i64)))))) (.row 2 (.int .i64))))), .val (.int .i64)], [⟨(.row 24 (.row 2 (.int .i64))), true⟩], fun x => 0 ≤ x.2.1 ∧ x.2.1 < x.1.1 ∧ x.1.1 ≤ 4, fun x => impIn x.1.1 x.2.1⟩
set_option maxRecDepth 100000 in
set_option maxHeartbeats 1000000 in
theorem l08Impulse_ok : PureT Try.prog 78 K_l08Impulse := by
  refine pure_of_body Try.func78 rfl ?_
  have hres : Try.f78.results.toList = [.tmp 4] := rfl
  rintro ⟨⟨(pi : Int), (ts : List (List Int)), (ns : List NodeD), (os : List Int)⟩, (ii : Int), _⟩ hc hL
  simp only [K_l08Impulse, lensOk, PK.lenOk, glensOk, GP.lenOk, flensOk, GO.lenOk, olensOk, Ty.lenOk, Ty.flat, Bool.and_true, Bool.true_and, Bool.and_false, Bool.false_and, true_and, and_true, implies_true, forall_const] at hL
  simp only [K_l08Impulse, St.init, St.initG, Try.ntmps78, go_sem] 
  obtain ⟨h1, h2, h3⟩ := (show 0 ≤ ii ∧ ii < pi ∧ pi ≤ 4 from hc)
  have hrl : (List.replicate pi.toNat ([] : List Int)).length = pi.toNat := List.length_replicate
  refine AWP_seq_k fun K1 hK1 => ?_
  refine AWP_region (G := G) (T := T_implImp) T_implImp_ok ?_
  simp only [go_sem]
  refine hK1 _ ?_
  refine AWP_seq_k fun K2 hK2 => ?_
  refine AWP_region (G := G) (T := T_implImp) T_implImp_ok ?_
  simp (maxSteps := 2000000) only [List.nodup_nil, go_sem]
  repeat (with_reducible refine And.intro (by first | omega | exact ⟨rfl, by omega, by omega, by omega⟩ | exact ⟨by omega, by omega⟩) ?_)
  refine hK2 _ ?_
  refine AWP_seq_k fun K3 hK3 => ?_
  refine AWP_region (G := G) (T := T_implImp) T_implImp_ok ?_
  simp (maxSteps := 2000000) only [List.nodup_cons, List.nodup_nil, List.not_mem_nil, not_false_eq_true, go_sem]
  repeat (with_reducible refine And.intro (by first | omega | exact ⟨rfl, by omega, by omega, by omega⟩ | exact ⟨by omega, by omega⟩ | omega) ?_)
  refine hK3 _ ?_
  refine AWP_seq_k fun K4 hK4 => ?_
  refine AWP_region (G := G) (T := T_implImp) T_implImp_ok ?_
  simp only [go_sem]
  refine hK4 _ ?_
  refine AWP_ret ?_
  simp only [hres, go_sem]
  first
    | exact finOk_mk (by rfl) (by decide)
    | refine ⟨?_, finOk_mk (by rfl) (by decide)⟩
      rfl

theorem l08Impulse_fn : FnOk Try.prog 78 := fnOk_of Try.func78 rfl (by decide)

def T_l08Impulse : Tab := fun f => if f = 78 then some (.p K_l08Impulse) else T_implImp f
theorem T_l08Impulse_ok : TabOk Try.prog T_l08Impulse := fun f k h => by
  unfold T_l08Impulse at h
  split at h
  · rename_i e; cases h; subst e; exact ⟨l08Impulse_ok, l08Impulse_fn⟩
  · exact T_implImp_ok f k h
attribute [go_sem] T_l08Impulse K_l08Impulse


def K_specImp : Con := ⟨[.val ((.prod (.int .i64) (.prod (.row 24 (.row 2 (.int .i64))) (.prod (.row 140 (.prod (.int .i64) (.prod (.int .i64) (.prod (.int .i64) (.row 2 (.int .i64)))))) (.row 2 (.int .i64)))))), .val (.int .i64), .val (.int .i64), .val (.int .i64)], [⟨(.row 2 (.int .i64)), true⟩, ⟨.int .i64, true⟩], fun _ => True, fun x => impR x.1 x.2.1 x.2.2.1 x.2.2.2.1⟩
set_option maxRecDepth 100000 in
set_option maxHeartbeats 4000000 in
theorem specImp_ok : PureT Try.prog 33 K_specImp := by
  refine pure_of_body Try.func33 rfl ?_
  have hres : Try.f33.results.toList = [.tmp 8, .tmp 9] := rfl
  rintro ⟨⟨(pi : Int), (ts : List (List Int)), (ns : List NodeD), (os : List Int)⟩, (ii : Int), (oi : Int), (nn : Int), _⟩ hc hL
  simp only [K_specImp, lensOk, PK.lenOk, glensOk, GP.lenOk, flensOk, GO.lenOk, olensOk, Ty.lenOk, Ty.flat, Bool.and_true, Bool.true_and, Bool.and_false, Bool.false_and, true_and, and_true, implies_true, forall_const] at hL
  simp only [K_specImp, St.init, St.initG, Try.ntmps33, go_sem] 
  refine AWP_seq_k fun K1 hK1 => ?_
  refine AWP_region (G := G) (T := T_l08Impulse) T_l08Impulse_ok ?_
  simp only [go_sem]
  refine hK1 _ ?_
  refine AWP_seq_k fun K2 hK2 => ?_
  refine AWP_seq_k fun K3 hK3 => ?_
  refine AWP_region (G := G) (T := T_l08Impulse) T_l08Impulse_ok ?_
  simp only [go_sem]
  repeat (with_reducible refine And.intro (by first | omega | exact ⟨rfl, by omega, by omega, by omega⟩) ?_)
  refine hK3 _ ?_
  refine AWP_cond rfl ?_ ?_
  ·
   intro c0
   try simp only [decide_eq_true_eq, decide_eq_false_iff_not, Bool.not_eq_true', Bool.not_eq_false', ne_eq, Int.not_lt, Int.not_le] at c0
   refine AWP_seq_k fun K4 hK4 => ?_
   refine AWP_region (G := G) (T := T_l08Impulse) T_l08Impulse_ok ?_
   simp only [go_sem]
   refine hK4 _ ?_
   refine AWP_ret ?_
   simp only [hres, go_sem]
   first
     | exact finOk_mk (by rfl) (by decide)
     | refine ⟨?_, finOk_mk (by rfl) (by decide)⟩
       first | (rw [impR_1 c0]; exact ⟨rfl, rfl⟩) | (rw [impR_1 c0])
  ·
   intro c0
   try simp only [decide_eq_true_eq, decide_eq_false_iff_not, Bool.not_eq_true', Bool.not_eq_false', ne_eq, Int.not_lt, Int.not_le] at c0
   have hF := (patchB_parts c0).1
   have hpi0 : 0 ≤ pi ∧ pi ≤ 4 := ⟨(formedB_parts hF).2.2.2.1, (formedB_parts hF).2.2.2.2.1⟩
   have ho4 : os.length ≤ 4 := (formedB_parts hF).2.1
   have hwp : IntKind.i64.wrap (pi - 1) = pi - 1 := wrapI (by omega)
   have hwo : IntKind.i64.wrap ((os.length : Int) - 1) = os.length - 1 := wrapI (by omega)
   refine AWP_skip ?_
   simp only [go_sem]
   refine hK2 _ ?_
   refine AWP_seq_k fun K5 hK5 => ?_
   refine AWP_seq_k fun K6 hK6 => ?_
   refine AWP_region (G := G) (T := T_l08Impulse) T_l08Impulse_ok ?_
   simp (maxSteps := 2000000) only [hwp, hwo, go_sem]
   repeat' (first | (with_reducible refine And.intro (by first | omega | exact ⟨rfl, by omega, by omega, by omega⟩) ?_) | (with_reducible refine gcase_dt (fun g3 => ?_) (fun g3 => ?_)) | (with_reducible refine gcase_df (fun g3 => ?_) (fun g3 => ?_)) | (with_reducible refine gcase_ndt (fun g3 => ?_) (fun g3 => ?_)) | (with_reducible refine gcase_ndf (fun g3 => ?_) (fun g3 => ?_)) | (with_reducible refine gcase_nt (fun g3 => ?_) (fun g3 => ?_)) | (with_reducible refine gcase_nf (fun g3 => ?_) (fun g3 => ?_)) | (with_reducible refine gcase_mk (fun g3 => ?_) (fun g3 => ?_)))
   all_goals
    refine hK6 _ ?_
    refine AWP_cond rfl ?_ ?_
    ·
     intro c1
     try simp only [decide_eq_true_eq, decide_eq_false_iff_not, Bool.not_eq_true', Bool.not_eq_false', ne_eq, Int.not_lt, Int.not_le, Bool.true_eq_false, Bool.false_eq_true] at c1
     all_goals
      refine AWP_seq_k fun K7 hK7 => ?_
      refine AWP_region (G := G) (T := T_l08Impulse) T_l08Impulse_ok ?_
      simp only [go_sem]
      refine hK7 _ ?_
      refine AWP_ret ?_
      simp only [hres, go_sem]
      first
        | exact finOk_mk (by rfl) (by decide)
        | refine ⟨?_, finOk_mk (by rfl) (by decide)⟩
          have hK : (inR ii 0 (pi - 1) && (inR oi 0 ((os.length : Int) - 1) && inR nn 0 4000)) = false := by first | (rw [show inR ii 0 (pi - 1) = false by assumption]; rfl) | (rw [show inR oi 0 ((os.length : Int) - 1) = false by assumption, Bool.false_and, Bool.and_false]) | (rw [show inR nn 0 4000 = false by assumption, Bool.and_false, Bool.and_false])
          first | (rw [impR_2 c0 hK]; exact ⟨rfl, rfl⟩) | (rw [impR_2 c0 hK])
    ·
     intro c1
     try simp only [decide_eq_true_eq, decide_eq_false_iff_not, Bool.not_eq_true', Bool.not_eq_false', ne_eq, Int.not_lt, Int.not_le, Bool.true_eq_false, Bool.false_eq_true] at c1
     all_goals
      have hk1 : inR ii 0 (pi - 1) = true := by assumption
      have hk2 : inR oi 0 ((os.length : Int) - 1) = true := by assumption
      have hk3 : inR nn 0 4000 = true := by assumption
      have hK : (inR ii 0 (pi - 1) && (inR oi 0 ((os.length : Int) - 1) && inR nn 0 4000)) = true := by rw [hk1, hk2, hk3]; rfl
      obtain ⟨q1, q2⟩ := inR_iff.1 hk1
      obtain ⟨q3, q4⟩ := inR_iff.1 hk2
      obtain ⟨q5, q6⟩ := inR_iff.1 hk3
      have hio : insOk (pi, ts, ns, os) (impIn pi ii) := impIn_ok (p := (pi, ts, ns, os)) hpi0.1
      have hrc : patchB (pi, ts, ns, os) = true ∧ insOk (pi, ts, ns, os) (impIn pi ii) ∧ inR nn 0 1000000 = true := ⟨c0, hio, inR_t (by omega) (by omega)⟩
      have hll : (renderL (pi, ts, ns, os) (impIn pi ii) nn.toNat).length = os.length := renderL_len hF hio _
      have hq2 : ii < pi := by omega
      have hrl : (List.replicate pi.toNat ([] : List Int)).length = pi.toNat := List.length_replicate
      have himp : (List.replicate pi.toNat ([] : List Int)).set ii.toNat [1] = impIn pi ii := rfl
      refine AWP_skip ?_
      simp only [go_sem]
      refine hK5 _ ?_
      refine AWP_seq_k fun K8 hK8 => ?_
      refine AWP_region (G := G) (T := T_l08Impulse) T_l08Impulse_ok ?_
      simp (maxSteps := 2000000) only [hll, go_sem]
      repeat (with_reducible refine And.intro (by first | omega | exact ⟨rfl, by omega, by omega, by omega⟩ | exact ⟨q1, hq2, hpi0.2⟩ | exact hrc) ?_)
      refine hK8 _ ?_
      refine AWP_takeT 8 9001 ?_
      simp (maxSteps := 2000000) only [go_sem]
      repeat (with_reducible refine And.intro (by first | omega | decide) ?_)
      refine AWP_ret ?_
      simp only [hres, go_sem]
      first
        | exact finOk_mk (by rfl) (by decide)
        | refine ⟨?_, finOk_mk (by rfl) (by decide)⟩
          first | (rw [impR_0 c0 hK]; exact ⟨rfl, rfl⟩) | (rw [impR_0 c0 hK])

theorem specImp_fn : FnOk Try.prog 33 := fnOk_of Try.func33 rfl (by decide)

def T_specImp : Tab := fun f => if f = 33 then some (.p K_specImp) else T_l08Impulse f
theorem T_specImp_ok : TabOk Try.prog T_specImp := fun f k h => by
  unfold T_specImp at h
  split at h
  · rename_i e; cases h; subst e; exact ⟨specImp_ok, specImp_fn⟩
  · exact T_l08Impulse_ok f k h
attribute [go_sem] T_specImp K_specImp

end Go.Proofs.Ythglggjgjlmhlaa
