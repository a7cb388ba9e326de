/-
  Contracts of functions: l07Formed.
-/
import Derived.Test.YthglggjgjlmhlaaGb2
import Derived.Test.YthglggjgjlmhlaaGb3
namespace Go.Proofs.Ythglggjgjlmhlaa
open Go.RowKit
set_option linter.unusedSimpArgs false
set_option linter.unusedVariables false

def T_mGb40 : Tab := fun f => match T_l06Ok f with
  | some k => some k
  | none => T_l07All f
theorem T_mGb40_ok : TabOk Try.prog T_mGb40 := fun f k h => by
  unfold T_mGb40 at h
  split at h
  · rename_i e; cases h; exact T_l06Ok_ok f _ e
  · exact T_l07All_ok f k h
attribute [go_sem] T_mGb40 T0


def K_l07Formed : Con := ⟨[.ptr (.prod (.int .i64) (.prod (.row 24 (.row 2 (.int .i64))) (.prod (.row 140 (.prod (.int .i64) (.prod (.int .i64) (.prod (.int .i64) (.row 2 (.int .i64)))))) (.row 2 (.int .i64)))))], [⟨.bool, true⟩], fun _ => True, fun x => formedB x.1⟩
set_option maxRecDepth 100000 in
set_option maxHeartbeats 4000000 in
theorem l07Formed_ok : PureT Try.prog 123 K_l07Formed := by
  refine pure_of_body Try.func123 rfl ?_
  have hres : Try.f123.results.toList = [.tmp 2] := rfl
  rintro ⟨⟨(pi : Int), (ts : List (List Int)), (ns : List NodeD), (os : List Int)⟩, _⟩ hc hL
  simp only [K_l07Formed, lensOk, PK.lenOk, glensOk, GP.lenOk, flensOk, GO.lenOk, olensOk, Ty.lenOk, Ty.flat, Bool.and_true, Bool.true_and, Bool.and_false, Bool.false_and, true_and, and_true, implies_true, forall_const] at hL
  obtain ⟨⟨lts, lts2⟩, ⟨lns, lns2⟩, los⟩ := hL
  simp only [K_l07Formed, St.init, St.initG, Try.ntmps123, go_sem] 
  refine AWP_seq_k fun K1 hK1 => ?_
  refine AWP_region (G := G) (T := T_mGb40) T_mGb40_ok ?_
  simp only [go_sem]
  refine hK1 _ ?_
  refine AWP_seq_k fun K2 hK2 => ?_
  refine AWP_region (G := G) (T := T_mGb40) T_mGb40_ok ?_
  simp (maxSteps := 2000000) only [go_sem]
  repeat (with_reducible refine And.intro (by first | omega | exact ⟨rfl, by omega, by omega, by omega⟩) ?_)
  refine hK2 _ ?_
  refine AWP_seq_k fun K3 hK3 => ?_
  refine AWP_seq_k fun K4 hK4 => ?_
  refine AWP_region (G := G) (T := T_mGb40) T_mGb40_ok ?_
  simp (maxSteps := 2000000) only [go_sem]
  repeat' (first | (with_reducible refine And.intro (by first | omega | exact ⟨rfl, by omega, by omega, by omega⟩) ?_) | (with_reducible refine gcase_dt (fun g2 => ?_) (fun g2 => ?_)) | (with_reducible refine gcase_df (fun g2 => ?_) (fun g2 => ?_)) | (with_reducible refine gcase_ndt (fun g2 => ?_) (fun g2 => ?_)) | (with_reducible refine gcase_ndf (fun g2 => ?_) (fun g2 => ?_)) | (with_reducible refine gcase_nt (fun g2 => ?_) (fun g2 => ?_)) | (with_reducible refine gcase_nf (fun g2 => ?_) (fun g2 => ?_)) | (with_reducible refine gcase_mk (fun g2 => ?_) (fun g2 => ?_)))
  all_goals
   refine hK4 _ ?_
   refine AWP_cond rfl ?_ ?_
   ·
    intro c0
    try simp only [decide_eq_true_eq, decide_eq_false_iff_not, Bool.not_eq_true', Bool.not_eq_false', ne_eq, Int.not_lt, Int.not_le, Bool.true_eq_false, Bool.false_eq_true] at c0
    all_goals
     refine AWP_seq_k fun K5 hK5 => ?_
     refine AWP_region (G := G) (T := T_mGb40) T_mGb40_ok ?_
     simp only [go_sem]
     refine hK5 _ ?_
     refine AWP_ret ?_
     simp only [hres, go_sem]
     first
       | exact finOk_mk (by rfl) (by decide)
       | refine ⟨?_, finOk_mk (by rfl) (by decide)⟩
         symm
         cases hh : formedB (pi, ts, ns, os) with
         | false => rfl
         | true =>
           exfalso
           obtain ⟨p1, p2, p3, p4, p5, p6, p7⟩ := formedB_parts hh
           have p8 := inR_t p4 p5
           simp only at p1 p2 p3 p6 p8
           clear hK1 hK2 hK3 hK4 hK5
           first | omega | (simp_all; done)
   ·
    intro c0
    try simp only [decide_eq_true_eq, decide_eq_false_iff_not, Bool.not_eq_true', Bool.not_eq_false', ne_eq, Int.not_lt, Int.not_le, Bool.true_eq_false, Bool.false_eq_true] at c0
    all_goals
     have f1 : inR pi 0 4 = true := by clear hK1 hK2 hK3 hK4; simp_all
     have f2 : tabsB ts = true := by clear hK1 hK2 hK3 hK4; simp_all
     have f3 : ns.length ≤ 24 := by omega
     have f4 : os.length ≤ 4 := by omega
     have hwn : IntKind.i64.wrap ((ns.length : Int) - 1) = (ns.length : Int) - 1 := wrapI (by omega)
     refine AWP_skip ?_
     simp only [go_sem]
     refine hK3 _ ?_
     refine AWP_seq_k fun K6 hK6 => ?_
     refine AWP_seq_k fun K7 hK7 => ?_
     refine AWP_region (G := G) (T := T_mGb40) T_mGb40_ok ?_
     simp only [go_sem]
     refine hK7 _ ?_
     refine AWP_block ?_
     refine AWP_loop_k (ι := { k : Nat // k ≤ ns.length ∧ (ns.take k).all (nodeIn (pi, ts, ns, os)) = true }) (fun k => ⟨[.c (.pt [] ((.prod (.int .i64) (.prod (.row 24 (.row 2 (.int .i64))) (.prod (.row 140 (.prod (.int .i64) (.prod (.int .i64) (.prod (.int .i64) (.row 2 (.int .i64)))))) (.row 2 (.int .i64)))))) (pi, ts, ns, os) 0), zz, zz, .c (.sc (.int .i64 (ns.length))), .c (.sc (.int .i64 (k.1))), zz, zz, zz, zz, zz, zz, zz, zz, zz, zz, zz, zz, zz, zz, zz, zz, zz, zz, zz, zz, zz, zz, zz, zz, zz, zz, zz, zz, zz, zz, zz, zz, zz, zz, zz, zz, zz, zz, zz, zz, zz, zz, zz, zz, zz, zz, zz, zz, zz, zz, zz, zz, zz, zz, zz, zz, zz, zz, zz, zz, zz, zz, zz, zz, zz, zz, zz, zz, zz, zz, zz, zz, zz, zz, zz, zz, zz, zz, zz, zz, zz, zz, zz, zz, zz, zz, zz, zz, zz, zz, zz, zz, zz, zz, zz, zz, zz, zz, zz, zz, zz, zz, zz, zz, zz, zz, zz, zz, zz], []⟩) (fun k => ns.length - k.1) ⟨0, by simp⟩ ?_ ?_
     ·
      refine Wk_to (by rfl) ?_
      simp (maxSteps := 2000000) only [go_sem]
      all_goals (first | rfl | ((repeat' refine And.intro ?_ ?_) <;> first | rfl | simp))
     rintro ⟨k, hk, hp⟩ K8 hL8
     refine AWP_seq_k fun K9 hK9 => ?_
     refine AWP_seq_k fun K10 hK10 => ?_
     refine AWP_region (G := G) (T := T_mGb40) T_mGb40_ok ?_
     simp only [go_sem]
     refine hK10 _ ?_
     refine AWP_cond rfl ?_ ?_
     ·
      intro c1
      try simp only [decide_eq_true_eq, decide_eq_false_iff_not, Bool.not_eq_true', Bool.not_eq_false', ne_eq, Int.not_lt, Int.not_le, Bool.true_eq_false, Bool.false_eq_true] at c1
      all_goals
       refine AWP_skip ?_
       simp only [go_sem]
       refine hK9 _ ?_
       refine AWP_seq_k fun K11 hK11 => ?_
       refine AWP_block ?_
       refine AWP_seq_k fun K12 hK12 => ?_
       refine AWP_region (G := G) (T := T_mGb40) T_mGb40_ok ?_
       simp (maxSteps := 2000000) only [go_sem]
       repeat (with_reducible refine And.intro (by first | omega | exact ⟨rfl, by omega, by omega, by omega⟩) ?_)
       refine hK12 _ ?_
       refine AWP_seq_j (nodeB (ns.getD k ((0, 0, 0, []) : NodeD)) ts.length = true ∧ ¬ ((ns.getD k ((0, 0, 0, []) : NodeD)).1 = 1 ∧ pi ≤ (ns.getD k ((0, 0, 0, []) : NodeD)).2.1)) ⟨[.c (.pt [] ((.prod (.int .i64) (.prod (.row 24 (.row 2 (.int .i64))) (.prod (.row 140 (.prod (.int .i64) (.prod (.int .i64) (.prod (.int .i64) (.row 2 (.int .i64)))))) (.row 2 (.int .i64)))))) (pi, ts, ns, os) 0), zz, zz, .c (.sc (.int .i64 (ns.length))), .c (.sc (.int .i64 (k))), .c (.pt [] ((.prod (.int .i64) (.prod (.int .i64) (.prod (.int .i64) (.row 2 (.int .i64)))))) (ns.getD k ((0, 0, 0, []) : NodeD)) 0), zz, zz, zz, zz, zz, zz, zz, zz, zz, zz, zz, zz, zz, zz, zz, zz, zz, zz, zz, zz, zz, zz, zz, zz, zz, zz, zz, zz, zz, zz, zz, zz, zz, zz, zz, zz, zz, zz, zz, zz, zz, zz, zz, zz, zz, zz, zz, zz, zz, zz, zz, zz, zz, zz, zz, zz, zz, zz, zz, zz, zz, zz, zz, zz, zz, zz, zz, zz, zz, zz, zz, zz, zz, zz, zz, zz, zz, zz, zz, zz, zz, zz, zz, zz, zz, zz, zz, zz, zz, zz, zz, zz, zz, zz, zz, zz, zz, zz, zz, zz, zz, zz, zz, zz, zz, zz, zz, zz], []⟩ ?_ fun K13 hK13 => ?_
       ·
        intro ⟨hB, h3⟩
        refine AWP_seq_k fun K14 hK14 => ?_
        refine AWP_region (G := G) (T := T_mGb40) T_mGb40_ok ?_
        simp only [go_sem]
        refine hK14 _ ?_
        refine AWP_block ?_
        refine AWP_loop_k (ι := { m : Nat // m ≤ ((ns.getD k ((0, 0, 0, []) : NodeD)).2.2.2).length ∧ (((ns.getD k ((0, 0, 0, []) : NodeD)).2.2.2).take m).all (fun f => decide (f < (ns.length : Int))) = true }) (fun k' => ⟨[.c (.pt [] ((.prod (.int .i64) (.prod (.row 24 (.row 2 (.int .i64))) (.prod (.row 140 (.prod (.int .i64) (.prod (.int .i64) (.prod (.int .i64) (.row 2 (.int .i64)))))) (.row 2 (.int .i64)))))) (pi, ts, ns, os) 0), zz, zz, .c (.sc (.int .i64 (ns.length))), .c (.sc (.int .i64 (k))), .c (.pt [] ((.prod (.int .i64) (.prod (.int .i64) (.prod (.int .i64) (.row 2 (.int .i64)))))) (ns.getD k ((0, 0, 0, []) : NodeD)) 0), .c (.sc (.int .i64 (k'.1))), zz, zz, zz, zz, zz, zz, zz, zz, zz, zz, zz, zz, zz, zz, zz, zz, zz, zz, zz, zz, zz, zz, zz, zz, zz, zz, zz, zz, zz, zz, zz, zz, zz, zz, zz, zz, zz, zz, zz, zz, zz, zz, zz, zz, zz, zz, zz, zz, zz, zz, zz, zz, zz, zz, zz, zz, zz, zz, zz, zz, zz, zz, zz, zz, zz, zz, zz, zz, zz, zz, zz, zz, zz, zz, zz, zz, zz, zz, zz, zz, zz, zz, zz, zz, zz, zz, zz, zz, zz, zz, zz, zz, zz, zz, zz, zz, zz, zz, zz, zz, zz, zz, zz, zz, zz, zz, zz], []⟩) (fun k' => ((ns.getD k ((0, 0, 0, []) : NodeD)).2.2.2).length - k'.1) ⟨0, by simp, by simp⟩ ?_ ?_
        ·
         refine Wk_to (by rfl) ?_
         simp (maxSteps := 2000000) only [go_sem]
         all_goals (first | rfl | ((repeat' refine And.intro ?_ ?_) <;> first | rfl | simp))
        rintro ⟨m, hm, hq⟩ K15 hL15
        have hwb : ((ns.getD k ((0, 0, 0, []) : NodeD)).2.2.2).length ≤ 9223372036854775807 := lns2 _ (getD_mem (by omega))
        refine AWP_seq_k fun K16 hK16 => ?_
        refine AWP_seq_k fun K17 hK17 => ?_
        refine AWP_region (G := G) (T := T_mGb40) T_mGb40_ok ?_
        simp (maxSteps := 2000000) only [go_sem]
        repeat (with_reducible refine And.intro (by first | omega | exact ⟨rfl, by omega, by omega, by omega⟩) ?_)
        refine hK17 _ ?_
        refine AWP_cond rfl ?_ ?_
        ·
         intro c3
         try simp only [decide_eq_true_eq, decide_eq_false_iff_not, Bool.not_eq_true', Bool.not_eq_false', ne_eq, Int.not_lt, Int.not_le] at c3
         refine AWP_skip ?_
         simp only [go_sem]
         refine hK16 _ ?_
         refine AWP_seq_k fun K18 hK18 => ?_
         refine AWP_block ?_
         refine AWP_seq_k fun K19 hK19 => ?_
         refine AWP_region (G := G) (T := T_mGb40) T_mGb40_ok ?_
         simp (maxSteps := 2000000) only [go_sem]
         repeat (with_reducible refine And.intro (by first | omega | exact ⟨rfl, by omega, by omega, by omega⟩) ?_)
         refine hK19 _ ?_
         refine AWP_cond rfl ?_ ?_
         ·
          intro c4
          try simp only [decide_eq_true_eq, decide_eq_false_iff_not, Bool.not_eq_true', Bool.not_eq_false', ne_eq, Int.not_lt, Int.not_le] at c4
          refine AWP_seq_k fun K20 hK20 => ?_
          refine AWP_region (G := G) (T := T_mGb40) T_mGb40_ok ?_
          simp only [go_sem]
          refine hK20 _ ?_
          refine AWP_ret ?_
          simp only [hres, go_sem]
          first
            | exact finOk_mk (by rfl) (by decide)
            | refine ⟨?_, finOk_mk (by rfl) (by decide)⟩
              symm
              cases hh : formedB (pi, ts, ns, os) with
              | false => rfl
              | true =>
                exfalso
                obtain ⟨p1, p2, p3, p4, p5, p6, p7⟩ := formedB_parts hh
                have p8 := inR_t p4 p5
                simp only at p1 p2 p3 p6 p8
                have q := List.all_eq_true.1 p7 _ (getD_mem (d := ((0, 0, 0, []) : NodeD)) (i := k) (by show k < ns.length; omega))
                obtain ⟨q1, q2, q3⟩ := nodeIn_parts q
                have q3 : ¬ ((ns.getD k ((0, 0, 0, []) : NodeD)).1 = 1 ∧ pi ≤ (ns.getD k ((0, 0, 0, []) : NodeD)).2.1) := q3
                have q2 : idxs (ns.length : Int) (ns.getD k ((0, 0, 0, []) : NodeD)).2.2.2 = true := q2
                have q4 := idxs_at q2 (getD_mem (d := 0) (i := m) (by omega))
                omega
         ·
          intro c4
          try simp only [decide_eq_true_eq, decide_eq_false_iff_not, Bool.not_eq_true', Bool.not_eq_false', ne_eq, Int.not_lt, Int.not_le] at c4
          refine AWP_skip ?_
          simp only [go_sem]
          refine hK18 _ ?_
          refine AWP_region (G := G) (T := T_mGb40) T_mGb40_ok ?_
          simp only [go_sem]
          refine hL15 ⟨m + 1, by omega, all_next (d := 0) (by omega) hq (decide_eq_true (by omega))⟩ _ (Wk_to (by rfl) ?_) ?_
          ·
           simp (maxSteps := 2000000) only [go_sem]
           all_goals (first | rfl | ((repeat' refine And.intro ?_ ?_) <;> first | rfl | exact wk (by omega) | simp))
          ·
           first | (simp only []; omega) | omega | (simp; omega)
        ·
         intro c3
         try simp only [decide_eq_true_eq, decide_eq_false_iff_not, Bool.not_eq_true', Bool.not_eq_false', ne_eq, Int.not_lt, Int.not_le] at c3
         refine AWP_exit ?_
         simp only [go_sem]
         refine hK11 _ ?_
         refine AWP_region (G := G) (T := T_mGb40) T_mGb40_ok ?_
         simp only [go_sem]
         refine hL8 ⟨k + 1, by omega, all_next (d := ((0, 0, 0, []) : NodeD)) (by omega) hp (nodeIn_of hB h3 (fun f hf => by have := List.all_eq_true.1 (all_done hq (by omega)) f hf; simpa using this))⟩ _ (Wk_to (by rfl) ?_) ?_
         ·
          simp (maxSteps := 2000000) only [go_sem]
          first | rfl | exact wk (by omega)
         ·
          first | (simp only []; omega) | omega | (simp; omega)
       refine AWP_seq_k fun K21 hK21 => ?_
       refine AWP_draw (G := G) (T := T_mGb40) T_mGb40_ok mixed
         [[], [], [1], [1, 2], [1, 2, 3], [1, 2, 3, 4], [0, 1, 2, 3, 4, 5], [0, 1, 2, 3, 4, 5, 6], [0, 1, 2, 3, 4, 5, 6, 7], [0, 1, 2, 3, 4, 5, 6, 7, 8], [0, 1, 2, 3, 4, 5, 6, 7, 8, 9], [0, 1, 2, 3, 4, 5, 6, 7, 8, 9, 10], [0, 1, 2, 3, 4, 5, 6, 7, 8, 9, 10, 11], [0, 1, 2, 3, 4, 5, 6, 7, 8, 9, 10, 11, 12], [0, 1, 2, 3, 4, 5, 6, 7, 8, 9, 10, 11, 12, 13], [0, 1, 2, 3, 4, 5, 6, 7, 8, 9, 10, 11, 12, 13, 14], [0, 1, 2, 3, 4, 5, 6, 7, 8, 9, 10, 11, 12, 13, 14, 15], [0, 1, 2, 3, 4, 5, 6, 7, 8, 9, 10, 11, 12, 13, 14, 15, 16], [0, 1, 2, 3, 4, 5, 6, 7, 8, 9, 10, 11, 12, 13, 14, 15, 16, 17], [0, 1, 2, 3, 4, 5, 6, 7, 8, 9, 10, 11, 12, 13, 14], [0, 1, 2, 3, 4, 5, 6, 7, 8, 9, 10, 11, 12, 13, 14, 19], [0, 1, 2, 3, 4, 5, 6, 7, 8, 9, 10, 11, 12, 13, 14, 19, 20], [0, 1, 2, 3, 4, 5, 6, 7, 8, 9, 10, 11, 12, 13, 14, 19, 20, 21], [0, 1, 2, 3, 4, 5, 6, 7, 8, 9, 10, 11, 12, 13, 14, 15, 16, 17, 18, 19, 20, 21, 22], [0, 1, 2, 3, 4, 5, 6, 7, 8, 9, 10, 11, 12, 13, 14, 15, 16, 17, 18, 19, 20, 21, 22, 23], [0, 1, 2, 3, 4, 5, 6, 7, 8, 9, 10, 11, 12, 13, 14, 15, 16, 17, 18, 19, 20, 21, 22, 23, 24]]
         [[], [], [], [], [], [], [], [], [], [], [], [], [], [], [], [], [], [], [], [], [], [], [], [], [], []]
         [[], [], [], [], [], [], [], [], [], [], [], [], [], [], [], [], [], [], [], [], [], [], [], [], [], []] (by kernel_rfl) (by kernel_rfl) (adrawR_ok (acc := []) ?_)
       simp (maxSteps := 2000000) only [go_sem]
       repeat' (first | (with_reducible refine And.intro (by first | exact chk_leaf (by kernel_rfl) | omega | exact ⟨rfl, by omega, by omega, by omega⟩) ?_) | (with_reducible refine gcase_dt (fun g8 => ?_) (fun g8 => ?_)) | (with_reducible refine gcase_df (fun g8 => ?_) (fun g8 => ?_)) | (with_reducible refine gcase_ndt (fun g8 => ?_) (fun g8 => ?_)) | (with_reducible refine gcase_ndf (fun g8 => ?_) (fun g8 => ?_)) | (with_reducible refine gcase_nt (fun g8 => ?_) (fun g8 => ?_)) | (with_reducible refine gcase_nf (fun g8 => ?_) (fun g8 => ?_)) | (with_reducible refine gcase_mk (fun g8 => ?_) (fun g8 => ?_)))
       all_goals
        refine hK21 _ ?_
        refine AWP_cond rfl ?_ ?_
        ·
         intro c2
         try simp only [decide_eq_true_eq, decide_eq_false_iff_not, Bool.not_eq_true', Bool.not_eq_false', ne_eq, Int.not_lt, Int.not_le, Bool.true_eq_false, Bool.false_eq_true] at c2
         all_goals
          refine AWP_seq_k fun K22 hK22 => ?_
          refine AWP_region (G := G) (T := T_mGb40) T_mGb40_ok ?_
          simp only [go_sem]
          refine hK22 _ ?_
          refine AWP_ret ?_
          simp only [hres, go_sem]
          first
            | exact finOk_mk (by rfl) (by decide)
            | refine ⟨?_, finOk_mk (by rfl) (by decide)⟩
              symm
              cases hh : formedB (pi, ts, ns, os) with
              | false => rfl
              | true =>
                exfalso
                obtain ⟨p1, p2, p3, p4, p5, p6, p7⟩ := formedB_parts hh
                have p8 := inR_t p4 p5
                simp only at p1 p2 p3 p6 p8
                have q := List.all_eq_true.1 p7 _ (getD_mem (d := ((0, 0, 0, []) : NodeD)) (i := k) (by show k < ns.length; omega))
                obtain ⟨q1, q2, q3⟩ := nodeIn_parts q
                have q3 : ¬ ((ns.getD k ((0, 0, 0, []) : NodeD)).1 = 1 ∧ pi ≤ (ns.getD k ((0, 0, 0, []) : NodeD)).2.1) := q3
                have q2 : idxs (ns.length : Int) (ns.getD k ((0, 0, 0, []) : NodeD)).2.2.2 = true := q2
                first | omega | exact absurd q1 (by rw [Bool.not_eq_true]; assumption)
        ·
         intro c2
         try simp only [decide_eq_true_eq, decide_eq_false_iff_not, Bool.not_eq_true', Bool.not_eq_false', ne_eq, Int.not_lt, Int.not_le, Bool.true_eq_false, Bool.false_eq_true] at c2
         all_goals
          refine AWP_skip ?_
          simp only [go_sem]
          refine hK13 _ (Wk_to (by rfl) ?_) ?_
          ·
           simp (maxSteps := 2000000) only [go_sem]
           all_goals (first | rfl | ((repeat' refine And.intro ?_ ?_) <;> first | rfl | exact wk (by omega) | simp))
          ·
           exact ⟨by assumption, by omega⟩
     ·
      intro c1
      try simp only [decide_eq_true_eq, decide_eq_false_iff_not, Bool.not_eq_true', Bool.not_eq_false', ne_eq, Int.not_lt, Int.not_le, Bool.true_eq_false, Bool.false_eq_true] at c1
      all_goals
       have hN : ns.all (nodeIn (pi, ts, ns, os)) = true := all_done hp (by omega)
       refine AWP_exit ?_
       simp only [go_sem]
       refine hK6 _ ?_
       refine AWP_seq_k fun K23 hK23 => ?_
       refine AWP_seq_k fun K24 hK24 => ?_
       refine AWP_region (G := G) (T := T_mGb40) T_mGb40_ok ?_
       simp only [go_sem]
       refine hK24 _ ?_
       refine AWP_block ?_
       refine AWP_loop_k (ι := { k : Nat // k ≤ os.length ∧ (os.take k).all (fun i => inR i 0 ((ns.length : Int) - 1)) = true }) (fun k => ⟨[.c (.pt [] ((.prod (.int .i64) (.prod (.row 24 (.row 2 (.int .i64))) (.prod (.row 140 (.prod (.int .i64) (.prod (.int .i64) (.prod (.int .i64) (.row 2 (.int .i64)))))) (.row 2 (.int .i64)))))) (pi, ts, ns, os) 0), zz, zz, .c (.sc (.int .i64 (ns.length))), zz, zz, zz, .c (.sc (.int .i64 (k.1))), zz, zz, zz, zz, zz, zz, zz, zz, zz, zz, zz, zz, zz, zz, zz, zz, zz, zz, zz, zz, zz, zz, zz, zz, zz, zz, zz, zz, zz, zz, zz, zz, zz, zz, zz, zz, zz, zz, zz, zz, zz, zz, zz, zz, zz, zz, zz, zz, zz, zz, zz, zz, zz, zz, zz, zz, zz, zz, zz, zz, zz, zz, zz, zz, zz, zz, zz, zz, zz, zz, zz, zz, zz, zz, zz, zz, zz, zz, zz, zz, zz, zz, zz, zz, zz, zz, zz, zz, zz, zz, zz, zz, zz, zz, zz, zz, zz, zz, zz, zz, zz, zz, zz, zz, zz, zz], []⟩) (fun k => os.length - k.1) ⟨0, by simp⟩ ?_ ?_
       ·
        refine Wk_to (by rfl) ?_
        simp (maxSteps := 2000000) only [go_sem]
        all_goals (first | rfl | ((repeat' refine And.intro ?_ ?_) <;> first | rfl | simp))
       rintro ⟨k, hk, hp⟩ K25 hL25
       refine AWP_seq_k fun K26 hK26 => ?_
       refine AWP_seq_k fun K27 hK27 => ?_
       refine AWP_region (G := G) (T := T_mGb40) T_mGb40_ok ?_
       simp (maxSteps := 2000000) only [go_sem]
       repeat (with_reducible refine And.intro (by first | omega | exact ⟨rfl, by omega, by omega, by omega⟩) ?_)
       refine hK27 _ ?_
       refine AWP_cond rfl ?_ ?_
       ·
        intro c5
        try simp only [decide_eq_true_eq, decide_eq_false_iff_not, Bool.not_eq_true', Bool.not_eq_false', ne_eq, Int.not_lt, Int.not_le, Bool.true_eq_false, Bool.false_eq_true] at c5
        all_goals
         refine AWP_skip ?_
         simp only [go_sem]
         refine hK26 _ ?_
         refine AWP_seq_k fun K28 hK28 => ?_
         refine AWP_block ?_
         refine AWP_seq_k fun K29 hK29 => ?_
         refine AWP_region (G := G) (T := T_mGb40) T_mGb40_ok ?_
         simp (maxSteps := 2000000) only [hwn, go_sem]
         repeat (with_reducible refine And.intro (by first | omega | exact ⟨rfl, by omega, by omega, by omega⟩) ?_)
         refine hK29 _ ?_
         refine AWP_cond rfl ?_ ?_
         ·
          intro c6
          try simp only [decide_eq_true_eq, decide_eq_false_iff_not, Bool.not_eq_true', Bool.not_eq_false', ne_eq, Int.not_lt, Int.not_le, Bool.true_eq_false, Bool.false_eq_true] at c6
          all_goals
           refine AWP_seq_k fun K30 hK30 => ?_
           refine AWP_region (G := G) (T := T_mGb40) T_mGb40_ok ?_
           simp only [go_sem]
           refine hK30 _ ?_
           refine AWP_ret ?_
           simp only [hres, go_sem]
           first
             | exact finOk_mk (by rfl) (by decide)
             | refine ⟨?_, finOk_mk (by rfl) (by decide)⟩
               symm
               cases hh : formedB (pi, ts, ns, os) with
               | false => rfl
               | true =>
                 exfalso
                 obtain ⟨p1, p2, p3, p4, p5, p6, p7⟩ := formedB_parts hh
                 have p8 := inR_t p4 p5
                 simp only at p1 p2 p3 p6 p8
                 have q4 := List.all_eq_true.1 p6 _ (getD_mem (d := 0) (i := k) (by omega))
                 simp_all
         ·
          intro c6
          try simp only [decide_eq_true_eq, decide_eq_false_iff_not, Bool.not_eq_true', Bool.not_eq_false', ne_eq, Int.not_lt, Int.not_le, Bool.true_eq_false, Bool.false_eq_true] at c6
          all_goals
           refine AWP_skip ?_
           simp only [go_sem]
           refine hK28 _ ?_
           refine AWP_region (G := G) (T := T_mGb40) T_mGb40_ok ?_
           simp only [go_sem]
           refine hL25 ⟨k + 1, by omega, all_next (d := 0) (by omega) hp (by first | assumption | (clear hK1 hK2 hK3 hK4 hK6 hK7 hL8 hK9 hK10 hK23 hK24 hL25 hK26 hK27 hK28 hK29; simp_all))⟩ _ (Wk_to (by rfl) ?_) ?_
           ·
            simp (maxSteps := 2000000) only [go_sem]
            first | rfl | exact wk (by omega)
           ·
            first | (simp only []; omega) | omega | (simp; omega)
       ·
        intro c5
        try simp only [decide_eq_true_eq, decide_eq_false_iff_not, Bool.not_eq_true', Bool.not_eq_false', ne_eq, Int.not_lt, Int.not_le, Bool.true_eq_false, Bool.false_eq_true] at c5
        all_goals
         refine AWP_exit ?_
         simp only [go_sem]
         refine hK23 _ ?_
         refine AWP_seq_k fun K31 hK31 => ?_
         refine AWP_region (G := G) (T := T_mGb40) T_mGb40_ok ?_
         simp only [go_sem]
         refine hK31 _ ?_
         refine AWP_ret ?_
         simp only [hres, go_sem]
         first
           | exact finOk_mk (by rfl) (by decide)
           | refine ⟨?_, finOk_mk (by rfl) (by decide)⟩
             have hO : idxs (ns.length : Int) os = true := all_done hp (by omega)
             unfold formedB
             simp only [f1, f2, decide_eq_true f3, decide_eq_true f4, hN, hO, Bool.true_and]

theorem l07Formed_fn : FnOk Try.prog 123 := fnOk_of Try.func123 rfl (by decide)

def T_l07Formed : Tab := fun f => if f = 123 then some (.p K_l07Formed) else T_mGb40 f
theorem T_l07Formed_ok : TabOk Try.prog T_l07Formed := fun f k h => by
  unfold T_l07Formed at h
  split at h
  · rename_i e; cases h; subst e; exact ⟨l07Formed_ok, l07Formed_fn⟩
  · exact T_mGb40_ok f k h
attribute [go_sem] T_l07Formed K_l07Formed

end Go.Proofs.Ythglggjgjlmhlaa
