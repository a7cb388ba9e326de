/-
  Contracts of functions: MatchNodes.
-/
import Derived.Test.YthfopaimihmgiaaGreatHc5
import Derived.Test.YthfopaimihmgiaaGreatGb6
import Derived.Test.YthfopaimihmgiaaGreatHb2
import Derived.Test.YthfopaimihmgiaaGreatPs
namespace Go.Proofs.YthfopaimihmgiaaGreat
open Go.RowKit
set_option linter.unusedSimpArgs false
set_option linter.unusedVariables false

def T_mHc110 : Tab := fun f => match T_l12Classes f with
  | some k => some k
  | none => T_l12Ask f
theorem T_mHc110_ok : TabOk Tryz.prog T_mHc110 := fun f k h => by
  unfold T_mHc110 at h
  split at h
  · rename_i e; cases h; exact T_l12Classes_ok f _ e
  · exact T_l12Ask_ok f k h
attribute [go_sem] T_mHc110 T0


def T_mHc111 : Tab := fun f => match T_mHc110 f with
  | some k => some k
  | none => T_l12Unite f
theorem T_mHc111_ok : TabOk Tryz.prog T_mHc111 := fun f k h => by
  unfold T_mHc111 at h
  split at h
  · rename_i e; cases h; exact T_mHc110_ok f _ e
  · exact T_l12Unite_ok f k h
attribute [go_sem] T_mHc111 T0


def K_specMatch : Con := ⟨[.val ((.prod (.int .i64) (.prod (.row 24 (.row 2 (.int .i64))) (.prod (.row 102 (.prod (.int .i64) (.prod (.int .i64) (.prod (.int .i64) (.row 2 (.int .i64)))))) (.row 2 (.int .i64)))))), .val ((.prod (.int .i64) (.prod (.row 24 (.row 2 (.int .i64))) (.prod (.row 102 (.prod (.int .i64) (.prod (.int .i64) (.prod (.int .i64) (.row 2 (.int .i64)))))) (.row 2 (.int .i64))))))], [⟨(.row 2 (.int .i64)), true⟩, ⟨.int .i64, true⟩], fun _ => True, fun x => matchR x.1 x.2.1⟩
set_option maxRecDepth 100000 in
set_option maxHeartbeats 8000000 in
theorem specMatch_ok : PureT Tryz.prog 11 K_specMatch := by
  refine pure_of_body Tryz.func11 rfl ?_
  have hres : Tryz.f11.results.toList = [.tmp 4, .tmp 5] := rfl
  rintro ⟨⟨(pi : Int), (ts : List (List Int)), (ns : List NodeD), (os : List Int)⟩, ⟨(pi2 : Int), (ts2 : List (List Int)), (ns2 : List NodeD), (os2 : List Int)⟩, _⟩ hc hL
  simp only [K_specMatch, lensOk, PK.lenOk, glensOk, GP.lenOk, flensOk, GO.lenOk, olensOk, Ty.lenOk, Ty.flat, Bool.and_true, Bool.true_and, Bool.and_false, Bool.false_and, true_and, and_true, implies_true, forall_const] at hL
  simp only [K_specMatch, St.init, St.initG, Tryz.ntmps11, go_sem] 
  refine AWP_seq_k fun K1 hK1 => ?_
  refine AWP_region (G := G) (T := T_mHc111) T_mHc111_ok ?_
  simp only [go_sem]
  refine hK1 _ ?_
  refine AWP_seq_k fun K2 hK2 => ?_
  refine AWP_seq_k fun K3 hK3 => ?_
  refine AWP_region (G := G) (T := T_mHc111) T_mHc111_ok ?_
  simp only [go_sem]
  repeat (with_reducible refine And.intro (by first | omega | exact ⟨rfl, by omega, by omega, by omega⟩) ?_)
  refine hK3 _ ?_
  refine AWP_seq_k fun K4 hK4 => ?_
  refine AWP_region (G := G) (T := T_mHc111) T_mHc111_ok ?_
  simp only [go_sem]
  refine hK4 _ ?_
  refine AWP_cond rfl ?_ ?_
  ·
   intro c0
   try simp only [decide_eq_true_eq, decide_eq_false_iff_not, Bool.not_eq_true', Bool.not_eq_false', ne_eq, Int.not_lt, Int.not_le] at c0
   refine AWP_seq_k fun K5 hK5 => ?_
   refine AWP_region (G := G) (T := T_mHc111) T_mHc111_ok ?_
   simp only [go_sem]
   refine hK5 _ ?_
   refine AWP_ret ?_
   simp only [hres, go_sem]
   first
     | exact finOk_mk (by rfl) (by decide)
     | refine ⟨?_, finOk_mk (by rfl) (by decide)⟩
       first | (rw [matchR_f c0]; exact ⟨rfl, rfl⟩) | (rw [matchR_f c0])
  ·
   intro c0
   try simp only [decide_eq_true_eq, decide_eq_false_iff_not, Bool.not_eq_true', Bool.not_eq_false', ne_eq, Int.not_lt, Int.not_le] at c0
   obtain ⟨a1, a2, a3⟩ := ask2_ok c0
   have hsm : smallPs [(pi, ts, ns, os), (pi2, ts2, ns2, os2)] := ⟨by simp, fun p hp => by simp only [List.mem_cons, List.not_mem_nil, or_false] at hp; rcases hp with rfl | rfl; exact smallP_of a1; exact smallP_of a2⟩
   have hun : uniteL [(pi, ts, ns, os), (pi2, ts2, ns2, os2)] = (l12U (pi, ts, ns, os) (pi2, ts2, ns2, os2)).2 := congrArg Prod.snd (unite_two (p := (pi, ts, ns, os)) (q := (pi2, ts2, ns2, os2)) a1)
   have hU : uOk (l12U (pi, ts, ns, os) (pi2, ts2, ns2, os2)).2.1 (l12U (pi, ts, ns, os) (pi2, ts2, ns2, os2)).2.2.1 := uOk_two a1 a2
   have hio := outs_two a1 a2
   have hcl : (clsF (l12U (pi, ts, ns, os) (pi2, ts2, ns2, os2)).2.1 (l12U (pi, ts, ns, os) (pi2, ts2, ns2, os2)).2.2.1).length = (l12U (pi, ts, ns, os) (pi2, ts2, ns2, os2)).2.2.1.length := clsF_len
   have hnn : (l12U (pi, ts, ns, os) (pi2, ts2, ns2, os2)).2.2.1.length = ns.length + ns2.length := by simp [l12U]
   have hnc : ns.length ≤ (clsF (l12U (pi, ts, ns, os) (pi2, ts2, ns2, os2)).2.1 (l12U (pi, ts, ns, os) (pi2, ts2, ns2, os2)).2.2.1).length := by omega
   have hn1 : ns.length ≤ 24 := (formedB_parts (patchB_parts a1).1).1
   have hn2 : ns2.length ≤ 24 := (formedB_parts (patchB_parts a2).1).1
   have hml := matchL_len hnc
   have hTk : List.take (clsF (l12U (pi, ts, ns, os) (pi2, ts2, ns2, os2)).2.1 (l12U (pi, ts, ns, os) (pi2, ts2, ns2, os2)).2.2.1).length (clsF (l12U (pi, ts, ns, os) (pi2, ts2, ns2, os2)).2.1 (l12U (pi, ts, ns, os) (pi2, ts2, ns2, os2)).2.2.1) = (clsF (l12U (pi, ts, ns, os) (pi2, ts2, ns2, os2)).2.1 (l12U (pi, ts, ns, os) (pi2, ts2, ns2, os2)).2.2.1) := List.take_length
   have hTl : (List.take ns.length (clsF (l12U (pi, ts, ns, os) (pi2, ts2, ns2, os2)).2.1 (l12U (pi, ts, ns, os) (pi2, ts2, ns2, os2)).2.2.1)).length = ns.length := by rw [List.length_take]; omega
   have hDl : (List.drop ns.length (clsF (l12U (pi, ts, ns, os) (pi2, ts2, ns2, os2)).2.1 (l12U (pi, ts, ns, os) (pi2, ts2, ns2, os2)).2.2.1)).length = ns2.length := by rw [List.length_drop]; omega
   refine AWP_skip ?_
   simp only [go_sem]
   refine hK2 _ ?_
   refine AWP_seq_k fun K6 hK6 => ?_
   refine AWP_region (G := G) (T := T_mHc111) T_mHc111_ok ?_
   simp only [go_sem]
   repeat (with_reducible refine And.intro (by first | omega | exact ⟨rfl, by omega, by omega, by omega⟩ | exact ⟨smallP_of a1, smallP_of a2⟩) ?_)
   refine hK6 _ ?_
   refine AWP_seq_k fun K7 hK7 => ?_
   refine AWP_region (G := G) (T := T_mHc111) T_mHc111_ok ?_
   simp (maxSteps := 2000000) only [go_sem]
   repeat (with_reducible refine And.intro (by first | omega | exact ⟨rfl, by omega, by omega, by omega⟩ | exact hU) ?_)
   refine hK7 _ ?_
   refine AWP_seq_k fun K8 hK8 => ?_
   refine AWP_region (G := G) (T := T_mHc111) T_mHc111_ok ?_
   simp only [List.nodup_nil, go_sem]
   repeat (with_reducible refine And.intro (by first | omega | exact ⟨rfl, by omega, by omega, by omega⟩) ?_)
   refine hK8 _ ?_
   refine AWP_seq_k fun K9 hK9 => ?_
   refine AWP_region (G := G) (T := T_mHc111) T_mHc111_ok ?_
   simp only [go_sem]
   repeat (with_reducible refine And.intro (by first | omega | exact ⟨rfl, by omega, by omega, by omega⟩) ?_)
   refine hK9 _ ?_
   refine AWP_seq_k fun K10 hK10 => ?_
   refine AWP_seq_k fun K11 hK11 => ?_
   refine AWP_region (G := G) (T := T_mHc111) T_mHc111_ok ?_
   simp only [go_sem]
   refine hK11 _ ?_
   refine AWP_block ?_
   refine AWP_loop_k (ι := { k : Nat // k ≤ ns.length }) (fun k => ⟨[zz, zz, zz, zz, zz, zz, zz, zz, .c (.ow 9004), zz, .c (.ow 9005), .c (.sc (.int .i64 (ns.length))), .c (.sc (.int .i64 (k.1))), zz, zz, zz, zz, zz, zz, zz, zz, zz, zz, zz, zz, zz, zz, zz, zz, zz, zz, zz, zz, zz, zz, zz, zz, zz, zz, zz, zz, zz, zz, zz, zz, zz, zz, zz, zz, zz, zz, zz, zz, zz, zz, zz, zz, zz, zz, zz, zz], [(9004, .row 2 (.int .i64) ((clsF (l12U (pi, ts, ns, os) (pi2, ts2, ns2, os2)).2.1 (l12U (pi, ts, ns, os) (pi2, ts2, ns2, os2)).2.2.1)) []), (9005, .row 2 (.int .i64) (((matchL (clsF (l12U (pi, ts, ns, os) (pi2, ts2, ns2, os2)).2.1 (l12U (pi, ts, ns, os) (pi2, ts2, ns2, os2)).2.2.1) ns.length).take k.1)) [])]⟩) (fun k => ns.length - k.1) ⟨0, by simp⟩ ?_ ?_
   ·
    refine Wk_to (by rfl) ?_
    simp (maxSteps := 2000000) only [go_sem]
    all_goals ((repeat' refine And.intro ?_ ?_) <;> first | rfl | (congr 1; done) | simp)
   rintro ⟨k, hk⟩ K12 hL12
   have hmt : ((matchL (clsF (l12U (pi, ts, ns, os) (pi2, ts2, ns2, os2)).2.1 (l12U (pi, ts, ns, os) (pi2, ts2, ns2, os2)).2.2.1) ns.length).take k).length ≤ 24 := by rw [List.length_take]; omega
   refine AWP_seq_k fun K13 hK13 => ?_
   refine AWP_seq_k fun K14 hK14 => ?_
   refine AWP_region (G := G) (T := T_mHc111) T_mHc111_ok ?_
   simp only [go_sem]
   refine hK14 _ ?_
   refine AWP_cond rfl ?_ ?_
   ·
    intro c1
    try simp only [decide_eq_true_eq, decide_eq_false_iff_not, Bool.not_eq_true', Bool.not_eq_false', ne_eq, Int.not_lt, Int.not_le] at c1
    have hnx := match_next hnc (show k < ns.length by omega)
    rw [match_take (show k < ns.length by omega)] at hnx
    refine AWP_skip ?_
    simp only [go_sem]
    refine hK13 _ ?_
    refine AWP_seq_k fun K15 hK15 => ?_
    refine AWP_block ?_
    refine AWP_seq_k fun K16 hK16 => ?_
    refine AWP_region (G := G) (T := T_mHc111) T_mHc111_ok ?_
    simp only [go_sem]
    refine hK16 _ ?_
    refine AWP_seq_k fun K17 hK17 => ?_
    refine AWP_seq_k fun K18 hK18 => ?_
    refine AWP_region (G := G) (T := T_mHc111) T_mHc111_ok ?_
    simp only [go_sem]
    refine hK18 _ ?_
    refine AWP_block ?_
    refine AWP_loop_k (ι := { s : Nat × Int // s.1 ≤ (List.drop ns.length (clsF (l12U (pi, ts, ns, os) (pi2, ts2, ns2, os2)).2.1 (l12U (pi, ts, ns, os) (pi2, ts2, ns2, os2)).2.2.1)).length ∧ (s.2 < 0 → s.2 = -1 ∧ ∀ q, q < s.1 → decide ((List.drop ns.length (clsF (l12U (pi, ts, ns, os) (pi2, ts2, ns2, os2)).2.1 (l12U (pi, ts, ns, os) (pi2, ts2, ns2, os2)).2.2.1)).getD q 0 = (clsF (l12U (pi, ts, ns, os) (pi2, ts2, ns2, os2)).2.1 (l12U (pi, ts, ns, os) (pi2, ts2, ns2, os2)).2.2.1).getD k 0) = false) ∧ (0 ≤ s.2 → s.2 = idxV ((clsF (l12U (pi, ts, ns, os) (pi2, ts2, ns2, os2)).2.1 (l12U (pi, ts, ns, os) (pi2, ts2, ns2, os2)).2.2.1).getD k 0) (List.drop ns.length (clsF (l12U (pi, ts, ns, os) (pi2, ts2, ns2, os2)).2.1 (l12U (pi, ts, ns, os) (pi2, ts2, ns2, os2)).2.2.1))) }) (fun k' => ⟨[zz, zz, zz, zz, zz, zz, zz, zz, .c (.ow 9004), zz, .c (.ow 9005), .c (.sc (.int .i64 (ns.length))), .c (.sc (.int .i64 (k))), .c (.sc (.int .i64 (k'.1.2))), .c (.sc (.int .i64 (((ns.length + k'.1.1 : Nat) : Int)))), zz, zz, zz, zz, zz, zz, zz, zz, zz, zz, zz, zz, zz, zz, zz, zz, zz, zz, zz, zz, zz, zz, zz, zz, zz, zz, zz, zz, zz, zz, zz, zz, zz, zz, zz, zz, zz, zz, zz, zz, zz, zz, zz, zz, zz, zz], [(9004, .row 2 (.int .i64) ((clsF (l12U (pi, ts, ns, os) (pi2, ts2, ns2, os2)).2.1 (l12U (pi, ts, ns, os) (pi2, ts2, ns2, os2)).2.2.1)) []), (9005, .row 2 (.int .i64) (((matchL (clsF (l12U (pi, ts, ns, os) (pi2, ts2, ns2, os2)).2.1 (l12U (pi, ts, ns, os) (pi2, ts2, ns2, os2)).2.2.1) ns.length).take k)) [])]⟩) (fun k' => (List.drop ns.length (clsF (l12U (pi, ts, ns, os) (pi2, ts2, ns2, os2)).2.1 (l12U (pi, ts, ns, os) (pi2, ts2, ns2, os2)).2.2.1)).length - k'.1.1) ⟨(0, -1), by simp, fun _ => ⟨rfl, fun q hq => absurd hq (Nat.not_lt_zero _)⟩, fun h => by simp at h⟩ ?_ ?_
    ·
     refine Wk_to (by rfl) ?_
     simp (maxSteps := 2000000) only [go_sem]
     all_goals ((repeat' refine And.intro ?_ ?_) <;> first | rfl | (congr 1; done) | simp)
    rintro ⟨⟨j, m⟩, hj, hv1, hv2⟩ K19 hL19
    have hj : j ≤ (List.drop ns.length (clsF (l12U (pi, ts, ns, os) (pi2, ts2, ns2, os2)).2.1 (l12U (pi, ts, ns, os) (pi2, ts2, ns2, os2)).2.2.1)).length := hj
    have hv1 : m < 0 → m = -1 ∧ ∀ q, q < j → decide ((List.drop ns.length (clsF (l12U (pi, ts, ns, os) (pi2, ts2, ns2, os2)).2.1 (l12U (pi, ts, ns, os) (pi2, ts2, ns2, os2)).2.2.1)).getD q 0 = (clsF (l12U (pi, ts, ns, os) (pi2, ts2, ns2, os2)).2.1 (l12U (pi, ts, ns, os) (pi2, ts2, ns2, os2)).2.2.1).getD k 0) = false := hv1
    have hv2 : 0 ≤ m → m = idxV ((clsF (l12U (pi, ts, ns, os) (pi2, ts2, ns2, os2)).2.1 (l12U (pi, ts, ns, os) (pi2, ts2, ns2, os2)).2.2.1).getD k 0) (List.drop ns.length (clsF (l12U (pi, ts, ns, os) (pi2, ts2, ns2, os2)).2.1 (l12U (pi, ts, ns, os) (pi2, ts2, ns2, os2)).2.2.1)) := hv2
    refine AWP_seq_k fun K20 hK20 => ?_
    refine AWP_seq_k fun K21 hK21 => ?_
    refine AWP_region (G := G) (T := T_mHc111) T_mHc111_ok ?_
    simp (maxSteps := 2000000) only [go_sem]
    repeat' (first | (with_reducible refine And.intro (by first | omega | exact ⟨rfl, by omega, by omega, by omega⟩) ?_) | (with_reducible refine gcase_dt (fun g13 => ?_) (fun g13 => ?_)) | (with_reducible refine gcase_df (fun g13 => ?_) (fun g13 => ?_)) | (with_reducible refine gcase_ndt (fun g13 => ?_) (fun g13 => ?_)) | (with_reducible refine gcase_ndf (fun g13 => ?_) (fun g13 => ?_)) | (with_reducible refine gcase_nt (fun g13 => ?_) (fun g13 => ?_)) | (with_reducible refine gcase_nf (fun g13 => ?_) (fun g13 => ?_)) | (with_reducible refine gcase_mk (fun g13 => ?_) (fun g13 => ?_)))
    all_goals
     refine hK21 _ ?_
     refine AWP_cond rfl ?_ ?_
     ·
      intro c2
      try simp only [decide_eq_true_eq, decide_eq_false_iff_not, Bool.not_eq_true', Bool.not_eq_false', ne_eq, Int.not_lt, Int.not_le, Bool.true_eq_false, Bool.false_eq_true] at c2
      all_goals
       have hw : IntKind.i64.wrap (((ns.length + j : Nat) : Int) - (ns.length : Int)) = (j : Int) := by rw [wrapI (by omega)]; omega
       have hdj : (List.drop ns.length (clsF (l12U (pi, ts, ns, os) (pi2, ts2, ns2, os2)).2.1 (l12U (pi, ts, ns, os) (pi2, ts2, ns2, os2)).2.2.1)).getD j 0 = (clsF (l12U (pi, ts, ns, os) (pi2, ts2, ns2, os2)).2.1 (l12U (pi, ts, ns, os) (pi2, ts2, ns2, os2)).2.2.1).getD (ns.length + j) 0 := match_drop
       obtain ⟨hv3, hv4⟩ := hv1 (by omega)
       refine AWP_skip ?_
       simp only [go_sem]
       refine hK20 _ ?_
       refine AWP_seq_k fun K22 hK22 => ?_
       refine AWP_block ?_
       refine AWP_seq_k fun K23 hK23 => ?_
       refine AWP_draw (G := G) (T := T_mHc111) T_mHc111_ok mixed
         [[], [], [0, 1], [0, 1, 2], [], [], [4, 5], [4, 5, 6], [0, 1, 2, 3, 4, 5, 6, 7]]
         [[], [], [], [], [], [], [], [], []]
         [[], [], [], [], [], [], [], [], []] (by kernel_rfl) (by kernel_rfl) (adrawR_ok (acc := []) ?_)
       simp (maxSteps := 2000000) only [go_sem]
       repeat (with_reducible refine And.intro (by first | exact chk_leaf (by kernel_rfl) | omega | exact ⟨rfl, by omega, by omega, by omega⟩ | exact ⟨by omega, by omega⟩ | omega) ?_)
       refine hK23 _ ?_
       refine AWP_cond rfl ?_ ?_
       ·
        intro c3
        try simp only [decide_eq_true_eq, decide_eq_false_iff_not, Bool.not_eq_true', Bool.not_eq_false', ne_eq, Int.not_lt, Int.not_le, Bool.true_eq_false, Bool.false_eq_true] at c3
        all_goals
         have hheq : (List.drop ns.length (clsF (l12U (pi, ts, ns, os) (pi2, ts2, ns2, os2)).2.1 (l12U (pi, ts, ns, os) (pi2, ts2, ns2, os2)).2.2.1)).getD j 0 = (clsF (l12U (pi, ts, ns, os) (pi2, ts2, ns2, os2)).2.1 (l12U (pi, ts, ns, os) (pi2, ts2, ns2, os2)).2.2.1).getD k 0 := by rw [hdj]; omega
         refine AWP_region (G := G) (T := T_mHc111) T_mHc111_ok ?_
         simp only [hw, go_sem]
         refine hK22 _ ?_
         refine AWP_region (G := G) (T := T_mHc111) T_mHc111_ok ?_
         simp only [go_sem]
         first | (refine hL19 ⟨(j + 1, (j : Int)), by show j + 1 ≤ _; omega, fun h => absurd h (by show ¬ (j : Int) < 0; omega), fun _ => (idxR_hit (by omega) hv4 (decide_eq_true hheq)).symm⟩ _ (Wk_to (by rfl) ?_) ?_) | (refine hL19 ⟨(j + 1, m), by show j + 1 ≤ _; omega, fun _ => ⟨hv3, fun q hq => by rcases Nat.lt_succ_iff_lt_or_eq.1 hq with h | h; exact hv4 q h; subst h; exact decide_eq_false hhne⟩, fun h => absurd h (by show ¬ 0 ≤ m; omega)⟩ _ (Wk_to (by rfl) ?_) ?_)
         ·
          simp (maxSteps := 2000000) only [go_sem]
          all_goals ((repeat' refine And.intro ?_ ?_) <;> first | rfl | exact wk (by omega) | (congr 1; done))
         ·
          first | (simp only []; omega) | omega | (simp; omega)
       ·
        intro c3
        try simp only [decide_eq_true_eq, decide_eq_false_iff_not, Bool.not_eq_true', Bool.not_eq_false', ne_eq, Int.not_lt, Int.not_le, Bool.true_eq_false, Bool.false_eq_true] at c3
        all_goals
         have hhne : ¬ (List.drop ns.length (clsF (l12U (pi, ts, ns, os) (pi2, ts2, ns2, os2)).2.1 (l12U (pi, ts, ns, os) (pi2, ts2, ns2, os2)).2.2.1)).getD j 0 = (clsF (l12U (pi, ts, ns, os) (pi2, ts2, ns2, os2)).2.1 (l12U (pi, ts, ns, os) (pi2, ts2, ns2, os2)).2.2.1).getD k 0 := by rw [hdj]; omega
         refine AWP_skip ?_
         simp only [go_sem]
         refine hK22 _ ?_
         refine AWP_region (G := G) (T := T_mHc111) T_mHc111_ok ?_
         simp only [go_sem]
         first | (refine hL19 ⟨(j + 1, (j : Int)), by show j + 1 ≤ _; omega, fun h => absurd h (by show ¬ (j : Int) < 0; omega), fun _ => (idxR_hit (by omega) hv4 (decide_eq_true hheq)).symm⟩ _ (Wk_to (by rfl) ?_) ?_) | (refine hL19 ⟨(j + 1, m), by show j + 1 ≤ _; omega, fun _ => ⟨hv3, fun q hq => by rcases Nat.lt_succ_iff_lt_or_eq.1 hq with h | h; exact hv4 q h; subst h; exact decide_eq_false hhne⟩, fun h => absurd h (by show ¬ 0 ≤ m; omega)⟩ _ (Wk_to (by rfl) ?_) ?_)
         ·
          simp (maxSteps := 2000000) only [go_sem]
          all_goals ((repeat' refine And.intro ?_ ?_) <;> first | rfl | exact wk (by omega) | (congr 1; done))
         ·
          first | (simp only []; omega) | omega | (simp; omega)
     ·
      intro c2
      try simp only [decide_eq_true_eq, decide_eq_false_iff_not, Bool.not_eq_true', Bool.not_eq_false', ne_eq, Int.not_lt, Int.not_le, Bool.true_eq_false, Bool.false_eq_true] at c2
      all_goals
       have hm9 : m = idxV ((clsF (l12U (pi, ts, ns, os) (pi2, ts2, ns2, os2)).2.1 (l12U (pi, ts, ns, os) (pi2, ts2, ns2, os2)).2.2.1).getD k 0) (List.drop ns.length (clsF (l12U (pi, ts, ns, os) (pi2, ts2, ns2, os2)).2.1 (l12U (pi, ts, ns, os) (pi2, ts2, ns2, os2)).2.2.1)) := by
         rcases Int.lt_or_le m 0 with hneg | hpos
         · obtain ⟨e1, e2⟩ := hv1 hneg
           rw [e1]; exact (idxR_none (j := j) (by omega) e2).symm
         · exact hv2 hpos
       refine AWP_exit ?_
       simp only [go_sem]
       refine hK17 _ ?_
       refine AWP_region (G := G) (T := T_mHc111) T_mHc111_ok ?_
       simp (maxSteps := 2000000) only [List.nodup_cons, List.nodup_nil, List.not_mem_nil, not_false_eq_true, go_sem]
       repeat (with_reducible refine And.intro (by first | omega | exact ⟨rfl, by omega, by omega, by omega⟩ | omega) ?_)
       refine hK15 _ ?_
       refine AWP_region (G := G) (T := T_mHc111) T_mHc111_ok ?_
       simp only [go_sem]
       refine hL12 ⟨k + 1, by omega⟩ _ (Wk_to (by rfl) ?_) ?_
       ·
        simp (maxSteps := 2000000) only [go_sem]
        all_goals ((repeat' refine And.intro ?_ ?_) <;> first | rfl | exact wk (by omega) | (rw [hnx, hm9]; done) | (congr 1; done))
       ·
        first | (simp only []; omega) | omega | (simp; omega)
   ·
    intro c1
    try simp only [decide_eq_true_eq, decide_eq_false_iff_not, Bool.not_eq_true', Bool.not_eq_false', ne_eq, Int.not_lt, Int.not_le] at c1
    refine AWP_exit ?_
    simp only [go_sem]
    refine hK10 _ ?_
    refine AWP_seq_k fun K24 hK24 => ?_
    refine AWP_region (G := G) (T := T_mHc111) T_mHc111_ok ?_
    simp only [go_sem]
    refine hK24 _ ?_
    refine AWP_ret ?_
    simp only [hres, go_sem]
    first
      | exact finOk_mk (by rfl) (by decide)
      | refine ⟨?_, finOk_mk (by rfl) (by decide)⟩
        have hfin : ((matchL (clsF (l12U (pi, ts, ns, os) (pi2, ts2, ns2, os2)).2.1 (l12U (pi, ts, ns, os) (pi2, ts2, ns2, os2)).2.2.1) ns.length).take k) = matchL (clsF (l12U (pi, ts, ns, os) (pi2, ts2, ns2, os2)).2.1 (l12U (pi, ts, ns, os) (pi2, ts2, ns2, os2)).2.2.1) ns.length := List.take_of_length_le (by rw [hml]; omega)
        first | (rw [matchR_t c0, hfin]; exact ⟨rfl, rfl⟩) | (rw [matchR_t c0, hfin]; done) | (rw [matchR_t c0, hfin]; rfl)

theorem specMatch_fn : FnOk Tryz.prog 11 := fnOk_of Tryz.func11 rfl (by decide)

def T_specMatch : Tab := fun f => if f = 11 then some (.p K_specMatch) else T_mHc111 f
theorem T_specMatch_ok : TabOk Tryz.prog T_specMatch := fun f k h => by
  unfold T_specMatch at h
  split at h
  · rename_i e; cases h; subst e; exact ⟨specMatch_ok, specMatch_fn⟩
  · exact T_mHc111_ok f k h
attribute [go_sem] T_specMatch K_specMatch

end Go.Proofs.YthfopaimihmgiaaGreat
