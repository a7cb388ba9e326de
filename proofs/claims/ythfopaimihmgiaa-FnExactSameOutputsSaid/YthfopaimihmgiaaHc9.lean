/-
  Contracts of functions: SameOutputs.
-/
import Derived.Test.YthfopaimihmgiaaHc5
import Derived.Test.YthfopaimihmgiaaGb6
import Derived.Test.YthfopaimihmgiaaHb2
import Derived.Test.YthfopaimihmgiaaPr
namespace Go.Proofs.Ythfopaimihmgiaa
open Go.RowKit
set_option linter.unusedSimpArgs false
set_option linter.unusedVariables false

def T_mHc90 : Tab := fun f => match T_l12Classes f with
  | some k => some k
  | none => T_l12Ask f
theorem T_mHc90_ok : TabOk Try.prog T_mHc90 := fun f k h => by
  unfold T_mHc90 at h
  split at h
  · rename_i e; cases h; exact T_l12Classes_ok f _ e
  · exact T_l12Ask_ok f k h
attribute [go_sem] T_mHc90 T0


def T_mHc91 : Tab := fun f => match T_mHc90 f with
  | some k => some k
  | none => T_l12Unite f
theorem T_mHc91_ok : TabOk Try.prog T_mHc91 := fun f k h => by
  unfold T_mHc91 at h
  split at h
  · rename_i e; cases h; exact T_mHc90_ok f _ e
  · exact T_l12Unite_ok f k h
attribute [go_sem] T_mHc91 T0


def K_specSameO : Con := ⟨[.val ((.prod (.int .i64) (.prod (.row 24 (.row 2 (.int .i64))) (.prod (.row 56 (.prod (.int .i64) (.prod (.int .i64) (.prod (.int .i64) (.row 2 (.int .i64)))))) (.row 2 (.int .i64)))))), .val ((.prod (.int .i64) (.prod (.row 24 (.row 2 (.int .i64))) (.prod (.row 56 (.prod (.int .i64) (.prod (.int .i64) (.prod (.int .i64) (.row 2 (.int .i64)))))) (.row 2 (.int .i64))))))], [⟨.bool, true⟩, ⟨.int .i64, true⟩], fun _ => True, fun x => sameR x.1 x.2.1⟩
set_option maxRecDepth 100000 in
set_option maxHeartbeats 8000000 in
theorem specSameO_ok : PureT Try.prog 24 K_specSameO := by
  refine pure_of_body Try.func24 rfl ?_
  have hres : Try.f24.results.toList = [.tmp 4, .tmp 5] := rfl
  rintro ⟨⟨(pi : Int), (ts : List (List Int)), (ns : List NodeD), (os : List Int)⟩, ⟨(pi2 : Int), (ts2 : List (List Int)), (ns2 : List NodeD), (os2 : List Int)⟩, _⟩ hc hL
  simp only [K_specSameO, lensOk, PK.lenOk, glensOk, GP.lenOk, flensOk, GO.lenOk, olensOk, Ty.lenOk, Ty.flat, Bool.and_true, Bool.true_and, Bool.and_false, Bool.false_and, true_and, and_true, implies_true, forall_const] at hL
  simp only [K_specSameO, St.init, St.initG, Try.ntmps24, go_sem] 
  refine AWP_seq_k fun K1 hK1 => ?_
  refine AWP_region (G := G) (T := T_mHc91) T_mHc91_ok ?_
  simp only [go_sem]
  refine hK1 _ ?_
  refine AWP_seq_k fun K2 hK2 => ?_
  refine AWP_seq_k fun K3 hK3 => ?_
  refine AWP_region (G := G) (T := T_mHc91) T_mHc91_ok ?_
  simp only [go_sem]
  repeat (with_reducible refine And.intro (by first | omega | exact ⟨rfl, by omega, by omega, by omega⟩) ?_)
  refine hK3 _ ?_
  refine AWP_seq_k fun K4 hK4 => ?_
  refine AWP_region (G := G) (T := T_mHc91) T_mHc91_ok ?_
  simp only [go_sem]
  refine hK4 _ ?_
  refine AWP_cond rfl ?_ ?_
  ·
   intro c0
   try simp only [decide_eq_true_eq, decide_eq_false_iff_not, Bool.not_eq_true', Bool.not_eq_false', ne_eq, Int.not_lt, Int.not_le] at c0
   refine AWP_seq_k fun K5 hK5 => ?_
   refine AWP_region (G := G) (T := T_mHc91) T_mHc91_ok ?_
   simp only [go_sem]
   refine hK5 _ ?_
   refine AWP_ret ?_
   simp only [hres, go_sem]
   first
     | exact finOk_mk (by rfl) (by decide)
     | refine ⟨?_, finOk_mk (by rfl) (by decide)⟩
       first | (rw [sameR_f c0]; exact ⟨rfl, rfl⟩) | (rw [sameR_f c0])
  ·
   intro c0
   try simp only [decide_eq_true_eq, decide_eq_false_iff_not, Bool.not_eq_true', Bool.not_eq_false', ne_eq, Int.not_lt, Int.not_le] at c0
   obtain ⟨a1, a2, a3⟩ := ask2_ok c0
   have hsm : smallPs [(pi, ts, ns, os), (pi2, ts2, ns2, os2)] := ⟨by simp, fun p hp => by simp only [List.mem_cons, List.not_mem_nil, or_false] at hp; rcases hp with rfl | rfl; exact smallP_of a1; exact smallP_of a2⟩
   have hun : uniteL [(pi, ts, ns, os), (pi2, ts2, ns2, os2)] = (l12U (pi, ts, ns, os) (pi2, ts2, ns2, os2)).2 := congrArg Prod.snd (unite_two (p := (pi, ts, ns, os)) (q := (pi2, ts2, ns2, os2)) a1)
   have hU : uOk (l12U (pi, ts, ns, os) (pi2, ts2, ns2, os2)).2.1 (l12U (pi, ts, ns, os) (pi2, ts2, ns2, os2)).2.2.1 := uOk_two a1 a2
   have hio := outs_two a1 a2
   have hou : (l12U (pi, ts, ns, os) (pi2, ts2, ns2, os2)).2.2.2.length = os.length + os2.length := by simp [l12U]
   have hcl : (clsF (l12U (pi, ts, ns, os) (pi2, ts2, ns2, os2)).2.1 (l12U (pi, ts, ns, os) (pi2, ts2, ns2, os2)).2.2.1).length = (l12U (pi, ts, ns, os) (pi2, ts2, ns2, os2)).2.2.1.length := clsF_len
   have ho4 : os.length ≤ 4 := (formedB_parts (patchB_parts a1).1).2.1
   have ho5 : os2.length ≤ 4 := (formedB_parts (patchB_parts a2).1).2.1
   have hmc : (l12U (pi, ts, ns, os) (pi2, ts2, ns2, os2)).2.2.2.length ≤ 1000 ∧ idxs (clsF (l12U (pi, ts, ns, os) (pi2, ts2, ns2, os2)).2.1 (l12U (pi, ts, ns, os) (pi2, ts2, ns2, os2)).2.2.1).length (l12U (pi, ts, ns, os) (pi2, ts2, ns2, os2)).2.2.2 = true := ⟨by omega, by rw [hcl]; exact hio⟩
   have hOC : List.map (fun q => (clsF (l12U (pi, ts, ns, os) (pi2, ts2, ns2, os2)).2.1 (l12U (pi, ts, ns, os) (pi2, ts2, ns2, os2)).2.2.1).getD (Int.toNat q) 0) (l12U (pi, ts, ns, os) (pi2, ts2, ns2, os2)).2.2.2 = outCl (pi, ts, ns, os) (pi2, ts2, ns2, os2) := rfl
   have hOL := outCl_len (pi, ts, ns, os) (pi2, ts2, ns2, os2)
   have hOL : (outCl (pi, ts, ns, os) (pi2, ts2, ns2, os2)).length = os.length + os2.length := hOL
   refine AWP_skip ?_
   simp only [go_sem]
   refine hK2 _ ?_
   refine AWP_seq_k fun K6 hK6 => ?_
   refine AWP_seq_k fun K7 hK7 => ?_
   refine AWP_region (G := G) (T := T_mHc91) T_mHc91_ok ?_
   simp (maxSteps := 2000000) only [go_sem]
   repeat (with_reducible refine And.intro (by first | omega | exact ⟨rfl, by omega, by omega, by omega⟩) ?_)
   refine hK7 _ ?_
   refine AWP_cond rfl ?_ ?_
   ·
    intro c1
    try simp only [decide_eq_true_eq, decide_eq_false_iff_not, Bool.not_eq_true', Bool.not_eq_false', ne_eq, Int.not_lt, Int.not_le] at c1
    refine AWP_seq_k fun K8 hK8 => ?_
    refine AWP_region (G := G) (T := T_mHc91) T_mHc91_ok ?_
    simp only [go_sem]
    refine hK8 _ ?_
    refine AWP_ret ?_
    simp only [hres, go_sem]
    first
      | exact finOk_mk (by rfl) (by decide)
      | refine ⟨?_, finOk_mk (by rfl) (by decide)⟩
        first | (rw [sameR_len (p := (pi, ts, ns, os)) (q := (pi2, ts2, ns2, os2)) c0 (by show ¬ os.length = os2.length; omega)]; exact ⟨rfl, rfl⟩) | (rw [sameR_len (p := (pi, ts, ns, os)) (q := (pi2, ts2, ns2, os2)) c0 (by show ¬ os.length = os2.length; omega)])
   ·
    intro c1
    try simp only [decide_eq_true_eq, decide_eq_false_iff_not, Bool.not_eq_true', Bool.not_eq_false', ne_eq, Int.not_lt, Int.not_le] at c1
    have hle : os.length = os2.length := by omega
    refine AWP_skip ?_
    simp only [go_sem]
    refine hK6 _ ?_
    refine AWP_seq_k fun K9 hK9 => ?_
    refine AWP_region (G := G) (T := T_mHc91) T_mHc91_ok ?_
    simp only [go_sem]
    repeat (with_reducible refine And.intro (by first | omega | exact ⟨rfl, by omega, by omega, by omega⟩ | exact ⟨smallP_of a1, smallP_of a2⟩) ?_)
    refine hK9 _ ?_
    refine AWP_seq_k fun K10 hK10 => ?_
    refine AWP_region (G := G) (T := T_mHc91) T_mHc91_ok ?_
    simp (maxSteps := 2000000) only [go_sem]
    repeat (with_reducible refine And.intro (by first | omega | exact ⟨rfl, by omega, by omega, by omega⟩ | exact hU) ?_)
    refine hK10 _ ?_
    refine AWP_seq_k fun K11 hK11 => ?_
    refine AWP_seq_k fun K12 hK12 => ?_
    refine AWP_region (G := G) (T := T_mHc91) T_mHc91_ok ?_
    simp only [go_sem]
    refine hK12 _ ?_
    refine AWP_block ?_
    refine AWP_loop_k (ι := { k : Nat // k ≤ os.length ∧ ∀ q, q < k → (outCl (pi, ts, ns, os) (pi2, ts2, ns2, os2)).getD q 0 = (outCl (pi, ts, ns, os) (pi2, ts2, ns2, os2)).getD (os.length + q) 0 }) (fun k => ⟨[zz, zz, .c (.po 132 0), zz, zz, zz, zz, .c (.po 212 0), .c (.ow 9004), zz, .c (.sc (.int .i64 (k.1))), zz, zz, zz, zz, zz, zz, zz, zz, zz, zz, zz, zz, zz, zz, zz, zz, zz, zz, zz, zz, zz, zz, zz, zz, zz, zz, zz, zz, zz, zz, zz, zz, zz, zz, zz, zz, zz, zz, zz, zz, zz, zz, zz, zz], [(132, .box [.sc (.int .i64 (pi)), .rd [] 24 ((.row 2 (.int .i64))) (ts), .rd [] 56 ((.prod (.int .i64) (.prod (.int .i64) (.prod (.int .i64) (.row 2 (.int .i64)))))) (ns), .rd [] 2 (.int .i64) (os)]), (212, .box [.sc (.int .i64 ((l12U (pi, ts, ns, os) (pi2, ts2, ns2, os2)).1)), .ow 9001, .ow 9002, .ow 9003]), (9001, .tree 24 (.row 2 (.int .i64)) ((l12U (pi, ts, ns, os) (pi2, ts2, ns2, os2)).2.1) none), (9002, .tree 56 (.prod (.int .i64) (.prod (.int .i64) (.prod (.int .i64) (.row 2 (.int .i64))))) ((l12U (pi, ts, ns, os) (pi2, ts2, ns2, os2)).2.2.1) none), (9003, .row 2 (.int .i64) ((l12U (pi, ts, ns, os) (pi2, ts2, ns2, os2)).2.2.2) []), (9004, .row 2 (.int .i64) (clsF (l12U (pi, ts, ns, os) (pi2, ts2, ns2, os2)).2.1 (l12U (pi, ts, ns, os) (pi2, ts2, ns2, os2)).2.2.1) [])]⟩) (fun k => os.length - k.1) ⟨0, by simp, fun q hq => absurd hq (Nat.not_lt_zero _)⟩ ?_ ?_
    ·
     refine Wk_to (by rfl) ?_
     simp (maxSteps := 2000000) only [go_sem]
     all_goals ((repeat' refine And.intro ?_ ?_) <;> first | rfl | (congr 1; done) | simp)
    rintro ⟨k, hk, hkp⟩ K13 hL13
    refine AWP_seq_k fun K14 hK14 => ?_
    refine AWP_seq_k fun K15 hK15 => ?_
    refine AWP_region (G := G) (T := T_mHc91) T_mHc91_ok ?_
    simp (maxSteps := 2000000) only [go_sem]
    repeat (with_reducible refine And.intro (by first | omega | exact ⟨rfl, by omega, by omega, by omega⟩) ?_)
    refine hK15 _ ?_
    refine AWP_cond rfl ?_ ?_
    ·
     intro c2
     try simp only [decide_eq_true_eq, decide_eq_false_iff_not, Bool.not_eq_true', Bool.not_eq_false', ne_eq, Int.not_lt, Int.not_le] at c2
     have hk1 : k < (l12U (pi, ts, ns, os) (pi2, ts2, ns2, os2)).2.2.2.length := by omega
     have hk2 : os.length + k < (l12U (pi, ts, ns, os) (pi2, ts2, ns2, os2)).2.2.2.length := by omega
     have hb1 := idxs_at hio (getD_mem (d := (0 : Int)) hk1)
     have hb2 := idxs_at hio (getD_mem (d := (0 : Int)) hk2)
     have hw : IntKind.i64.wrap ((os.length : Int) + (k : Int)) = ((os.length + k : Nat) : Int) := by rw [wrapI (by omega)]; omega
     have e1 := outCl_at (p := (pi, ts, ns, os)) (q := (pi2, ts2, ns2, os2)) (k := k) (by omega)
     have e2 := outCl_at (p := (pi, ts, ns, os)) (q := (pi2, ts2, ns2, os2)) (k := os.length + k) (by omega)
     refine AWP_skip ?_
     simp only [go_sem]
     refine hK14 _ ?_
     refine AWP_seq_k fun K16 hK16 => ?_
     refine AWP_block ?_
     refine AWP_seq_k fun K17 hK17 => ?_
     refine AWP_draw (G := G) (T := T_mHc91) T_mHc91_ok mixed
       [[], [], [1], [], [1, 2, 3], [1, 2, 3, 4], [0, 1, 2, 3, 4, 5], [0, 1, 2, 3, 4, 5, 6], [], [], [9], [], [11], [11, 12], [], [11, 12, 13, 14], [9, 10, 11, 12, 13, 14, 15], [9, 10, 11, 12, 13, 14, 15, 16], [8, 9, 10, 11, 12, 13, 14, 15, 16, 17], [8, 9, 10, 11, 12, 13, 14, 15, 16, 17, 18], [0, 1, 2, 3, 4, 5, 6, 7, 8, 9, 10, 11, 12, 13, 14, 15, 16, 17, 18, 19]]
       [[], [], [], [], [], [], [], [], [], [], [], [], [], [], [], [], [], [], [], [], []]
       [[], [], [], [], [], [], [], [], [], [], [], [], [], [], [], [], [], [], [], [], []] (by kernel_rfl) (by kernel_rfl) (adrawR_ok (acc := []) ?_)
     simp (maxSteps := 2000000) only [hw, go_sem]
     repeat (with_reducible refine And.intro (by first | exact chk_leaf (by kernel_rfl) | omega | exact ⟨rfl, by omega, by omega, by omega⟩ | exact ⟨by omega, by omega⟩ | omega) ?_)
     refine hK17 _ ?_
     refine AWP_cond rfl ?_ ?_
     ·
      intro c3
      try simp only [decide_eq_true_eq, decide_eq_false_iff_not, Bool.not_eq_true', Bool.not_eq_false', ne_eq, Int.not_lt, Int.not_le] at c3
      have hne : ¬ (outCl (pi, ts, ns, os) (pi2, ts2, ns2, os2)).getD k 0 = (outCl (pi, ts, ns, os) (pi2, ts2, ns2, os2)).getD (os.length + k) 0 := by rw [e1, e2]; assumption
      refine AWP_seq_k fun K18 hK18 => ?_
      refine AWP_region (G := G) (T := T_mHc91) T_mHc91_ok ?_
      simp only [go_sem]
      refine hK18 _ ?_
      refine AWP_ret ?_
      simp only [hres, go_sem]
      first
        | exact finOk_mk (by rfl) (by decide)
        | refine ⟨?_, finOk_mk (by rfl) (by decide)⟩
          first | (rw [sameR_ne (p := (pi, ts, ns, os)) (q := (pi2, ts2, ns2, os2)) c0 (k := k) (by show k < os.length; omega) hne]; exact ⟨rfl, rfl⟩) | (rw [sameR_ne (p := (pi, ts, ns, os)) (q := (pi2, ts2, ns2, os2)) c0 (k := k) (by show k < os.length; omega) hne])
     ·
      intro c3
      try simp only [decide_eq_true_eq, decide_eq_false_iff_not, Bool.not_eq_true', Bool.not_eq_false', ne_eq, Int.not_lt, Int.not_le] at c3
      have heq : (outCl (pi, ts, ns, os) (pi2, ts2, ns2, os2)).getD k 0 = (outCl (pi, ts, ns, os) (pi2, ts2, ns2, os2)).getD (os.length + k) 0 := by rw [e1, e2]; assumption
      refine AWP_skip ?_
      simp only [go_sem]
      refine hK16 _ ?_
      refine AWP_region (G := G) (T := T_mHc91) T_mHc91_ok ?_
      simp only [go_sem]
      refine hL13 ⟨k + 1, by omega, fun q hq => by rcases Nat.lt_succ_iff_lt_or_eq.1 hq with h | h; exact hkp q h; subst h; exact heq⟩ _ (Wk_to (by rfl) ?_) ?_
      ·
       simp (maxSteps := 2000000) only [go_sem]
       all_goals ((repeat' refine And.intro ?_ ?_) <;> first | rfl | exact wk (by omega) | (congr 1; done))
      ·
       first | (simp only []; omega) | omega | (simp; omega)
    ·
     intro c2
     try simp only [decide_eq_true_eq, decide_eq_false_iff_not, Bool.not_eq_true', Bool.not_eq_false', ne_eq, Int.not_lt, Int.not_le] at c2
     refine AWP_exit ?_
     simp only [go_sem]
     refine hK11 _ ?_
     refine AWP_seq_k fun K19 hK19 => ?_
     refine AWP_region (G := G) (T := T_mHc91) T_mHc91_ok ?_
     simp only [go_sem]
     refine hK19 _ ?_
     refine AWP_ret ?_
     simp only [hres, go_sem]
     first
       | exact finOk_mk (by rfl) (by decide)
       | refine ⟨?_, finOk_mk (by rfl) (by decide)⟩
         have hfin := sameR_eq (p := (pi, ts, ns, os)) (q := (pi2, ts2, ns2, os2)) c0 hle (fun q hq => hkp q (by have hq : q < os.length := hq; omega))
         first | (rw [hfin]; exact ⟨rfl, rfl⟩) | (rw [hfin])

theorem specSameO_fn : FnOk Try.prog 24 := fnOk_of Try.func24 rfl (by decide)

def T_specSameO : Tab := fun f => if f = 24 then some (.p K_specSameO) else T_mHc91 f
theorem T_specSameO_ok : TabOk Try.prog T_specSameO := fun f k h => by
  unfold T_specSameO at h
  split at h
  · rename_i e; cases h; subst e; exact ⟨specSameO_ok, specSameO_fn⟩
  · exact T_mHc91_ok f k h
attribute [go_sem] T_specSameO K_specSameO

end Go.Proofs.Ythfopaimihmgiaa
