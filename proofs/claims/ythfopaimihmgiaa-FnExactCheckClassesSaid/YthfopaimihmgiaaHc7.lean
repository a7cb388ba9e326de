/-
  Contracts of functions: ClassesOf, ClassCount, IsReduced, CheckClasses.
-/
import Derived.Test.YthfopaimihmgiaaHc5
import Derived.Test.YthfopaimihmgiaaGb6
namespace Go.Proofs.Ythfopaimihmgiaa
open Go.RowKit
set_option linter.unusedSimpArgs false
set_option linter.unusedVariables false

def T_mHc70 : Tab := fun f => match T_l12Classes f with
  | some k => some k
  | none => T_l12Ask f
theorem T_mHc70_ok : TabOk Try.prog T_mHc70 := fun f k h => by
  unfold T_mHc70 at h
  split at h
  · rename_i e; cases h; exact T_l12Classes_ok f _ e
  · exact T_l12Ask_ok f k h
attribute [go_sem] T_mHc70 T0


def K_specClsOf : Con := ⟨[.val ((.prod (.int .i64) (.prod (.row 24 (.row 2 (.int .i64))) (.prod (.row 56 (.prod (.int .i64) (.prod (.int .i64) (.prod (.int .i64) (.row 2 (.int .i64)))))) (.row 2 (.int .i64))))))], [⟨(.row 2 (.int .i64)), true⟩, ⟨.int .i64, true⟩], fun _ => True, fun x => clsR x.1⟩
set_option maxRecDepth 100000 in
set_option maxHeartbeats 1000000 in
theorem specClsOf_ok : PureT Try.prog 15 K_specClsOf := by
  refine pure_of_body Try.func15 rfl ?_
  have hres : Try.f15.results.toList = [.tmp 2, .tmp 3] := rfl
  rintro ⟨⟨(pi : Int), (ts : List (List Int)), (ns : List NodeD), (os : List Int)⟩, _⟩ hc hL
  simp only [K_specClsOf, lensOk, PK.lenOk, glensOk, GP.lenOk, flensOk, GO.lenOk, olensOk, Ty.lenOk, Ty.flat, Bool.and_true, Bool.true_and, Bool.and_false, Bool.false_and, true_and, and_true, implies_true, forall_const] at hL
  simp only [K_specClsOf, St.init, St.initG, Try.ntmps15, go_sem] 
  refine AWP_seq_k fun K1 hK1 => ?_
  refine AWP_region (G := G) (T := T_mHc70) T_mHc70_ok ?_
  simp only [go_sem]
  refine hK1 _ ?_
  refine AWP_seq_k fun K2 hK2 => ?_
  refine AWP_seq_k fun K3 hK3 => ?_
  refine AWP_region (G := G) (T := T_mHc70) T_mHc70_ok ?_
  simp only [go_sem]
  repeat (with_reducible refine And.intro (by first | omega | exact ⟨rfl, by omega, by omega, by omega⟩) ?_)
  refine hK3 _ ?_
  refine AWP_cond rfl ?_ ?_
  ·
   intro c0
   try simp only [decide_eq_true_eq, decide_eq_false_iff_not, Bool.not_eq_true', Bool.not_eq_false', ne_eq, Int.not_lt, Int.not_le] at c0
   refine AWP_seq_k fun K4 hK4 => ?_
   refine AWP_region (G := G) (T := T_mHc70) T_mHc70_ok ?_
   simp only [go_sem]
   refine hK4 _ ?_
   refine AWP_ret ?_
   simp only [hres, go_sem]
   first
     | exact finOk_mk (by rfl) (by decide)
     | refine ⟨?_, finOk_mk (by rfl) (by decide)⟩
       first | (rw [clsR_f c0]; exact ⟨rfl, rfl⟩) | (rw [clsR_f c0])
  ·
   intro c0
   try simp only [decide_eq_true_eq, decide_eq_false_iff_not, Bool.not_eq_true', Bool.not_eq_false', ne_eq, Int.not_lt, Int.not_le] at c0
   have hF := (patchB_parts c0).1
   have hU : uOk ts ns := uOk_patch (p := (pi, ts, ns, os)) hF
   refine AWP_skip ?_
   simp only [go_sem]
   refine hK2 _ ?_
   refine AWP_seq_k fun K5 hK5 => ?_
   refine AWP_region (G := G) (T := T_mHc70) T_mHc70_ok ?_
   simp (maxSteps := 2000000) only [go_sem]
   repeat (with_reducible refine And.intro (by first | omega | exact ⟨rfl, by omega, by omega, by omega⟩ | exact hU) ?_)
   refine hK5 _ ?_
   refine AWP_seq_k fun K6 hK6 => ?_
   refine AWP_region (G := G) (T := T_mHc70) T_mHc70_ok ?_
   simp only [go_sem]
   refine hK6 _ ?_
   refine AWP_ret ?_
   simp only [hres, go_sem]
   first
     | exact finOk_mk (by rfl) (by decide)
     | refine ⟨?_, finOk_mk (by rfl) (by decide)⟩
       first | (rw [clsR_t c0]; exact ⟨rfl, rfl⟩) | (rw [clsR_t c0])

theorem specClsOf_fn : FnOk Try.prog 15 := fnOk_of Try.func15 rfl (by decide)

def T_specClsOf : Tab := fun f => if f = 15 then some (.p K_specClsOf) else T_mHc70 f
theorem T_specClsOf_ok : TabOk Try.prog T_specClsOf := fun f k h => by
  unfold T_specClsOf at h
  split at h
  · rename_i e; cases h; subst e; exact ⟨specClsOf_ok, specClsOf_fn⟩
  · exact T_mHc70_ok f k h
attribute [go_sem] T_specClsOf K_specClsOf


def K_specCnt : Con := ⟨[.val ((.prod (.int .i64) (.prod (.row 24 (.row 2 (.int .i64))) (.prod (.row 56 (.prod (.int .i64) (.prod (.int .i64) (.prod (.int .i64) (.row 2 (.int .i64)))))) (.row 2 (.int .i64))))))], [⟨.int .i64, true⟩, ⟨.int .i64, true⟩], fun _ => True, fun x => cntR x.1⟩
set_option maxRecDepth 100000 in
set_option maxHeartbeats 1000000 in
theorem specCnt_ok : PureT Try.prog 20 K_specCnt := by
  refine pure_of_body Try.func20 rfl ?_
  have hres : Try.f20.results.toList = [.tmp 2, .tmp 3] := rfl
  rintro ⟨⟨(pi : Int), (ts : List (List Int)), (ns : List NodeD), (os : List Int)⟩, _⟩ hc hL
  simp only [K_specCnt, lensOk, PK.lenOk, glensOk, GP.lenOk, flensOk, GO.lenOk, olensOk, Ty.lenOk, Ty.flat, Bool.and_true, Bool.true_and, Bool.and_false, Bool.false_and, true_and, and_true, implies_true, forall_const] at hL
  simp only [K_specCnt, St.init, St.initG, Try.ntmps20, go_sem] 
  refine AWP_seq_k fun K1 hK1 => ?_
  refine AWP_region (G := G) (T := T_specClsOf) T_specClsOf_ok ?_
  simp only [go_sem]
  refine hK1 _ ?_
  refine AWP_seq_k fun K2 hK2 => ?_
  refine AWP_seq_k fun K3 hK3 => ?_
  refine AWP_region (G := G) (T := T_specClsOf) T_specClsOf_ok ?_
  simp only [go_sem]
  repeat (with_reducible refine And.intro (by first | omega | exact ⟨rfl, by omega, by omega, by omega⟩) ?_)
  refine hK3 _ ?_
  refine AWP_cond rfl ?_ ?_
  ·
   intro c0
   try simp only [decide_eq_true_eq, decide_eq_false_iff_not, Bool.not_eq_true', Bool.not_eq_false', ne_eq, Int.not_lt, Int.not_le] at c0
   refine AWP_seq_k fun K4 hK4 => ?_
   refine AWP_region (G := G) (T := T_specClsOf) T_specClsOf_ok ?_
   simp only [go_sem]
   refine hK4 _ ?_
   refine AWP_ret ?_
   simp only [hres, go_sem]
   first
     | exact finOk_mk (by rfl) (by decide)
     | refine ⟨?_, finOk_mk (by rfl) (by decide)⟩
       first | (rw [cntR_f c0]; exact ⟨rfl, rfl⟩) | (rw [cntR_f c0])
  ·
   intro c0
   try simp only [decide_eq_true_eq, decide_eq_false_iff_not, Bool.not_eq_true', Bool.not_eq_false', ne_eq, Int.not_lt, Int.not_le] at c0
   have hF := (patchB_parts c0).1
   have hU : uOk ts ns := uOk_patch (p := (pi, ts, ns, os)) hF
   refine AWP_skip ?_
   simp only [go_sem]
   refine hK2 _ ?_
   refine AWP_seq_k fun K5 hK5 => ?_
   refine AWP_region (G := G) (T := T_specClsOf) T_specClsOf_ok ?_
   simp (maxSteps := 2000000) only [go_sem]
   repeat (with_reducible refine And.intro (by first | omega | exact ⟨rfl, by omega, by omega, by omega⟩ | exact hU) ?_)
   refine hK5 _ ?_
   refine AWP_seq_k fun K6 hK6 => ?_
   refine AWP_region (G := G) (T := T_specClsOf) T_specClsOf_ok ?_
   simp only [go_sem]
   refine hK6 _ ?_
   refine AWP_ret ?_
   simp only [hres, go_sem]
   first
     | exact finOk_mk (by rfl) (by decide)
     | refine ⟨?_, finOk_mk (by rfl) (by decide)⟩
       first | (rw [cntR_t c0]; exact ⟨rfl, rfl⟩) | (rw [cntR_t c0]; rfl) | (rw [cntR_t c0])

theorem specCnt_fn : FnOk Try.prog 20 := fnOk_of Try.func20 rfl (by decide)

def T_specCnt : Tab := fun f => if f = 20 then some (.p K_specCnt) else T_specClsOf f
theorem T_specCnt_ok : TabOk Try.prog T_specCnt := fun f k h => by
  unfold T_specCnt at h
  split at h
  · rename_i e; cases h; subst e; exact ⟨specCnt_ok, specCnt_fn⟩
  · exact T_specClsOf_ok f k h
attribute [go_sem] T_specCnt K_specCnt


def K_specRed : Con := ⟨[.val ((.prod (.int .i64) (.prod (.row 24 (.row 2 (.int .i64))) (.prod (.row 56 (.prod (.int .i64) (.prod (.int .i64) (.prod (.int .i64) (.row 2 (.int .i64)))))) (.row 2 (.int .i64))))))], [⟨.bool, true⟩], fun _ => True, fun x => redB x.1⟩
set_option maxRecDepth 100000 in
set_option maxHeartbeats 1000000 in
theorem specRed_ok : PureT Try.prog 22 K_specRed := by
  refine pure_of_body Try.func22 rfl ?_
  have hres : Try.f22.results.toList = [.tmp 2] := rfl
  rintro ⟨⟨(pi : Int), (ts : List (List Int)), (ns : List NodeD), (os : List Int)⟩, _⟩ hc hL
  simp only [K_specRed, lensOk, PK.lenOk, glensOk, GP.lenOk, flensOk, GO.lenOk, olensOk, Ty.lenOk, Ty.flat, Bool.and_true, Bool.true_and, Bool.and_false, Bool.false_and, true_and, and_true, implies_true, forall_const] at hL
  simp only [K_specRed, St.init, St.initG, Try.ntmps22, go_sem] 
  refine AWP_seq_k fun K1 hK1 => ?_
  refine AWP_region (G := G) (T := T_specCnt) T_specCnt_ok ?_
  simp only [go_sem]
  refine hK1 _ ?_
  refine AWP_seq_k fun K2 hK2 => ?_
  refine AWP_seq_k fun K3 hK3 => ?_
  refine AWP_region (G := G) (T := T_specCnt) T_specCnt_ok ?_
  simp only [go_sem]
  repeat (with_reducible refine And.intro (by first | omega | exact ⟨rfl, by omega, by omega, by omega⟩) ?_)
  refine hK3 _ ?_
  refine AWP_cond rfl ?_ ?_
  ·
   intro c0
   try simp only [decide_eq_true_eq, decide_eq_false_iff_not, Bool.not_eq_true', Bool.not_eq_false', ne_eq, Int.not_lt, Int.not_le] at c0
   refine AWP_seq_k fun K4 hK4 => ?_
   refine AWP_region (G := G) (T := T_specCnt) T_specCnt_ok ?_
   simp only [go_sem]
   refine hK4 _ ?_
   refine AWP_ret ?_
   simp only [hres, go_sem]
   first
     | exact finOk_mk (by rfl) (by decide)
     | refine ⟨?_, finOk_mk (by rfl) (by decide)⟩
       unfold redB; rw [c0]; rfl
  ·
   intro c0
   try simp only [decide_eq_true_eq, decide_eq_false_iff_not, Bool.not_eq_true', Bool.not_eq_false', ne_eq, Int.not_lt, Int.not_le] at c0
   have hF := (patchB_parts c0).1
   have hU : uOk ts ns := uOk_patch (p := (pi, ts, ns, os)) hF
   refine AWP_skip ?_
   simp only [go_sem]
   refine hK2 _ ?_
   refine AWP_seq_k fun K5 hK5 => ?_
   refine AWP_region (G := G) (T := T_specCnt) T_specCnt_ok ?_
   simp (maxSteps := 2000000) only [go_sem]
   repeat (with_reducible refine And.intro (by first | omega | exact ⟨rfl, by omega, by omega, by omega⟩ | exact hU) ?_)
   refine hK5 _ ?_
   refine AWP_seq_k fun K6 hK6 => ?_
   refine AWP_region (G := G) (T := T_specCnt) T_specCnt_ok ?_
   simp (maxSteps := 2000000) only [go_sem]
   repeat (with_reducible refine And.intro (by first | omega | exact ⟨rfl, by omega, by omega, by omega⟩) ?_)
   refine hK6 _ ?_
   refine AWP_ret ?_
   simp only [hres, go_sem]
   first
     | exact finOk_mk (by rfl) (by decide)
     | refine ⟨?_, finOk_mk (by rfl) (by decide)⟩
       unfold redB; rw [c0]; rfl

theorem specRed_fn : FnOk Try.prog 22 := fnOk_of Try.func22 rfl (by decide)

def T_specRed : Tab := fun f => if f = 22 then some (.p K_specRed) else T_specCnt f
theorem T_specRed_ok : TabOk Try.prog T_specRed := fun f k h => by
  unfold T_specRed at h
  split at h
  · rename_i e; cases h; subst e; exact ⟨specRed_ok, specRed_fn⟩
  · exact T_specCnt_ok f k h
attribute [go_sem] T_specRed K_specRed


def K_specChk : Con := ⟨[.val ((.prod (.int .i64) (.prod (.row 24 (.row 2 (.int .i64))) (.prod (.row 56 (.prod (.int .i64) (.prod (.int .i64) (.prod (.int .i64) (.row 2 (.int .i64)))))) (.row 2 (.int .i64)))))), .val ((.row 2 (.int .i64)))], [⟨.bool, true⟩], fun _ => True, fun x => checkB x.1 x.2.1⟩
set_option maxRecDepth 100000 in
set_option maxHeartbeats 8000000 in
theorem specChk_ok : PureT Try.prog 9 K_specChk := by
  refine pure_of_body Try.func9 rfl ?_
  have hres : Try.f9.results.toList = [.tmp 4] := rfl
  rintro ⟨⟨(pi : Int), (ts : List (List Int)), (ns : List NodeD), (os : List Int)⟩, (cl : List Int), _⟩ hc hL
  simp only [K_specChk, lensOk, PK.lenOk, glensOk, GP.lenOk, flensOk, GO.lenOk, olensOk, Ty.lenOk, Ty.flat, Bool.and_true, Bool.true_and, Bool.and_false, Bool.false_and, true_and, and_true, implies_true, forall_const] at hL
  simp only [K_specChk, St.init, St.initG, Try.ntmps9, go_sem] 
  refine AWP_seq_k fun K1 hK1 => ?_
  refine AWP_region (G := G) (T := T_specRed) T_specRed_ok ?_
  simp only [go_sem]
  refine hK1 _ ?_
  refine AWP_seq_k fun K2 hK2 => ?_
  refine AWP_seq_k fun K3 hK3 => ?_
  refine AWP_region (G := G) (T := T_specRed) T_specRed_ok ?_
  simp (maxSteps := 2000000) only [go_sem]
  repeat' (first | (with_reducible refine And.intro (by first | omega | exact ⟨rfl, by omega, by omega, by omega⟩) ?_) | (with_reducible refine gcase_dt (fun g1 => ?_) (fun g1 => ?_)) | (with_reducible refine gcase_df (fun g1 => ?_) (fun g1 => ?_)) | (with_reducible refine gcase_ndt (fun g1 => ?_) (fun g1 => ?_)) | (with_reducible refine gcase_ndf (fun g1 => ?_) (fun g1 => ?_)) | (with_reducible refine gcase_nt (fun g1 => ?_) (fun g1 => ?_)) | (with_reducible refine gcase_nf (fun g1 => ?_) (fun g1 => ?_)) | (with_reducible refine gcase_mk (fun g1 => ?_) (fun g1 => ?_)))
  all_goals
   refine hK3 _ ?_
   refine AWP_cond rfl ?_ ?_
   ·
    intro c0
    try simp only [decide_eq_true_eq, decide_eq_false_iff_not, Bool.not_eq_true', Bool.not_eq_false', ne_eq, Int.not_lt, Int.not_le, Bool.true_eq_false, Bool.false_eq_true] at c0
    all_goals
     refine AWP_seq_k fun K4 hK4 => ?_
     refine AWP_region (G := G) (T := T_specRed) T_specRed_ok ?_
     simp only [go_sem]
     refine hK4 _ ?_
     refine AWP_ret ?_
     simp only [hres, go_sem]
     first
       | exact finOk_mk (by rfl) (by decide)
       | refine ⟨?_, finOk_mk (by rfl) (by decide)⟩
         first | exact (checkB_f1 (p := (pi, ts, ns, os)) (by assumption)).symm | exact (checkB_f2 (p := (pi, ts, ns, os)) (by show ¬ cl.length = ns.length; omega)).symm
   ·
    intro c0
    try simp only [decide_eq_true_eq, decide_eq_false_iff_not, Bool.not_eq_true', Bool.not_eq_false', ne_eq, Int.not_lt, Int.not_le, Bool.true_eq_false, Bool.false_eq_true] at c0
    all_goals
     have hP : patchB (pi, ts, ns, os) = true := by assumption
     have hlc : cl.length = ns.length := by omega
     have hF := (patchB_parts hP).1
     have hU : uOk ts ns := uOk_patch (p := (pi, ts, ns, os)) hF
     have hn24 : ns.length ≤ 24 := (formedB_parts hF).1
     refine AWP_skip ?_
     simp only [go_sem]
     refine hK2 _ ?_
     refine AWP_seq_k fun K5 hK5 => ?_
     refine AWP_seq_k fun K6 hK6 => ?_
     refine AWP_region (G := G) (T := T_specRed) T_specRed_ok ?_
     simp only [go_sem]
     refine hK6 _ ?_
     refine AWP_block ?_
     refine AWP_loop_k (ι := { k : Nat // k ≤ cl.length ∧ (cl.take k).all (fun i => inR i 0 23) = true }) (fun k => ⟨[zz, .c (.rd [] 2 (.int .i64) (cl)), .c (.po 132 0), zz, zz, .c (.sc (.int .i64 (k.1))), zz, zz, zz, zz, zz, zz, zz, zz, zz, zz, zz, zz, zz, zz, zz, zz, zz, zz, zz, zz, zz, zz, zz, zz, zz, zz, zz, zz, zz, zz, zz, zz, zz, zz, zz, zz, zz, zz, zz, zz, zz, zz, zz, zz, zz, zz, zz, zz, zz, zz, zz, zz, zz, zz, zz, zz, zz], [(132, .box [.sc (.int .i64 (pi)), .rd [] 24 ((.row 2 (.int .i64))) (ts), .rd [] 56 ((.prod (.int .i64) (.prod (.int .i64) (.prod (.int .i64) (.row 2 (.int .i64)))))) (ns), .rd [] 2 (.int .i64) (os)])]⟩) (fun k => cl.length - k.1) ⟨0, by simp⟩ ?_ ?_
     ·
      refine Wk_to (by rfl) ?_
      simp (maxSteps := 2000000) only [go_sem]
      all_goals (first | rfl | ((repeat' refine And.intro ?_ ?_) <;> first | rfl | simp))
     rintro ⟨k, hk, hp⟩ K7 hL7
     refine AWP_seq_k fun K8 hK8 => ?_
     refine AWP_seq_k fun K9 hK9 => ?_
     refine AWP_region (G := G) (T := T_specRed) T_specRed_ok ?_
     simp only [go_sem]
     refine hK9 _ ?_
     refine AWP_cond rfl ?_ ?_
     ·
      intro c1
      try simp only [decide_eq_true_eq, decide_eq_false_iff_not, Bool.not_eq_true', Bool.not_eq_false', ne_eq, Int.not_lt, Int.not_le, Bool.true_eq_false, Bool.false_eq_true] at c1
      all_goals
       refine AWP_skip ?_
       simp only [go_sem]
       refine hK8 _ ?_
       refine AWP_seq_k fun K10 hK10 => ?_
       refine AWP_block ?_
       refine AWP_seq_k fun K11 hK11 => ?_
       refine AWP_region (G := G) (T := T_specRed) T_specRed_ok ?_
       simp (maxSteps := 2000000) only [go_sem]
       repeat (with_reducible refine And.intro (by first | omega | exact ⟨rfl, by omega, by omega, by omega⟩) ?_)
       refine hK11 _ ?_
       refine AWP_cond rfl ?_ ?_
       ·
        intro c2
        try simp only [decide_eq_true_eq, decide_eq_false_iff_not, Bool.not_eq_true', Bool.not_eq_false', ne_eq, Int.not_lt, Int.not_le, Bool.true_eq_false, Bool.false_eq_true] at c2
        all_goals
         refine AWP_seq_k fun K12 hK12 => ?_
         refine AWP_region (G := G) (T := T_specRed) T_specRed_ok ?_
         simp only [go_sem]
         refine hK12 _ ?_
         refine AWP_ret ?_
         simp only [hres, go_sem]
         first
           | exact finOk_mk (by rfl) (by decide)
           | refine ⟨?_, finOk_mk (by rfl) (by decide)⟩
             exact (checkB_f3 (p := (pi, ts, ns, os)) (all_stop (k := k) (d := 0) (by omega) (by first | assumption | (clear hp; clear hK1 hK2 hK3 hK5 hK6 hL7 hK8 hK9 hK10 hK11 hK12; simp_all)))).symm
       ·
        intro c2
        try simp only [decide_eq_true_eq, decide_eq_false_iff_not, Bool.not_eq_true', Bool.not_eq_false', ne_eq, Int.not_lt, Int.not_le, Bool.true_eq_false, Bool.false_eq_true] at c2
        all_goals
         refine AWP_skip ?_
         simp only [go_sem]
         refine hK10 _ ?_
         refine AWP_region (G := G) (T := T_specRed) T_specRed_ok ?_
         simp only [go_sem]
         refine hL7 ⟨k + 1, by omega, all_next (d := 0) (by omega) hp (by first | assumption | (clear hK1 hK2 hK3 hK5 hK6 hL7 hK8 hK9 hK10 hK11; simp_all))⟩ _ (Wk_to (by rfl) ?_) ?_
         ·
          simp (maxSteps := 2000000) only [go_sem]
          first | rfl | exact wk (by omega)
         ·
          first | (simp only []; omega) | omega | (simp; omega)
     ·
      intro c1
      try simp only [decide_eq_true_eq, decide_eq_false_iff_not, Bool.not_eq_true', Bool.not_eq_false', ne_eq, Int.not_lt, Int.not_le, Bool.true_eq_false, Bool.false_eq_true] at c1
      all_goals
       have hix : idxs 24 cl = true := all_done hp (by omega)
       refine AWP_exit ?_
       simp only [go_sem]
       refine hK5 _ ?_
       refine AWP_seq_k fun K13 hK13 => ?_
       refine AWP_seq_k fun K14 hK14 => ?_
       refine AWP_region (G := G) (T := T_specRed) T_specRed_ok ?_
       simp only [go_sem]
       refine hK14 _ ?_
       refine AWP_block ?_
       refine AWP_loop_k (ι := { k : Nat // k ≤ cl.length ∧ ∀ i q, i < k → q < i → okp ts ns cl i q = true }) (fun k => ⟨[zz, .c (.rd [] 2 (.int .i64) (cl)), .c (.po 132 0), zz, zz, zz, .c (.sc (.int .i64 (k.1))), zz, zz, zz, zz, zz, zz, zz, zz, zz, zz, zz, zz, zz, zz, zz, zz, zz, zz, zz, zz, zz, zz, zz, zz, zz, zz, zz, zz, zz, zz, zz, zz, zz, zz, zz, zz, zz, zz, zz, zz, zz, zz, zz, zz, zz, zz, zz, zz, zz, zz, zz, zz, zz, zz, zz, zz], [(132, .box [.sc (.int .i64 (pi)), .rd [] 24 ((.row 2 (.int .i64))) (ts), .rd [] 56 ((.prod (.int .i64) (.prod (.int .i64) (.prod (.int .i64) (.row 2 (.int .i64)))))) (ns), .rd [] 2 (.int .i64) (os)])]⟩) (fun k => cl.length - k.1) ⟨0, by simp, fun i q hi _ => absurd hi (Nat.not_lt_zero _)⟩ ?_ ?_
       ·
        refine Wk_to (by rfl) ?_
        simp (maxSteps := 2000000) only [go_sem]
        all_goals ((repeat' refine And.intro ?_ ?_) <;> first | rfl | (congr 1; done) | simp)
       rintro ⟨k, hk, hkp⟩ K15 hL15
       refine AWP_seq_k fun K16 hK16 => ?_
       refine AWP_seq_k fun K17 hK17 => ?_
       refine AWP_region (G := G) (T := T_specRed) T_specRed_ok ?_
       simp only [go_sem]
       refine hK17 _ ?_
       refine AWP_cond rfl ?_ ?_
       ·
        intro c3
        try simp only [decide_eq_true_eq, decide_eq_false_iff_not, Bool.not_eq_true', Bool.not_eq_false', ne_eq, Int.not_lt, Int.not_le, Bool.true_eq_false, Bool.false_eq_true] at c3
        all_goals
         refine AWP_skip ?_
         simp only [go_sem]
         refine hK16 _ ?_
         refine AWP_seq_k fun K18 hK18 => ?_
         refine AWP_block ?_
         refine AWP_seq_k fun K19 hK19 => ?_
         refine AWP_region (G := G) (T := T_specRed) T_specRed_ok ?_
         simp only [go_sem]
         refine hK19 _ ?_
         refine AWP_block ?_
         refine AWP_loop_k (ι := { m : Nat // m ≤ k ∧ ∀ q, q < m → okp ts ns cl k q = true }) (fun k' => ⟨[zz, .c (.rd [] 2 (.int .i64) (cl)), .c (.po 132 0), zz, zz, zz, .c (.sc (.int .i64 (k))), .c (.sc (.int .i64 (k'.1))), zz, zz, zz, zz, zz, zz, zz, zz, zz, zz, zz, zz, zz, zz, zz, zz, zz, zz, zz, zz, zz, zz, zz, zz, zz, zz, zz, zz, zz, zz, zz, zz, zz, zz, zz, zz, zz, zz, zz, zz, zz, zz, zz, zz, zz, zz, zz, zz, zz, zz, zz, zz, zz, zz, zz], [(132, .box [.sc (.int .i64 (pi)), .rd [] 24 ((.row 2 (.int .i64))) (ts), .rd [] 56 ((.prod (.int .i64) (.prod (.int .i64) (.prod (.int .i64) (.row 2 (.int .i64)))))) (ns), .rd [] 2 (.int .i64) (os)])]⟩) (fun k' => k - k'.1) ⟨0, by simp, fun q hq => absurd hq (Nat.not_lt_zero _)⟩ ?_ ?_
         ·
          refine Wk_to (by rfl) ?_
          simp (maxSteps := 2000000) only [go_sem]
          all_goals ((repeat' refine And.intro ?_ ?_) <;> first | rfl | (congr 1; done) | simp)
         rintro ⟨m, hm, hmp⟩ K20 hL20
         refine AWP_seq_k fun K21 hK21 => ?_
         refine AWP_seq_k fun K22 hK22 => ?_
         refine AWP_region (G := G) (T := T_specRed) T_specRed_ok ?_
         simp only [go_sem]
         refine hK22 _ ?_
         refine AWP_cond rfl ?_ ?_
         ·
          intro c4
          try simp only [decide_eq_true_eq, decide_eq_false_iff_not, Bool.not_eq_true', Bool.not_eq_false', ne_eq, Int.not_lt, Int.not_le, Bool.true_eq_false, Bool.false_eq_true] at c4
          all_goals
           have hmk : m < k := by omega
           have hz1 : tabIx ts ((ns.getD k ((0, 0, 0, []) : NodeD)).1, (ns.getD k ((0, 0, 0, []) : NodeD)).2.1, (ns.getD k ((0, 0, 0, []) : NodeD)).2.2.1, (ns.getD k ((0, 0, 0, []) : NodeD)).2.2.2) := (hU.2 _ (getD_mem (d := ((0, 0, 0, []) : NodeD)) (show k < ns.length by omega))).1
           have hz2 : insIx cl.length ((ns.getD k ((0, 0, 0, []) : NodeD)).1, (ns.getD k ((0, 0, 0, []) : NodeD)).2.1, (ns.getD k ((0, 0, 0, []) : NodeD)).2.2.1, (ns.getD k ((0, 0, 0, []) : NodeD)).2.2.2) := by rw [hlc]; exact (hU.2 _ (getD_mem (d := ((0, 0, 0, []) : NodeD)) (show k < ns.length by omega))).2
           have hz3 : tabIx ts ((ns.getD m ((0, 0, 0, []) : NodeD)).1, (ns.getD m ((0, 0, 0, []) : NodeD)).2.1, (ns.getD m ((0, 0, 0, []) : NodeD)).2.2.1, (ns.getD m ((0, 0, 0, []) : NodeD)).2.2.2) := (hU.2 _ (getD_mem (d := ((0, 0, 0, []) : NodeD)) (show m < ns.length by omega))).1
           have hz4 : insIx cl.length ((ns.getD m ((0, 0, 0, []) : NodeD)).1, (ns.getD m ((0, 0, 0, []) : NodeD)).2.1, (ns.getD m ((0, 0, 0, []) : NodeD)).2.2.1, (ns.getD m ((0, 0, 0, []) : NodeD)).2.2.2) := by rw [hlc]; exact (hU.2 _ (getD_mem (d := ((0, 0, 0, []) : NodeD)) (show m < ns.length by omega))).2
           refine AWP_skip ?_
           simp only [go_sem]
           refine hK21 _ ?_
           refine AWP_seq_k fun K23 hK23 => ?_
           refine AWP_block ?_
           refine AWP_seq_k fun K24 hK24 => ?_
           refine AWP_draw (G := G) (T := T_specRed) T_specRed_ok mixed
             [[], [], [0, 1], [0, 1, 2], [], [], [4, 5], [4, 5, 6], [0, 1, 2, 3, 4, 5, 6, 7], [0, 1, 2, 3, 4, 5, 6, 7, 8], [0, 1, 2, 3, 4, 5, 6, 7, 8, 9], [0, 1, 2, 3, 4, 5, 6, 7, 8, 9], [0, 1, 2, 3, 4, 5, 6, 7, 8, 9, 11], [0, 1, 2, 3, 4, 5, 6, 7, 8, 9], [0, 1, 2, 3, 4, 5, 6, 7, 8, 9, 11, 12, 13], [0, 1, 2, 3, 4, 5, 6, 7, 8, 9], [0, 1, 2, 3, 4, 5, 6, 7, 8, 9, 15], [0, 1, 2, 3, 4, 5, 6, 7, 8, 9], [0, 1, 2, 3, 4, 5, 6, 7, 8, 9, 15, 16, 17], [0, 1, 2, 3, 4, 5, 6, 7, 8, 9, 10, 11, 12, 13, 14, 15, 16, 17, 18], [0, 1, 2, 3, 4, 5, 6, 7, 8, 9, 10, 11, 12, 13, 14, 15, 16, 17, 18, 19], [0, 1, 2, 3, 4, 5, 6, 7, 8, 9, 10, 11, 12, 13, 14, 15, 16, 17, 18, 19, 20]]
             [[], [], [], [], [], [], [], [], [], [], [], [], [], [], [], [], [], [], [], [], [], []]
             [[], [], [], [], [], [], [], [], [], [], [], [], [], [], [], [], [], [], [], [], [], []] (by kernel_rfl) (by kernel_rfl) (adrawR_ok (acc := []) ?_)
           simp (maxSteps := 2000000) only [go_sem]
           repeat' (first | (with_reducible refine And.intro (by first | exact chk_leaf (by kernel_rfl) | omega | exact ⟨rfl, by omega, by omega, by omega⟩ | exact ⟨by omega, by omega⟩ | exact ⟨hz1, hz3, hz2, hz4⟩) ?_) | (with_reducible refine gcase_dt (fun g14 => ?_) (fun g14 => ?_)) | (with_reducible refine gcase_df (fun g14 => ?_) (fun g14 => ?_)) | (with_reducible refine gcase_ndt (fun g14 => ?_) (fun g14 => ?_)) | (with_reducible refine gcase_ndf (fun g14 => ?_) (fun g14 => ?_)) | (with_reducible refine gcase_nt (fun g14 => ?_) (fun g14 => ?_)) | (with_reducible refine gcase_nf (fun g14 => ?_) (fun g14 => ?_)) | (with_reducible refine gcase_mk (fun g14 => ?_) (fun g14 => ?_)))
           all_goals
            refine hK24 _ ?_
            refine AWP_cond rfl ?_ ?_
            ·
             intro c5
             try simp only [decide_eq_true_eq, decide_eq_false_iff_not, Bool.not_eq_true', Bool.not_eq_false', ne_eq, Int.not_lt, Int.not_le, Bool.true_eq_false, Bool.false_eq_true] at c5
             all_goals
              have hok : okp ts ns cl k m = false := by clear hK1 hK2 hK3 hK5 hK6 hL7 hK8 hK9 hK13 hK14 hL15 hK16 hK17 hK18 hK19 hL20 hK21 hK22 hK23 hK24; simp_all [okp, n0]
              refine AWP_seq_k fun K25 hK25 => ?_
              refine AWP_region (G := G) (T := T_specRed) T_specRed_ok ?_
              simp only [go_sem]
              refine hK25 _ ?_
              refine AWP_ret ?_
              simp only [hres, go_sem]
              first
                | exact finOk_mk (by rfl) (by decide)
                | refine ⟨?_, finOk_mk (by rfl) (by decide)⟩
                  exact (checkB_f4 (p := (pi, ts, ns, os)) (i := k) (k := m) (by omega) (by omega) hok).symm
            ·
             intro c5
             try simp only [decide_eq_true_eq, decide_eq_false_iff_not, Bool.not_eq_true', Bool.not_eq_false', ne_eq, Int.not_lt, Int.not_le, Bool.true_eq_false, Bool.false_eq_true] at c5
             all_goals
              have hok : okp ts ns cl k m = true := by clear hK1 hK2 hK3 hK5 hK6 hL7 hK8 hK9 hK13 hK14 hL15 hK16 hK17 hK18 hK19 hL20 hK21 hK22 hK23 hK24; simp_all [okp, n0]
              refine AWP_skip ?_
              simp only [go_sem]
              refine hK23 _ ?_
              refine AWP_region (G := G) (T := T_specRed) T_specRed_ok ?_
              simp only [go_sem]
              refine hL20 ⟨m + 1, by omega, fun q hq => by rcases Nat.lt_succ_iff_lt_or_eq.1 hq with h | h; exact hmp q h; subst h; exact hok⟩ _ (Wk_to (by rfl) ?_) ?_
              ·
               simp (maxSteps := 2000000) only [go_sem]
               all_goals ((repeat' refine And.intro ?_ ?_) <;> first | rfl | exact wk (by omega))
              ·
               first | (simp only []; omega) | omega | (simp; omega)
         ·
          intro c4
          try simp only [decide_eq_true_eq, decide_eq_false_iff_not, Bool.not_eq_true', Bool.not_eq_false', ne_eq, Int.not_lt, Int.not_le, Bool.true_eq_false, Bool.false_eq_true] at c4
          all_goals
           refine AWP_exit ?_
           simp only [go_sem]
           refine hK18 _ ?_
           refine AWP_region (G := G) (T := T_specRed) T_specRed_ok ?_
           simp only [go_sem]
           refine hL15 ⟨k + 1, by omega, fun i q hi hq => by rcases Nat.lt_succ_iff_lt_or_eq.1 hi with h | h; exact hkp i q h hq; subst h; exact hmp q (by omega)⟩ _ (Wk_to (by rfl) ?_) ?_
           ·
            simp (maxSteps := 2000000) only [go_sem]
            all_goals ((repeat' refine And.intro ?_ ?_) <;> first | rfl | exact wk (by omega))
           ·
            first | (simp only []; omega) | omega | (simp; omega)
       ·
        intro c3
        try simp only [decide_eq_true_eq, decide_eq_false_iff_not, Bool.not_eq_true', Bool.not_eq_false', ne_eq, Int.not_lt, Int.not_le, Bool.true_eq_false, Bool.false_eq_true] at c3
        all_goals
         refine AWP_exit ?_
         simp only [go_sem]
         refine hK13 _ ?_
         refine AWP_seq_k fun K26 hK26 => ?_
         refine AWP_region (G := G) (T := T_specRed) T_specRed_ok ?_
         simp only [go_sem]
         refine hK26 _ ?_
         refine AWP_ret ?_
         simp only [hres, go_sem]
         first
           | exact finOk_mk (by rfl) (by decide)
           | refine ⟨?_, finOk_mk (by rfl) (by decide)⟩
             refine (checkB_t (p := (pi, ts, ns, os)) hP hlc hix fun i q hi hq => ?_).symm
             rcases Nat.lt_trichotomy i q with h | h | h
             · rw [okp_symm]; exact hkp q i (by omega) h
             · subst h; exact okp_rfl
             · exact hkp i q (by omega) h

theorem specChk_fn : FnOk Try.prog 9 := fnOk_of Try.func9 rfl (by decide)

def T_specChk : Tab := fun f => if f = 9 then some (.p K_specChk) else T_specRed f
theorem T_specChk_ok : TabOk Try.prog T_specChk := fun f k h => by
  unfold T_specChk at h
  split at h
  · rename_i e; cases h; subst e; exact ⟨specChk_ok, specChk_fn⟩
  · exact T_specRed_ok f k h
attribute [go_sem] T_specChk K_specChk

end Go.Proofs.Ythfopaimihmgiaa
