/-
  Contracts of functions: l07Ok, l12Ask.
-/
import Derived.Test.YthglggjgjlmhlaaGb4
import Derived.Test.YthglggjgjlmhlaaGb5
namespace Go.Proofs.Ythglggjgjlmhlaa
open Go.RowKit
set_option linter.unusedSimpArgs false
set_option linter.unusedVariables false

def T_mGb60 : Tab := fun f => match T_l07Formed f with
  | some k => some k
  | none => T_l07Order f
theorem T_mGb60_ok : TabOk Try.prog T_mGb60 := fun f k h => by
  unfold T_mGb60 at h
  split at h
  · rename_i e; cases h; exact T_l07Formed_ok f _ e
  · exact T_l07Order_ok f k h
attribute [go_sem] T_mGb60 T0


def K_l07Ok : Con := ⟨[.ptr (.prod (.int .i64) (.prod (.row 24 (.row 2 (.int .i64))) (.prod (.row 140 (.prod (.int .i64) (.prod (.int .i64) (.prod (.int .i64) (.row 2 (.int .i64)))))) (.row 2 (.int .i64)))))], [⟨.bool, true⟩], fun _ => True, fun x => patchB x.1⟩
set_option maxRecDepth 100000 in
set_option maxHeartbeats 1000000 in
theorem l07Ok_ok : PureT Try.prog 70 K_l07Ok := by
  refine pure_of_body Try.func70 rfl ?_
  have hres : Try.f70.results.toList = [.tmp 2] := rfl
  rintro ⟨⟨(pi : Int), (ts : List (List Int)), (ns : List NodeD), (os : List Int)⟩, _⟩ hc hL
  simp only [K_l07Ok, lensOk, PK.lenOk, glensOk, GP.lenOk, flensOk, GO.lenOk, olensOk, Ty.lenOk, Ty.flat, Bool.and_true, Bool.true_and, Bool.and_false, Bool.false_and, true_and, and_true, implies_true, forall_const] at hL
  obtain ⟨⟨lts, lts2⟩, ⟨lns, lns2⟩, los⟩ := hL
  simp only [K_l07Ok, St.init, St.initG, Try.ntmps70, go_sem] 
  refine AWP_seq_k fun K1 hK1 => ?_
  refine AWP_region (G := G) (T := T_mGb60) T_mGb60_ok ?_
  simp only [go_sem]
  repeat (with_reducible refine And.intro (by first | omega | exact ⟨rfl, by omega, by omega, by omega⟩ | assumption) ?_)
  refine hK1 _ ?_
  refine AWP_seq_k fun K2 hK2 => ?_
  refine AWP_seq_k fun K3 hK3 => ?_
  refine AWP_region (G := G) (T := T_mGb60) T_mGb60_ok ?_
  simp only [go_sem]
  repeat (with_reducible refine And.intro (by first | omega | exact ⟨rfl, by omega, by omega, by omega⟩ | assumption) ?_)
  refine hK3 _ ?_
  refine AWP_cond rfl ?_ ?_
  ·
   intro c0
   try simp only [decide_eq_true_eq, decide_eq_false_iff_not, Bool.not_eq_true', Bool.not_eq_false', ne_eq, Int.not_lt, Int.not_le] at c0
   refine AWP_seq_k fun K4 hK4 => ?_
   refine AWP_region (G := G) (T := T_mGb60) T_mGb60_ok ?_
   simp only [go_sem]
   repeat (with_reducible refine And.intro (by first | omega | exact ⟨rfl, by omega, by omega, by omega⟩ | assumption) ?_)
   refine hK4 _ ?_
   refine AWP_ret ?_
   simp only [hres, go_sem]
   first
     | exact finOk_mk (by rfl) (by decide)
     | refine ⟨?_, finOk_mk (by rfl) (by decide)⟩
       clear hK1 hK2 hK3 hK4; unfold patchB; simp_all [ordR] <;> (split <;> simp_all)
  ·
   intro c0
   try simp only [decide_eq_true_eq, decide_eq_false_iff_not, Bool.not_eq_true', Bool.not_eq_false', ne_eq, Int.not_lt, Int.not_le] at c0
   refine AWP_skip ?_
   simp only [go_sem]
   refine hK2 _ ?_
   refine AWP_seq_k fun K5 hK5 => ?_
   refine AWP_region (G := G) (T := T_mGb60) T_mGb60_ok ?_
   simp (maxSteps := 2000000) only [go_sem]
   repeat (with_reducible refine And.intro (by first | omega | exact ⟨rfl, by omega, by omega, by omega⟩ | assumption) ?_)
   refine hK5 _ ?_
   refine AWP_seq_k fun K6 hK6 => ?_
   refine AWP_region (G := G) (T := T_mGb60) T_mGb60_ok ?_
   simp only [go_sem]
   repeat (with_reducible refine And.intro (by first | omega | exact ⟨rfl, by omega, by omega, by omega⟩ | assumption) ?_)
   refine hK6 _ ?_
   refine AWP_ret ?_
   simp only [hres, go_sem]
   first
     | exact finOk_mk (by rfl) (by decide)
     | refine ⟨?_, finOk_mk (by rfl) (by decide)⟩
       clear hK1 hK2 hK3 hK5 hK6; unfold patchB; simp_all [ordR] <;> (split <;> simp_all)

theorem l07Ok_fn : FnOk Try.prog 70 := fnOk_of Try.func70 rfl (by decide)

def T_l07Ok : Tab := fun f => if f = 70 then some (.p K_l07Ok) else T_mGb60 f
theorem T_l07Ok_ok : TabOk Try.prog T_l07Ok := fun f k h => by
  unfold T_l07Ok at h
  split at h
  · rename_i e; cases h; subst e; exact ⟨l07Ok_ok, l07Ok_fn⟩
  · exact T_mGb60_ok f k h
attribute [go_sem] T_l07Ok K_l07Ok


def K_l12Ask : Con := ⟨[.ptr (.prod (.int .i64) (.prod (.row 24 (.row 2 (.int .i64))) (.prod (.row 140 (.prod (.int .i64) (.prod (.int .i64) (.prod (.int .i64) (.row 2 (.int .i64)))))) (.row 2 (.int .i64))))), .ptr (.prod (.int .i64) (.prod (.row 24 (.row 2 (.int .i64))) (.prod (.row 140 (.prod (.int .i64) (.prod (.int .i64) (.prod (.int .i64) (.row 2 (.int .i64)))))) (.row 2 (.int .i64)))))], [⟨.int .i64, true⟩], fun _ => True, fun x => ask2 x.1 x.2.1⟩
set_option maxRecDepth 100000 in
set_option maxHeartbeats 1000000 in
theorem l12Ask_ok : PureT Try.prog 83 K_l12Ask := by
  refine pure_of_body Try.func83 rfl ?_
  have hres : Try.f83.results.toList = [.tmp 4] := rfl
  rintro ⟨⟨(pi : Int), (ts : List (List Int)), (ns : List NodeD), (os : List Int)⟩, ⟨(pi2 : Int), (ts2 : List (List Int)), (ns2 : List NodeD), (os2 : List Int)⟩, _⟩ hc hL
  simp only [K_l12Ask, lensOk, PK.lenOk, glensOk, GP.lenOk, flensOk, GO.lenOk, olensOk, Ty.lenOk, Ty.flat, Bool.and_true, Bool.true_and, Bool.and_false, Bool.false_and, true_and, and_true, implies_true, forall_const] at hL
  simp only [K_l12Ask, St.init, St.initG, Try.ntmps83, go_sem] 
  refine AWP_seq_k fun K1 hK1 => ?_
  refine AWP_region (G := G) (T := T_l07Ok) T_l07Ok_ok ?_
  simp only [go_sem]
  refine hK1 _ ?_
  refine AWP_seq_k fun K2 hK2 => ?_
  refine AWP_seq_k fun K3 hK3 => ?_
  refine AWP_region (G := G) (T := T_l07Ok) T_l07Ok_ok ?_
  simp (maxSteps := 2000000) only [go_sem]
  repeat' (first | (with_reducible refine And.intro (by first | omega | exact ⟨rfl, by omega, by omega, by omega⟩) ?_) | (with_reducible refine gcase_dt (fun g1 => ?_) (fun g1 => ?_)) | (with_reducible refine gcase_df (fun g1 => ?_) (fun g1 => ?_)) | (with_reducible refine gcase_ndt (fun g1 => ?_) (fun g1 => ?_)) | (with_reducible refine gcase_ndf (fun g1 => ?_) (fun g1 => ?_)) | (with_reducible refine gcase_nt (fun g1 => ?_) (fun g1 => ?_)) | (with_reducible refine gcase_nf (fun g1 => ?_) (fun g1 => ?_)) | (with_reducible refine gcase_mk (fun g1 => ?_) (fun g1 => ?_)))
  all_goals
   refine hK3 _ ?_
   refine AWP_cond rfl ?_ ?_
   ·
    intro c0
    try simp only [decide_eq_true_eq, decide_eq_false_iff_not, Bool.not_eq_true', Bool.not_eq_false', ne_eq, Int.not_lt, Int.not_le, Bool.true_eq_false, Bool.false_eq_true] at c0
    all_goals
     refine AWP_seq_k fun K4 hK4 => ?_
     refine AWP_region (G := G) (T := T_l07Ok) T_l07Ok_ok ?_
     simp only [go_sem]
     refine hK4 _ ?_
     refine AWP_ret ?_
     simp only [hres, go_sem]
     first
       | exact finOk_mk (by rfl) (by decide)
       | refine ⟨?_, finOk_mk (by rfl) (by decide)⟩
         clear hK1 hK2 hK3 hK4; simp_all [ask2]
   ·
    intro c0
    try simp only [decide_eq_true_eq, decide_eq_false_iff_not, Bool.not_eq_true', Bool.not_eq_false', ne_eq, Int.not_lt, Int.not_le, Bool.true_eq_false, Bool.false_eq_true] at c0
    all_goals
     refine AWP_skip ?_
     simp only [go_sem]
     refine hK2 _ ?_
     refine AWP_seq_k fun K5 hK5 => ?_
     refine AWP_seq_k fun K6 hK6 => ?_
     refine AWP_draw (G := G) (T := T_l07Ok) T_l07Ok_ok mixed
       [[], [0], [0, 1], [0, 1, 2], [], [4], [4, 5], [4, 5, 6], [0, 1, 2, 3, 4, 5, 6, 7]]
       [[], [], [], [], [], [], [], [], []]
       [[], [], [], [], [], [], [], [], []] (by kernel_rfl) (by kernel_rfl) (adrawR_ok (acc := []) ?_)
     simp (maxSteps := 2000000) only [go_sem]
     repeat (with_reducible refine And.intro (by first | exact chk_leaf (by kernel_rfl) | omega | exact ⟨rfl, by omega, by omega, by omega⟩) ?_)
     refine hK6 _ ?_
     refine AWP_cond rfl ?_ ?_
     ·
      intro c1
      try simp only [decide_eq_true_eq, decide_eq_false_iff_not, Bool.not_eq_true', Bool.not_eq_false', ne_eq, Int.not_lt, Int.not_le, Bool.true_eq_false, Bool.false_eq_true] at c1
      all_goals
       refine AWP_seq_k fun K7 hK7 => ?_
       refine AWP_region (G := G) (T := T_l07Ok) T_l07Ok_ok ?_
       simp only [go_sem]
       refine hK7 _ ?_
       refine AWP_ret ?_
       simp only [hres, go_sem]
       first
         | exact finOk_mk (by rfl) (by decide)
         | refine ⟨?_, finOk_mk (by rfl) (by decide)⟩
           clear hK1 hK2 hK3 hK5 hK6 hK7; simp_all [ask2]
     ·
      intro c1
      try simp only [decide_eq_true_eq, decide_eq_false_iff_not, Bool.not_eq_true', Bool.not_eq_false', ne_eq, Int.not_lt, Int.not_le, Bool.true_eq_false, Bool.false_eq_true] at c1
      all_goals
       refine AWP_skip ?_
       simp only [go_sem]
       refine hK5 _ ?_
       refine AWP_seq_k fun K8 hK8 => ?_
       refine AWP_region (G := G) (T := T_l07Ok) T_l07Ok_ok ?_
       simp only [go_sem]
       refine hK8 _ ?_
       refine AWP_ret ?_
       simp only [hres, go_sem]
       first
         | exact finOk_mk (by rfl) (by decide)
         | refine ⟨?_, finOk_mk (by rfl) (by decide)⟩
           clear hK1 hK2 hK3 hK5 hK6 hK8; simp_all [ask2]

theorem l12Ask_fn : FnOk Try.prog 83 := fnOk_of Try.func83 rfl (by decide)

def T_l12Ask : Tab := fun f => if f = 83 then some (.p K_l12Ask) else T_l07Ok f
theorem T_l12Ask_ok : TabOk Try.prog T_l12Ask := fun f k h => by
  unfold T_l12Ask at h
  split at h
  · rename_i e; cases h; subst e; exact ⟨l12Ask_ok, l12Ask_fn⟩
  · exact T_l07Ok_ok f k h
attribute [go_sem] T_l12Ask K_l12Ask

end Go.Proofs.Ythglggjgjlmhlaa
