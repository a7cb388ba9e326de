/-
  Contracts of functions: unionCode.
-/
import Derived.Test.YthfopaimihmgiaaGreatGa6
import Derived.Test.YthfopaimihmgiaaGreatPe
namespace Go.Proofs.YthfopaimihmgiaaGreat
open Go.RowKit
set_option linter.unusedSimpArgs false
set_option linter.unusedVariables false

def K_unionCode : Con := ⟨[.val (.prod (.int .i64) (.prod (.row 24 (.row 2 (.int .i64))) (.prod (.row 102 (.prod (.int .i64) (.prod (.int .i64) (.prod (.int .i64) (.row 2 (.int .i64)))))) (.row 2 (.int .i64))))), .val (.prod (.int .i64) (.prod (.row 24 (.row 2 (.int .i64))) (.prod (.row 102 (.prod (.int .i64) (.prod (.int .i64) (.prod (.int .i64) (.row 2 (.int .i64)))))) (.row 2 (.int .i64)))))], [⟨.int .i64, true⟩], fun _ => True, fun x => ask2 x.1 x.2.1⟩
set_option maxRecDepth 100000 in
set_option maxHeartbeats 1000000 in
theorem unionCode_ok : PureT Tryz.prog 63 K_unionCode := by
  refine pure_of_body Tryz.func63 rfl ?_
  have hres : Tryz.f63.results.toList = [.tmp 4] := rfl
  rintro ⟨⟨(pi : Int), (ts : List (List Int)), (ns : List NodeD), (os : List Int)⟩, ⟨(pi2 : Int), (ts2 : List (List Int)), (ns2 : List NodeD), (os2 : List Int)⟩, _⟩ hc hL
  simp only [K_unionCode, lensOk, PK.lenOk, glensOk, GP.lenOk, flensOk, GO.lenOk, olensOk, Ty.lenOk, Ty.flat, Bool.and_true, Bool.true_and, Bool.and_false, Bool.false_and, true_and, and_true, implies_true, forall_const] at hL
  simp only [K_unionCode, St.init, St.initG, Tryz.ntmps63, go_sem] 
  refine AWP_seq_k fun K1 hK1 => ?_
  refine AWP_region (G := G) (T := T_isPatch) T_isPatch_ok ?_
  simp only [go_sem]
  refine hK1 _ ?_
  refine AWP_seq_k fun K2 hK2 => ?_
  refine AWP_seq_k fun K3 hK3 => ?_
  refine AWP_region (G := G) (T := T_isPatch) T_isPatch_ok ?_
  simp (maxSteps := 2000000) only [go_sem]
  repeat' (first | (with_reducible refine And.intro (by first | omega | exact ⟨rfl, by omega, by omega, by omega⟩) ?_) | (with_reducible refine gcase_dt (fun g1 => ?_) (fun g1 => ?_)) | (with_reducible refine gcase_df (fun g1 => ?_) (fun g1 => ?_)) | (with_reducible refine gcase_ndt (fun g1 => ?_) (fun g1 => ?_)) | (with_reducible refine gcase_ndf (fun g1 => ?_) (fun g1 => ?_)) | (with_reducible refine gcase_nt (fun g1 => ?_) (fun g1 => ?_)) | (with_reducible refine gcase_nf (fun g1 => ?_) (fun g1 => ?_)) | (with_reducible refine gcase_mk (fun g1 => ?_) (fun g1 => ?_)))
  all_goals
   refine hK3 _ ?_
   refine AWP_cond rfl ?_ ?_
   ·
    intro c0
    try simp only [decide_eq_true_eq, decide_eq_false_iff_not, Bool.not_eq_true', Bool.not_eq_false', ne_eq, Int.not_lt, Int.not_le, Bool.true_eq_false, Bool.false_eq_true] at c0
    all_goals
     refine AWP_seq_k fun K4 hK4 => ?_
     refine AWP_region (G := G) (T := T_isPatch) T_isPatch_ok ?_
     simp only [go_sem]
     refine hK4 _ ?_
     refine AWP_ret ?_
     simp only [hres, go_sem]
     first
       | exact finOk_mk (by rfl) (by decide)
       | refine ⟨?_, finOk_mk (by rfl) (by decide)⟩
         clear hK1 hK2 hK3 hK4; simp_all [ask2]
   ·
    intro c0
    try simp only [decide_eq_true_eq, decide_eq_false_iff_not, Bool.not_eq_true', Bool.not_eq_false', ne_eq, Int.not_lt, Int.not_le, Bool.true_eq_false, Bool.false_eq_true] at c0
    all_goals
     refine AWP_skip ?_
     simp only [go_sem]
     refine hK2 _ ?_
     refine AWP_seq_k fun K5 hK5 => ?_
     refine AWP_seq_k fun K6 hK6 => ?_
     refine AWP_region (G := G) (T := T_isPatch) T_isPatch_ok ?_
     simp (maxSteps := 2000000) only [go_sem]
     repeat (with_reducible refine And.intro (by first | omega | exact ⟨rfl, by omega, by omega, by omega⟩) ?_)
     refine hK6 _ ?_
     refine AWP_cond rfl ?_ ?_
     ·
      intro c1
      try simp only [decide_eq_true_eq, decide_eq_false_iff_not, Bool.not_eq_true', Bool.not_eq_false', ne_eq, Int.not_lt, Int.not_le, Bool.true_eq_false, Bool.false_eq_true] at c1
      all_goals
       refine AWP_seq_k fun K7 hK7 => ?_
       refine AWP_region (G := G) (T := T_isPatch) T_isPatch_ok ?_
       simp only [go_sem]
       refine hK7 _ ?_
       refine AWP_ret ?_
       simp only [hres, go_sem]
       first
         | exact finOk_mk (by rfl) (by decide)
         | refine ⟨?_, finOk_mk (by rfl) (by decide)⟩
           clear hK1 hK2 hK3 hK5 hK6 hK7; simp_all [ask2]
     ·
      intro c1
      try simp only [decide_eq_true_eq, decide_eq_false_iff_not, Bool.not_eq_true', Bool.not_eq_false', ne_eq, Int.not_lt, Int.not_le, Bool.true_eq_false, Bool.false_eq_true] at c1
      all_goals
       refine AWP_skip ?_
       simp only [go_sem]
       refine hK5 _ ?_
       refine AWP_seq_k fun K8 hK8 => ?_
       refine AWP_region (G := G) (T := T_isPatch) T_isPatch_ok ?_
       simp only [go_sem]
       refine hK8 _ ?_
       refine AWP_ret ?_
       simp only [hres, go_sem]
       first
         | exact finOk_mk (by rfl) (by decide)
         | refine ⟨?_, finOk_mk (by rfl) (by decide)⟩
           clear hK1 hK2 hK3 hK5 hK6 hK8; simp_all [ask2]

theorem unionCode_fn : FnOk Tryz.prog 63 := fnOk_of Tryz.func63 rfl (by decide)

def T_unionCode : Tab := fun f => if f = 63 then some (.p K_unionCode) else T_isPatch f
theorem T_unionCode_ok : TabOk Tryz.prog T_unionCode := fun f k h => by
  unfold T_unionCode at h
  split at h
  · rename_i e; cases h; subst e; exact ⟨unionCode_ok, unionCode_fn⟩
  · exact T_isPatch_ok f k h
attribute [go_sem] T_unionCode K_unionCode

end Go.Proofs.YthfopaimihmgiaaGreat
