/-
  Contracts of functions: classes.
-/
import Derived.Test.YthfopaimihmgiaaGreatHc2
import Derived.Test.YthfopaimihmgiaaGreatHc3
namespace Go.Proofs.YthfopaimihmgiaaGreat
open Go.RowKit
set_option linter.unusedSimpArgs false
set_option linter.unusedVariables false

def K_classes : Con := ⟨[.val ((.prod (.row 24 (.row 2 (.int .i64))) (.prod (.row 102 (.prod (.int .i64) (.prod (.int .i64) (.prod (.int .i64) (.row 2 (.int .i64)))))) (.row 2 (.int .i64)))))], [⟨(.row 2 (.int .i64)), true⟩], fun x => uOk x.1.1 x.1.2.1, fun x => clsF x.1.1 x.1.2.1⟩
set_option maxRecDepth 100000 in
set_option maxHeartbeats 8000000 in
theorem classes_ok : PureT Tryz.prog 65 K_classes := by
  refine pure_of_body Tryz.func65 rfl ?_
  have hres : Tryz.f65.results.toList = [.tmp 2] := rfl
  rintro ⟨⟨(ts : List (List Int)), (ns : List NodeD), (os : List Int)⟩, _⟩ hc hL
  simp only [K_classes, lensOk, PK.lenOk, glensOk, GP.lenOk, flensOk, GO.lenOk, olensOk, Ty.lenOk, Ty.flat, Bool.and_true, Bool.true_and, Bool.and_false, Bool.false_and, true_and, and_true, implies_true, forall_const] at hL
  simp only [K_classes, St.init, St.initG, Tryz.ntmps65, go_sem] 
  have hU : uOk ts ns := hc
  have hul : ns.length ≤ 48 := hU.1
  refine AWP_seq_k fun K1 hK1 => ?_
  refine AWP_region (G := G) (T := T_divide1) T_divide1_ok ?_
  simp only [go_sem]
  refine hK1 _ ?_
  refine AWP_seq_k fun K2 hK2 => ?_
  refine AWP_region (G := G) (T := T_divide1) T_divide1_ok ?_
  simp (maxSteps := 2000000) only [List.nodup_nil, go_sem]
  repeat (with_reducible refine And.intro (by first | omega | exact ⟨rfl, by omega, by omega, by omega⟩ | exact ⟨hU, rfl⟩) ?_)
  refine hK2 _ ?_
  refine AWP_block ?_
  refine AWP_loop_k (ι := { j : Nat // ∀ q, q < j → clsI ts ns (q + 1) ≠ clsI ts ns q }) (fun k => ⟨[zz, .c (.po 116 0), zz, .c (.po 148 0), zz, zz, zz, zz, zz, zz, zz, zz, zz, zz, zz, zz], [(116, .box [.rd [] 24 ((.row 2 (.int .i64))) (ts), .rd [] 102 ((.prod (.int .i64) (.prod (.int .i64) (.prod (.int .i64) (.row 2 (.int .i64)))))) (ns), .rd [] 2 (.int .i64) (os)]), (148, .box [.ow 9001]), (9001, .row 2 (.int .i64) (clsI ts ns k.1) [])]⟩) (fun k => ns.length - k.1) ⟨0, fun q hq => absurd hq (Nat.not_lt_zero _)⟩ ?_ ?_
  ·
   refine Wk_to (by rfl) ?_
   simp (maxSteps := 2000000) only [go_sem]
   all_goals ((repeat' refine And.intro ?_ ?_) <;> first | rfl | (congr 1; done))
  rintro ⟨j, hj⟩ K3 hL3
  have hcl : (clsI ts ns j).length = ns.length := clsI_len j
  have hjn : j ≤ ns.length := Nat.le_trans (clsN_grow j hj) (clsN_le j)
  have hsx : (divC (byKey (phi ts ns (clsI ts ns j))) ns.length).1 = clsI ts ns (j + 1) := rfl
  refine AWP_block ?_
  refine AWP_seq_k fun K4 hK4 => ?_
  refine AWP_region (G := G) (T := T_divide2) T_divide2_ok ?_
  simp only [go_sem]
  repeat (with_reducible refine And.intro (by first | omega | exact ⟨rfl, by omega, by omega, by omega⟩ | exact ⟨hU, hcl, rfl⟩ | exact ⟨hU, hcl⟩) ?_)
  refine hK4 _ ?_
  refine AWP_seq_k fun K5 hK5 => ?_
  refine AWP_seq_k fun K6 hK6 => ?_
  refine AWP_region (G := G) (T := T_divide1) T_divide1_ok ?_
  simp only [hsx, go_sem]
  repeat (with_reducible refine And.intro (by first | omega | exact ⟨rfl, by omega, by omega, by omega⟩) ?_)
  refine hK6 _ ?_
  refine AWP_cond rfl ?_ ?_
  ·
   intro c0
   try simp only [decide_eq_true_eq, decide_eq_false_iff_not, Bool.not_eq_true', Bool.not_eq_false', ne_eq, Int.not_lt, Int.not_le] at c0
   have hst : clsI ts ns (j + 1) = clsI ts ns j := eqD_t (by assumption)
   refine AWP_seq_k fun K7 hK7 => ?_
   refine AWP_region (G := G) (T := T_divide1) T_divide1_ok ?_
   simp only [go_sem]
   repeat (with_reducible refine And.intro (by first | omega | exact ⟨rfl, by omega, by omega, by omega⟩) ?_)
   refine hK7 _ ?_
   refine AWP_ret ?_
   simp only [hres, go_sem]
   first
     | exact finOk_mk (by rfl) (by decide)
     | refine ⟨?_, finOk_mk (by rfl) (by decide)⟩
       exact (clsF_at hjn hst).symm
  ·
   intro c0
   try simp only [decide_eq_true_eq, decide_eq_false_iff_not, Bool.not_eq_true', Bool.not_eq_false', ne_eq, Int.not_lt, Int.not_le] at c0
   have hne : clsI ts ns (j + 1) ≠ clsI ts ns j := fun e => by
     have h9 : eqD (clsI ts ns (j + 1)) (clsI ts ns j) = false := by assumption
     rw [e, eqD_rfl] at h9; cases h9
   refine AWP_skip ?_
   simp only [go_sem]
   refine hK5 _ ?_
   refine AWP_region (G := G) (T := T_divide1) T_divide1_ok ?_
   simp only [go_sem]
   repeat (with_reducible refine And.intro (by first | omega | exact ⟨rfl, by omega, by omega, by omega⟩) ?_)
   refine hL3 ⟨j + 1, fun q hq => by rcases Nat.lt_succ_iff_lt_or_eq.1 hq with h | h; exact hj q h; subst h; exact hne⟩ _ (Wk_to (by rfl) ?_) ?_
   ·
    simp (maxSteps := 2000000) only [go_sem]
    all_goals ((repeat' refine And.intro ?_ ?_) <;> first | rfl | (congr 1; done))
   ·
    have := clsN_grow (ts := ts) (ns := ns) (j + 1) (fun q hq => by rcases Nat.lt_succ_iff_lt_or_eq.1 hq with h | h; exact hj q h; subst h; exact hne)
    have := clsN_le (ts := ts) (ns := ns) (j + 1)
    simp only []; omega

theorem classes_fn : FnOk Tryz.prog 65 := fnOk_of Tryz.func65 rfl (by decide)

def T_classes : Tab := fun f => if f = 65 then some (.p K_classes) else T_divide1 f
theorem T_classes_ok : TabOk Tryz.prog T_classes := fun f k h => by
  unfold T_classes at h
  split at h
  · rename_i e; cases h; subst e; exact ⟨classes_ok, classes_fn⟩
  · exact T_divide1_ok f k h
attribute [go_sem] T_classes K_classes

end Go.Proofs.YthfopaimihmgiaaGreat
