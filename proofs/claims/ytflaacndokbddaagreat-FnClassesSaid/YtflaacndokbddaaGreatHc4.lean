/-
  Contracts of functions: classes.
-/
import Derived.Test.YtflaacndokbddaaGreatHc2
import Derived.Test.YtflaacndokbddaaGreatHc3
namespace Go.Proofs.YtflaacndokbddaaGreat
open Go.RowKit
set_option linter.unusedSimpArgs false
set_option linter.unusedVariables false

set_option maxRecDepth 100000
set_option maxHeartbeats 8000000
def K_classes : Con := ⟨[.val ((.prod (.row 26 (.row 2 (.int .i64))) (.prod (.row 90 (.prod (.int .i64) (.prod (.int .i64) (.prod (.int .i64) (.row 2 (.int .i64)))))) (.row 2 (.int .i64)))))], [⟨(.row 2 (.int .i64)), true⟩], fun x => uOk x.1.1 x.1.2.1, fun x => clsF x.1.1 x.1.2.1⟩
theorem classes_ok : PureT Tryz.prog 49 K_classes := by
  refine pure_of_body Tryz.func49 rfl ?_
  have hres : Tryz.f49.results.toList = [.tmp 2] := rfl
  rintro ⟨⟨(ts : List (List Int)), (ns : List NodeD), (os : List Int)⟩, _⟩ hc hL
  simp only [K_classes, go_sem] at hL
  simp only [K_classes, St.init, St.initG, Tryz.ntmps49, go_sem] 
  have hU : uOk ts ns := hc
  have hul : ns.length ≤ 48 := hU.1
  refine oS fun K1 hK1 => ?_
  refine oW T_divide1_ok ?_
  simp only [go_sem]
  refine hK1 _ ?_
  refine oS fun K2 hK2 => ?_
  refine oW T_divide1_ok ?_
  simp (maxSteps := 2000000) only [List.nodup_nil, go_sem]
  repeat (with_reducible first | refine oA ?_ | refine And.intro (by first | exact ⟨hU, rfl⟩) ?_)
  refine hK2 _ ?_
  refine AWP_block ?_
  refine AWP_loop_k (ι := { j : Nat // ∀ q, q < j → clsI ts ns (q + 1) ≠ clsI ts ns q }) (fun k => ⟨[zz, .c (.po 116 0), zz, .c (.po 148 0), zz, zz, zz, zz, zz, zz, zz, zz, zz, zz, zz, zz], [(116, .box [.rd [] 26 ((.row 2 (.int .i64))) (ts), .rd [] 90 ((.prod (.int .i64) (.prod (.int .i64) (.prod (.int .i64) (.row 2 (.int .i64)))))) (ns), .rd [] 2 (.int .i64) (os)]), (148, .box [.ow 9001]), (9001, .row 2 (.int .i64) (clsI ts ns k.1) [])]⟩) (fun k => ns.length - k.1) ⟨0, fun q hq => absurd hq (Nat.not_lt_zero _)⟩ ?_ ?_
  ·
   refine oK ?_
   simp (maxSteps := 2000000) only [go_sem]
   all_goals ((repeat' refine And.intro ?_ ?_) <;> first | rfl | (congr 1; done))
  rintro ⟨j, hj⟩ K3 hL3
  have hcl : (clsI ts ns j).length = ns.length := clsI_len j
  have hjn : j ≤ ns.length := Nat.le_trans (clsN_grow j hj) (clsN_le j)
  have hsx : (divC (byKey (phi ts ns (clsI ts ns j))) ns.length).1 = clsI ts ns (j + 1) := rfl
  refine AWP_block ?_
  refine oS fun K4 hK4 => ?_
  refine oW T_divide2_ok ?_
  simp only [go_sem]
  repeat (with_reducible first | refine oA ?_ | refine And.intro (by first | exact ⟨hU, hcl, rfl⟩ | exact ⟨hU, hcl⟩) ?_)
  refine hK4 _ ?_
  refine oS fun K5 hK5 => ?_
  refine oS fun K6 hK6 => ?_
  refine oW T_divide1_ok ?_
  simp only [hsx, go_sem]
  repeat (with_reducible refine oA ?_)
  refine hK6 _ ?_
  refine oC rfl ?_ ?_
  ·
   intro c0
   have hst : clsI ts ns (j + 1) = clsI ts ns j := eqD_t (by assumption)
   refine oS fun K7 hK7 => ?_
   refine oW T_divide1_ok ?_
   simp only [go_sem]
   repeat (with_reducible refine oA ?_)
   refine hK7 _ ?_
   refine AWP_ret ?_
   simp only [hres, go_sem]
   first | exact oF | (refine ⟨?_, oF⟩; exact (clsF_at hjn hst).symm)
  intro c0
  have hne : clsI ts ns (j + 1) ≠ clsI ts ns j := fun e => by
    have h9 : eqD (clsI ts ns (j + 1)) (clsI ts ns j) = false := by assumption
    rw [e, eqD_rfl] at h9; cases h9
  refine AWP_skip ?_
  simp only [go_sem]
  refine hK5 _ ?_
  refine oW T_divide1_ok ?_
  simp only [go_sem]
  repeat (with_reducible refine oA ?_)
  refine hL3 ⟨j + 1, fun q hq => by rcases Nat.lt_succ_iff_lt_or_eq.1 hq with h | h; exact hj q h; subst h; exact hne⟩ _ (oK ?_) ?_
  ·
   simp (maxSteps := 2000000) only [go_sem]
   all_goals ((repeat' refine And.intro ?_ ?_) <;> first | rfl | (congr 1; done))
  ·
   have := clsN_grow (ts := ts) (ns := ns) (j + 1) (fun q hq => by rcases Nat.lt_succ_iff_lt_or_eq.1 hq with h | h; exact hj q h; subst h; exact hne)
   have := clsN_le (ts := ts) (ns := ns) (j + 1)
   simp only []; omega
def T_classes : Tab := fun f => if f = 49 then some (.p K_classes) else T_divide1 f
theorem T_classes_ok : TabOk Tryz.prog T_classes := tabP classes_ok (fnOk_of Tryz.func49 rfl (by decide)) T_divide1_ok
attribute [go_sem] T_classes K_classes

end Go.Proofs.YtflaacndokbddaaGreat
