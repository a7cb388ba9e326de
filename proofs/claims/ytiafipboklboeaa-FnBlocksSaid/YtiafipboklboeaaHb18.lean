/-
  Contracts of functions: RenderInBlocks.
-/
import Derived.Test.YtiafipboklboeaaHb15
import Derived.Test.YtiafipboklboeaaPi
import Derived.Test.YtiafipboklboeaaGp
namespace Go.Proofs.Ytiafipboklboeaa
open Go.RowKit
set_option linter.unusedSimpArgs false
set_option linter.unusedVariables false

set_option maxRecDepth 100000
set_option maxHeartbeats 4000000
def K_implRib : Con := ⟨[.val ((.prod (.int .i64) (.prod (.row 26 (.row 2 (.int .i64))) (.prod (.row 83 (.prod (.int .i64) (.prod (.int .i64) (.prod (.int .i64) (.row 2 (.int .i64)))))) (.row 2 (.int .i64)))))), .val ((.row 26 (.row 2 (.int .i64)))), .val ((.row 2 (.int .i64)))], [⟨(.row 26 (.row 2 (.int .i64))), true⟩, ⟨.int .i64, true⟩], fun _ => True, fun x => ribR x.1 x.2.1 x.2.2.1⟩
theorem implRib_ok : PureT Try.prog 7 K_implRib := by
  refine pure_of_body Try.func7 rfl ?_
  have hres : Try.f7.results.toList = [.tmp 6, .tmp 7] := rfl
  rintro ⟨⟨(pi : Int), (ts : List (List Int)), (ns : List NodeD), (os : List Int)⟩, (ins : List (List Int)), (sz : List Int), _⟩ hc hL
  simp only [K_implRib, go_sem] at hL
  simp only [K_implRib, St.init, St.initG, Try.ntmps7, go_sem] 
  refine oS fun K1 hK1 => ?_
  refine oW T_implRender_ok ?_
  simp only [go_sem]
  refine hK1 _ ?_
  refine oS fun K2 hK2 => ?_
  refine oS fun K3 hK3 => ?_
  refine oW T_implRender_ok ?_
  simp only [go_sem]
  repeat (with_reducible refine oA ?_)
  refine hK3 _ ?_
  refine oC rfl ?_ ?_
  ·
   intro c0
   refine oS fun K4 hK4 => ?_
   refine oW T_implRender_ok ?_
   simp only [go_sem]
   refine hK4 _ ?_
   refine AWP_ret ?_
   simp only [hres, go_sem]
   first | exact oF | (refine ⟨?_, oF⟩; first | (rw [ribR_1 c0]; exact ⟨rfl, rfl⟩) | (rw [ribR_1 c0]))
  intro c0
  refine AWP_skip ?_
  simp only [go_sem]
  refine hK2 _ ?_
  refine oS fun K5 hK5 => ?_
  refine oW T_implRender_ok ?_
  simp only [go_sem]
  refine hK5 _ ?_
  refine oS fun K6 hK6 => ?_
  refine oS fun K7 hK7 => ?_
  refine oW T_implRender_ok ?_
  simp only [go_sem]
  refine hK7 _ ?_
  refine AWP_block ?_
  refine AWP_loop_k (ι := { k : Nat // k ≤ sz.length ∧ sizB (sz.take k) = true }) (fun k => ⟨[zz, .c (.rd [] 26 (.row 2 (.int .i64)) (ins)), zz, .c (.po 148 0), zz, zz, zz, zz, .c (.sc (.int .i64 ((sz.take k.1).sum))), zz, zz, zz, zz, zz, .c (.rd [] 2 (.int .i64) (sz)), .c (.sc (.int .i64 (sz.length))), .c (.sc (.int .i64 (k.1))), zz, zz, zz, zz, zz, zz, zz, zz, zz, zz, zz, zz, zz, zz, zz, zz, zz, zz, zz, zz, zz, zz, zz, zz], [(148, .box [.sc (.int .i64 (pi)), .rd [] 26 ((.row 2 (.int .i64))) (ts), .rd [] 83 ((.prod (.int .i64) (.prod (.int .i64) (.prod (.int .i64) (.row 2 (.int .i64)))))) (ns), .rd [] 2 (.int .i64) (os)])]⟩) (fun k => sz.length - k.1) ⟨0, by simp, rfl⟩ ?_ ?_
  ·
   refine oK ?_
   simp (maxSteps := 2000000) only [go_sem]
   all_goals first | rfl | ((repeat' refine And.intro ?_ ?_) <;> first | rfl | simp)
  rintro ⟨k, hk, hp⟩ K8 hL8
  have hsb := sizB_bd hp
  refine oS fun K9 hK9 => ?_
  refine oW T_implRender_ok ?_
  simp only [go_sem]
  refine hK9 _ ?_
  refine oS fun K10 hK10 => ?_
  refine oC rfl ?_ ?_
  ·
   intro c1
   refine AWP_skip ?_
   simp only [go_sem]
   refine hK10 _ ?_
   refine oS fun K11 hK11 => ?_
   refine AWP_block ?_
   refine oS fun K12 hK12 => ?_
   refine oW T_implRender_ok ?_
   simp only [go_sem]
   repeat (with_reducible refine oA ?_)
   refine hK12 _ ?_
   refine oS fun K13 hK13 => ?_
   refine oS fun K14 hK14 => ?_
   refine oW T_implRender_ok ?_
   simp (maxSteps := 2000000) only [go_sem]
   repeat' (with_reducible first | refine oA ?_ | refine oT (fun g7 => ?_) (fun g7 => ?_) | refine oE (fun g7 => ?_) (fun g7 => ?_))
   all_goals
    refine hK14 _ ?_
    refine AWP_cond rfl ?_ ?_
    ·
     intro c2
     try simp only [decide_eq_true_eq, decide_eq_false_iff_not, Bool.not_eq_true', Bool.not_eq_false', ne_eq, Int.not_lt, Int.not_le, Bool.true_eq_false, Bool.false_eq_true] at c2
     all_goals
      have hbad : sizB sz = false := by first | exact szBad1 (k := k) (by omega) (by assumption) hp | exact szBad2 (k := k) (by omega) hp (by assumption) (by assumption)
      refine oS fun K15 hK15 => ?_
      refine oW T_implRender_ok ?_
      simp only [go_sem]
      refine hK15 _ ?_
      refine AWP_ret ?_
      simp only [hres, go_sem]
      first
       | exact oF
       | refine ⟨?_, oF⟩
         have hK : (sigB (pi, ts, ns, os) ins && sizB sz) = false := by first | (rw [show sizB sz = false by assumption, Bool.and_false]) | (rw [show sigB (pi, ts, ns, os) ins = false by assumption]; rfl)
         first | (rw [ribR_2 c0 hK]; exact ⟨rfl, rfl⟩) | (rw [ribR_2 c0 hK])
    ·
     intro c2
     try simp only [decide_eq_true_eq, decide_eq_false_iff_not, Bool.not_eq_true', Bool.not_eq_false', ne_eq, Int.not_lt, Int.not_le, Bool.true_eq_false, Bool.false_eq_true] at c2
     all_goals
      obtain ⟨hgood, hsum⟩ := szGood (k := k) (by omega) hp (by assumption) (by assumption)
      refine AWP_skip ?_
      simp only [go_sem]
      refine hK13 _ ?_
      refine oW T_implRender_ok ?_
      simp only [go_sem]
      refine hK11 _ ?_
      refine oW T_implRender_ok ?_
      simp only [go_sem]
      refine hL8 ⟨k + 1, by omega, hgood⟩ _ (oK ?_) ?_
      ·
       simp (maxSteps := 2000000) only [go_sem]
       all_goals ((repeat' refine And.intro ?_ ?_) <;> first | rfl | exact wk (by omega) | exact hsum | assumption)
      ·
       first | (simp only []; omega) | omega | (simp; omega)
  intro c1
  refine AWP_exit ?_
  simp only [go_sem]
  refine hK6 _ ?_
  refine oS fun K16 hK16 => ?_
  refine oS fun K17 hK17 => ?_
  refine oW T_implRender_ok ?_
  simp only [go_sem]
  repeat (with_reducible refine oA ?_)
  refine hK17 _ ?_
  refine oC rfl ?_ ?_
  ·
   intro c3
   have hks : sz.take k = sz := List.take_of_length_le (by omega)
   rw [hks] at hp
   refine oS fun K18 hK18 => ?_
   refine oW T_implRender_ok ?_
   simp only [go_sem]
   refine hK18 _ ?_
   refine AWP_ret ?_
   simp only [hres, go_sem]
   first
    | exact oF
    | refine ⟨?_, oF⟩
      have hK : (sigB (pi, ts, ns, os) ins && sizB sz) = false := by first | (rw [show sizB sz = false by assumption, Bool.and_false]) | (rw [show sigB (pi, ts, ns, os) ins = false by assumption]; rfl)
      first | (rw [ribR_2 c0 hK]; exact ⟨rfl, rfl⟩) | (rw [ribR_2 c0 hK])
  intro c3
  have hks : sz.take k = sz := List.take_of_length_le (by omega)
  rw [hks] at hp hsb
  have hsg : sigB (pi, ts, ns, os) ins = true := by assumption
  have hK : (sigB (pi, ts, ns, os) ins && sizB sz) = true := by rw [hsg, hp]; rfl
  have hrc : patchB (pi, ts, ns, os) = true ∧ insOk (pi, ts, ns, os) ins ∧ inR sz.sum 0 1000000 = true := ⟨c0, sigB_iff.1 hsg, inR_t (by omega) (by omega)⟩
  refine AWP_skip ?_
  simp only [go_sem]
  refine hK16 _ ?_
  refine oS fun K19 hK19 => ?_
  refine oW T_implRender_ok ?_
  simp (maxSteps := 2000000) only [hks, go_sem]
  repeat (with_reducible first | refine oA ?_ | refine And.intro (by first | exact hrc) ?_)
  refine hK19 _ ?_
  refine AWP_ret ?_
  simp only [hres, go_sem]
  first | exact oF | (refine ⟨?_, oF⟩; first | (rw [ribR_0 c0 hK]; exact ⟨rfl, rfl⟩) | (rw [ribR_0 c0 hK]))
def T_implRib : Tab := fun f => if f = 7 then some (.p K_implRib) else T_implRender f
theorem T_implRib_ok : TabOk Try.prog T_implRib := tabP implRib_ok (fnOk_of Try.func7 rfl (by decide)) T_implRender_ok
attribute [go_sem] T_implRib K_implRib

end Go.Proofs.Ytiafipboklboeaa
