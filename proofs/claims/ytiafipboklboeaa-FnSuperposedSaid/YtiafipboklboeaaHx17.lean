/-
  Contracts of functions: FnSuperposed.
-/
import Derived.Test.YtiafipboklboeaaHb23
import Derived.Test.YtiafipboklboeaaHb15
import Derived.Test.YtiafipboklboeaaHb16
import Derived.Test.YtiafipboklboeaaGz
namespace Go.Proofs.Ytiafipboklboeaa
open Go.RowKit
set_option linter.unusedSimpArgs false
set_option linter.unusedVariables false

set_option maxRecDepth 100000
set_option maxHeartbeats 16000000
def T_mHx170 : Tab := fun f => match T_drawLin f with
 | some k => some k
 | none => T_implRender f
theorem T_mHx170_ok : TabOk Try.prog T_mHx170 := tabM T_drawLin_ok T_implRender_ok
attribute [go_sem] T_mHx170 T0

def T_mHx171 : Tab := fun f => match T_mHx170 f with
 | some k => some k
 | none => T_specRender f
theorem T_mHx171_ok : TabOk Try.prog T_mHx171 := tabM T_mHx170_ok T_specRender_ok
attribute [go_sem] T_mHx171 T0

def K_lawSup : Con := ⟨[.val ((.row 5 (.int .u8))), .val ((.row 5 (.int .u8)))], [⟨.bool, true⟩], fun x => (∀ b ∈ (x.1 : List Int), 0 ≤ b ∧ b ≤ 255) ∧ ∀ b ∈ (x.2.1 : List Int), 0 ≤ b ∧ b ≤ 255, fun _ => true⟩
theorem lawSup_ok : PureT Try.prog 4 K_lawSup := by
  refine pure_of_body Try.func4 rfl ?_
  have hres : Try.f4.results.toList = [.tmp 4] := rfl
  rintro ⟨(cd : List Int), (mr : List Int), _⟩ hc hL
  simp only [K_lawSup, go_sem] at hL
  simp only [K_lawSup, St.init, St.initG, Try.ntmps4, go_sem] 
  obtain ⟨hcd, hmr⟩ := (show (∀ b ∈ cd, 0 ≤ b ∧ b ≤ 255) ∧ ∀ b ∈ mr, 0 ≤ b ∧ b ≤ 255 from hc)
  obtain ⟨hP, hlin, hpi, hos⟩ := linC_ok hcd
  rcases hd : linC cd with ⟨pi, ts, ns, os⟩
  rw [hd] at hP hlin hpi hos
  have hpi : 1 ≤ pi ∧ pi ≤ 2 := hpi
  have hos : 1 ≤ os.length ∧ os.length ≤ 2 := hos
  have hF := (patchB_parts hP).1
  have hpn : ((pi.toNat : Nat) : Int) = ((pi, ts, ns, os) : PatchD).1 := Int.toNat_of_nonneg (by omega)
  have hpt : pi.toNat ≤ 2 := by omega
  have hgA : ∀ i, (rowA mr i).length ≤ 3000 ∧ smps (rowA mr i) = true := fun i => ⟨by rw [(rowA_ok hmr i).1]; omega, (rowA_ok hmr i).2⟩
  have hgC : ∀ i, (rowC mr i).length ≤ 3000 ∧ smps (rowC mr i) = true := fun i => ⟨by rw [(rowC_ok hmr i).1]; omega, (rowC_ok hmr i).2⟩
  have hA4 : ∀ i, (rowA mr i).length ≤ 4000 ∧ smps (rowA mr i) = true := fun i => ⟨by have := (hgA i).1; omega, (hgA i).2⟩
  have hC4 : ∀ i, (rowC mr i).length ≤ 4000 ∧ smps (rowC mr i) = true := fun i => ⟨by have := (hgC i).1; omega, (hgC i).2⟩
  have iA : insOk (pi, ts, ns, os) (insM (rowA mr) pi.toNat) := insM_ok hpn hA4
  have iC : insOk (pi, ts, ns, os) (insM (rowC mr) pi.toNat) := insM_ok hpn hC4
  have iS : insOk (pi, ts, ns, os) (insM (fun i => addS (rowA mr i) (rowC mr i)) pi.toNat) := insM_ok hpn fun i => ⟨by rw [addS_len]; have := (hA4 i).1; have := (hC4 i).1; omega, addS_smp _ _⟩
  have iL : insOk (pi, ts, ns, os) (insM (fun i => lateS (rowA mr i) 3) pi.toNat) := insM_ok hpn fun i => ⟨by have := (hgA i).1; simp only [lateS, List.length_append, List.length_replicate]; omega, smps_late (hgA i).2⟩
  have rA : renderR (pi, ts, ns, os) (insM (rowA mr) pi.toNat) 14 = ((renderL (pi, ts, ns, os) (insM (rowA mr) pi.toNat) 14), 0) := renderR_0 hP (by rw [sigB_iff.2 iA]; rfl)
  have rC : renderR (pi, ts, ns, os) (insM (rowC mr) pi.toNat) 14 = ((renderL (pi, ts, ns, os) (insM (rowC mr) pi.toNat) 14), 0) := renderR_0 hP (by rw [sigB_iff.2 iC]; rfl)
  have rS : renderR (pi, ts, ns, os) (insM (fun i => addS (rowA mr i) (rowC mr i)) pi.toNat) 14 = ((renderL (pi, ts, ns, os) (insM (fun i => addS (rowA mr i) (rowC mr i)) pi.toNat) 14), 0) := renderR_0 hP (by rw [sigB_iff.2 iS]; rfl)
  have rL : renderR (pi, ts, ns, os) (insM (fun i => lateS (rowA mr i) 3) pi.toNat) 17 = ((renderL (pi, ts, ns, os) (insM (fun i => lateS (rowA mr i) 3) pi.toNat) 17), 0) := renderR_0 hP (by rw [sigB_iff.2 iL]; rfl)
  have lA : (renderL (pi, ts, ns, os) (insM (rowA mr) pi.toNat) 14).length = os.length := renderL_len hF iA _
  have lC : (renderL (pi, ts, ns, os) (insM (rowC mr) pi.toNat) 14).length = os.length := renderL_len hF iC _
  have lS : (renderL (pi, ts, ns, os) (insM (fun i => addS (rowA mr i) (rowC mr i)) pi.toNat) 14).length = os.length := renderL_len hF iS _
  have lL : (renderL (pi, ts, ns, os) (insM (fun i => lateS (rowA mr i) 3) pi.toNat) 17).length = os.length := renderL_len hF iL _
  have hmA : (insM (rowA mr) pi.toNat).length = pi.toNat := by simp [insM]
  have hmC : (insM (rowC mr) pi.toNat).length = pi.toNat := by simp [insM]
  have sAC : sumR (insM (rowA mr) pi.toNat) (insM (rowC mr) pi.toNat) (min pi.toNat pi.toNat) = insM (fun i => addS (rowA mr i) (rowC mr i)) pi.toNat := by
    rw [Nat.min_self, sumR_eq (fun i hi => by rw [insM, map_range_at hi]; exact l03B_t (hA4 i).1 (hA4 i).2) (fun i hi => by rw [insM, map_range_at hi]; exact l03B_t (hC4 i).1 (hC4 i).2)]; exact sumL_M
  have sXY : sumR (renderL (pi, ts, ns, os) (insM (rowA mr) pi.toNat) 14) (renderL (pi, ts, ns, os) (insM (rowC mr) pi.toNat) 14) (min os.length os.length) = (renderL (pi, ts, ns, os) (insM (fun i => addS (rowA mr i) (rowC mr i)) pi.toNat) 14) := by
    rw [Nat.min_self, sumR_eq (fun i hi => render_smp hP iA hi (by omega)) (fun i hi => render_smp hP iC hi (by omega))]; exact (render_sum hP hlin hpn hA4 hC4 14).symm
  refine oS fun K1 hK1 => ?_
  refine oW T_mHx171_ok ?_
  refine aseq_take 200 (by rfl) ?_
  simp only [go_sem]
  repeat (with_reducible first | refine oA ?_ | refine And.intro (by first | exact hcd | exact hci | exact hcj | omega) ?_)
  refine hK1 _ ?_
  refine oS fun K2 hK2 => ?_
  refine oS fun K3 hK3 => ?_
  refine oW T_mHx171_ok ?_
  refine aseq_take 200 (by rfl) ?_
  simp (maxSteps := 2000000) only [go_sem]
  repeat' (with_reducible first | refine oA ?_ | refine And.intro (by first | exact hcd | exact hci | exact hcj | omega) ?_ | refine oT (fun g1 => ?_) (fun g1 => ?_) | refine oE (fun g1 => ?_) (fun g1 => ?_))
  all_goals
   refine hK3 _ ?_
   refine AWP_cond rfl ?_ ?_
   ·
    intro c0
    try simp only [decide_eq_true_eq, decide_eq_false_iff_not, Bool.not_eq_true', Bool.not_eq_false', ne_eq, Int.not_lt, Int.not_le, Bool.true_eq_false, Bool.false_eq_true] at c0
    all_goals
     refine oS fun K4 hK4 => ?_
     refine oW T_mHx171_ok ?_
     refine aseq_take 200 (by rfl) ?_
     simp only [go_sem]
     repeat (with_reducible first | refine oA ?_ | refine And.intro (by first | exact hcd | exact hci | exact hcj | omega) ?_)
     refine hK4 _ ?_
     refine AWP_ret ?_
     simp only [hres, go_sem]
     first | exact oF | exact oFr
   ·
    intro c0
    try simp only [decide_eq_true_eq, decide_eq_false_iff_not, Bool.not_eq_true', Bool.not_eq_false', ne_eq, Int.not_lt, Int.not_le, Bool.true_eq_false, Bool.false_eq_true] at c0
    all_goals
     refine AWP_skip ?_
     simp only [go_sem]
     refine hK2 _ ?_
     refine oS fun K5 hK5 => ?_
     refine oW T_mHx171_ok ?_
     refine aseq_take 200 (by rfl) ?_
     simp only [hd, go_sem]
     repeat (with_reducible first | refine oA ?_ | refine And.intro (by first | exact hcd | exact hci | exact hcj | omega) ?_)
     refine hK5 _ ?_
     refine oS fun K6 hK6 => ?_
     refine oW T_mHx171_ok ?_
     refine aseq_take 200 (by rfl) ?_
     simp only [List.nodup_cons, List.nodup_nil, List.not_mem_nil, not_false_eq_true, go_sem]
     repeat (with_reducible first | refine oA ?_ | refine And.intro (by first | exact hcd | exact hci | exact hcj | omega) ?_)
     refine hK6 _ ?_
     refine oS fun K7 hK7 => ?_
     refine oW T_mHx171_ok ?_
     refine aseq_take 200 (by rfl) ?_
     simp only [List.nodup_cons, List.nodup_nil, List.not_mem_nil, not_false_eq_true, go_sem]
     repeat (with_reducible first | refine oA ?_ | refine And.intro (by first | exact hcd | exact hci | exact hcj | omega) ?_)
     refine hK7 _ ?_
     refine oS fun K8 hK8 => ?_
     refine oW T_mHx171_ok ?_
     refine aseq_take 200 (by rfl) ?_
     simp only [List.nodup_cons, List.nodup_nil, List.not_mem_nil, not_false_eq_true, go_sem]
     repeat (with_reducible first | refine oA ?_ | refine And.intro (by first | exact hcd | exact hci | exact hcj | omega) ?_)
     refine hK8 _ ?_
     refine oS fun K9 hK9 => ?_
     refine oS fun K10 hK10 => ?_
     refine oW T_mHx171_ok ?_
     refine aseq_take 200 (by rfl) ?_
     simp only [go_sem]
     repeat (with_reducible first | refine oA ?_ | refine And.intro (by first | exact hcd | exact hci | exact hcj | omega) ?_)
     refine hK10 _ ?_
     refine AWP_block ?_
     refine AWP_loop_k (ι := { k : Nat // k ≤ pi.toNat }) (fun k => ⟨(zz :: .c (.rd [] 5 (.int .u8) (mr)) :: zz :: zz :: zz :: .c (.po 180 0) :: .c (.ow 9001) :: .c (.ow 9002) :: .c (.ow 9003) :: .c (.sc (.int .i64 (k.1))) :: zz :: zz :: zz :: zz :: zz :: zz :: zz :: zz :: zz :: zz :: zz :: zz :: zz :: zz :: zz :: zz :: zz :: zz :: zz :: zz :: zz :: zz :: zz :: zz :: zz :: zz :: zz :: zz :: zz :: zz :: zz :: zz :: zz :: zz :: zz :: zz :: zz :: zz :: zz :: zz :: zz :: zz :: zz :: zz :: zz :: zz :: zz :: zz :: zz :: zz :: zz :: zz :: zz :: zz :: zz :: zz :: zz :: zz :: zz :: zz :: zz :: zz :: zz :: zz :: zz :: zz :: zz :: zz :: zz :: zz :: zz :: zz :: zz :: zz :: zz :: zz :: zz :: zz :: zz :: zz :: zz :: zz :: zz :: zz :: zz :: zz :: zz :: zz :: zz :: zz :: zz :: zz :: zz :: zz :: zz :: zz :: zz :: zz :: zz :: zz :: zz :: zz :: zz :: zz :: zz :: zz :: zz :: zz :: zz :: zz :: zz :: zz :: zz :: zz :: zz :: zz :: zz :: zz :: zz :: zz :: zz :: zz :: zz :: zz :: zz :: zz :: zz :: zz :: zz :: zz :: zz :: zz :: zz :: zz :: zz :: zz :: zz :: zz :: zz :: zz :: zz :: zz :: zz :: zz :: zz :: zz :: zz :: zz :: zz :: zz :: zz :: zz :: zz :: zz :: zz :: zz :: zz :: zz :: zz :: zz :: zz :: zz :: zz :: zz :: zz :: zz :: zz :: zz :: zz :: zz :: zz :: zz :: []), [(180, .box [.sc (.int .i64 (pi)), .rd [] 26 ((.row 2 (.int .i64))) (ts), .rd [] 83 ((.prod (.int .i64) (.prod (.int .i64) (.prod (.int .i64) (.row 2 (.int .i64)))))) (ns), .rd [] 2 (.int .i64) (os)]), (9001, .tree 26 (.row 2 (.int .i64)) (insM (rowA mr) k.1) none), (9002, .tree 26 (.row 2 (.int .i64)) (insM (rowC mr) k.1) none), (9003, .tree 26 (.row 2 (.int .i64)) (insM (fun i => lateS (rowA mr i) 3) k.1) none)]⟩) (fun k => pi.toNat - k.1) ⟨0, by omega⟩ ?_ ?_
     ·
      refine oK ?_
      simp (maxSteps := 2000000) only [go_sem]
      all_goals ((repeat' refine And.intro ?_ ?_) <;> first | rfl | exact True.intro | exact wk (by omega) | omega | (rw [wrapI (by omega)]; omega) | (congr 1; done) | (simp; done))
     rintro ⟨k, hk⟩ K11 hL11
     have hmk : (insM (rowA mr) k).length = k := by simp [insM]
     have hmk2 : (insM (rowC mr) k).length = k := by simp [insM]
     have hmk3 : (insM (fun i => lateS (rowA mr i) 3) k).length = k := by simp [insM]
     have hn1 : insM (rowA mr) k ++ [rowA mr k] = insM (rowA mr) (k + 1) := map_range_next _ k
     have hn2 : insM (rowC mr) k ++ [rowC mr k] = insM (rowC mr) (k + 1) := map_range_next _ k
     have hn3 : insM (fun i => lateS (rowA mr i) 3) k ++ [lateS (rowA mr k) 3] = insM (fun i => lateS (rowA mr i) 3) (k + 1) := map_range_next (fun i => lateS (rowA mr i) 3) k
     have hdel : delayR (rowA mr k) 3 = (lateS (rowA mr k) 3, 0) := delayR_0 (l03B_t (hA4 k).1 (hA4 k).2) rfl (by rw [(rowA_ok hmr k).1]; omega)
     have hw1 : IntKind.i64.wrap (20 * (k : Int)) = 20 * k := wrapI (by omega)
     have hw3 : IntKind.i64.wrap (20 * (k : Int) + 8) = 20 * k + 8 := wrapI (by omega)
     refine oS fun K12 hK12 => ?_
     refine oS fun K13 hK13 => ?_
     refine oW T_mHx171_ok ?_
     refine aseq_take 200 (by rfl) ?_
     simp only [go_sem]
     repeat (with_reducible first | refine oA ?_ | refine And.intro (by first | exact hcd | exact hci | exact hcj | omega) ?_)
     refine hK13 _ ?_
     refine AWP_cond rfl ?_ ?_
     ·
      intro c1
      try simp only [decide_eq_true_eq, decide_eq_false_iff_not, Bool.not_eq_true', Bool.not_eq_false', ne_eq, Int.not_lt, Int.not_le, Bool.true_eq_false, Bool.false_eq_true] at c1
      all_goals
       refine AWP_skip ?_
       simp only [go_sem]
       refine hK12 _ ?_
       refine oS fun K14 hK14 => ?_
       refine AWP_block ?_
       refine oS fun K15 hK15 => ?_
       refine oW T_mHx171_ok ?_
       refine aseq_take 200 (by rfl) ?_
       simp only [List.nodup_cons, List.nodup_nil, List.not_mem_nil, not_false_eq_true, go_sem]
       repeat (with_reducible first | refine oA ?_ | refine And.intro (by first | exact hcd | exact hci | exact hcj | omega) ?_)
       refine hK15 _ ?_
       refine oS fun K16 hK16 => ?_
       refine oW T_mHx171_ok ?_
       refine aseq_take 200 (by rfl) ?_
       simp only [List.nodup_cons, List.nodup_nil, List.not_mem_nil, not_false_eq_true, go_sem]
       repeat (with_reducible first | refine oA ?_ | refine And.intro (by first | exact hcd | exact hci | exact hcj | omega) ?_)
       refine hK16 _ ?_
       refine oS fun K17 hK17 => ?_
       refine oS fun K18 hK18 => ?_
       refine oW T_mHx171_ok ?_
       refine aseq_take 200 (by rfl) ?_
       simp only [go_sem]
       repeat (with_reducible first | refine oA ?_ | refine And.intro (by first | exact hcd | exact hci | exact hcj | omega) ?_)
       refine hK18 _ ?_
       refine AWP_block ?_
       refine AWP_loop_k (ι := { m : Nat // m ≤ 8 }) (fun k' => ⟨(zz :: .c (.rd [] 5 (.int .u8) (mr)) :: zz :: zz :: zz :: .c (.po 180 0) :: .c (.ow 9001) :: .c (.ow 9002) :: .c (.ow 9003) :: .c (.sc (.int .i64 (k))) :: .c (.ow 9004) :: .c (.ow 9005) :: .c (.sc (.int .i64 (k'.1))) :: zz :: zz :: zz :: zz :: zz :: zz :: zz :: zz :: zz :: zz :: zz :: zz :: zz :: zz :: zz :: zz :: zz :: zz :: zz :: zz :: zz :: zz :: zz :: zz :: zz :: zz :: zz :: zz :: zz :: zz :: zz :: zz :: zz :: zz :: zz :: zz :: zz :: zz :: zz :: zz :: zz :: zz :: zz :: zz :: zz :: zz :: zz :: zz :: zz :: zz :: zz :: zz :: zz :: zz :: zz :: zz :: zz :: zz :: zz :: zz :: zz :: zz :: zz :: zz :: zz :: zz :: zz :: zz :: zz :: zz :: zz :: zz :: zz :: zz :: zz :: zz :: zz :: zz :: zz :: zz :: zz :: zz :: zz :: zz :: zz :: zz :: zz :: zz :: zz :: zz :: zz :: zz :: zz :: zz :: zz :: zz :: zz :: zz :: zz :: zz :: zz :: zz :: zz :: zz :: zz :: zz :: zz :: zz :: zz :: zz :: zz :: zz :: zz :: zz :: zz :: zz :: zz :: zz :: zz :: zz :: zz :: zz :: zz :: zz :: zz :: zz :: zz :: zz :: zz :: zz :: zz :: zz :: zz :: zz :: zz :: zz :: zz :: zz :: zz :: zz :: zz :: zz :: zz :: zz :: zz :: zz :: zz :: zz :: zz :: zz :: zz :: zz :: zz :: zz :: zz :: zz :: zz :: zz :: zz :: zz :: zz :: zz :: zz :: zz :: zz :: zz :: zz :: zz :: zz :: []), [(180, .box [.sc (.int .i64 (pi)), .rd [] 26 ((.row 2 (.int .i64))) (ts), .rd [] 83 ((.prod (.int .i64) (.prod (.int .i64) (.prod (.int .i64) (.row 2 (.int .i64)))))) (ns), .rd [] 2 (.int .i64) (os)]), (9001, .tree 26 (.row 2 (.int .i64)) (insM (rowA mr) k) none), (9002, .tree 26 (.row 2 (.int .i64)) (insM (rowC mr) k) none), (9003, .tree 26 (.row 2 (.int .i64)) (insM (fun i => lateS (rowA mr i) 3) k) none), (9004, .row 2 (.int .i64) (rowN (sigA mr k) k'.1) []), (9005, .row 2 (.int .i64) (rowN (sigC mr k) k'.1) [])]⟩) (fun k' => 8 - k'.1) ⟨0, by omega⟩ ?_ ?_
       ·
        refine oK ?_
        simp (maxSteps := 2000000) only [go_sem]
        all_goals ((repeat' refine And.intro ?_ ?_) <;> first | rfl | exact True.intro | exact wk (by omega) | omega | (rw [wrapI (by omega)]; omega) | (congr 1; done) | (simp; done))
       rintro ⟨m, hm⟩ K19 hL19
       have hla : (rowN (sigA mr k) m).length = m := rowN_len _ _
       have hlc : (rowN (sigC mr k) m).length = m := rowN_len _ _
       have hw2 : IntKind.i64.wrap (20 * (k : Int) + m) = 20 * k + m := wrapI (by omega)
       have hw4 : IntKind.i64.wrap (20 * (k : Int) + 8 + m) = 20 * k + 8 + m := wrapI (by omega)
       have hb5 := atD_rng (i := 20 * (k : Int) + m) (n := 256) hmr (by omega) (by omega)
       have hb6 := atD_rng (i := 20 * (k : Int) + 8 + m) (n := 256) hmr (by omega) (by omega)
       have hw5 : IntKind.i64.wrap (atD mr (20 * (k : Int) + m) 256 - 128) = atD mr (20 * (k : Int) + m) 256 - 128 := wrapI (by omega)
       have hw6 : IntKind.i64.wrap (1000 * atD mr (20 * (k : Int) + 8 + m) 256) = 1000 * atD mr (20 * (k : Int) + 8 + m) 256 := wrapI (by omega)
       have hci : inR (20 * (k : Int) + m) 0 1000000 = true := inR_t (by omega) (by omega)
       have hcj : inR (20 * (k : Int) + 8 + m) 0 1000000 = true := inR_t (by omega) (by omega)
       have hn4 : rowN (sigA mr k) m ++ [atD mr (20 * (k : Int) + m) 256 - 128] = rowN (sigA mr k) (m + 1) := rowN_next (sigA mr k) m
       have hn5 : rowN (sigC mr k) m ++ [1000 * atD mr (20 * (k : Int) + 8 + m) 256] = rowN (sigC mr k) (m + 1) := rowN_next (sigC mr k) m
       refine oS fun K20 hK20 => ?_
       refine oS fun K21 hK21 => ?_
       refine oW T_mHx171_ok ?_
       refine aseq_take 200 (by rfl) ?_
       simp only [go_sem]
       repeat (with_reducible first | refine oA ?_ | refine And.intro (by first | exact hcd | exact hci | exact hcj | omega) ?_)
       refine hK21 _ ?_
       refine AWP_cond rfl ?_ ?_
       ·
        intro c2
        try simp only [decide_eq_true_eq, decide_eq_false_iff_not, Bool.not_eq_true', Bool.not_eq_false', ne_eq, Int.not_lt, Int.not_le, Bool.true_eq_false, Bool.false_eq_true] at c2
        all_goals
         refine AWP_skip ?_
         simp only [go_sem]
         refine hK20 _ ?_
         refine oS fun K22 hK22 => ?_
         refine AWP_block ?_
         refine oS fun K23 hK23 => ?_
         refine oW T_mHx171_ok ?_
         refine aseq_take 200 (by rfl) ?_
         simp (maxSteps := 2000000) only [hw1, hw2, hw5, hla, go_sem]
         repeat (with_reducible first | refine oA ?_ | refine And.intro (by first | exact hcd | exact hci | exact hcj | omega) ?_)
         refine hK23 _ ?_
         refine oW T_mHx171_ok ?_
         refine aseq_take 200 (by rfl) ?_
         simp (maxSteps := 2000000) only [hw1, hw3, hw4, hw6, hlc, go_sem]
         repeat (with_reducible first | refine oA ?_ | refine And.intro (by first | exact hcd | exact hci | exact hcj | omega) ?_)
         refine hK22 _ ?_
         refine oW T_mHx171_ok ?_
         refine aseq_take 200 (by rfl) ?_
         simp only [go_sem]
         repeat (with_reducible first | refine oA ?_ | refine And.intro (by first | exact hcd | exact hci | exact hcj | omega) ?_)
         refine hL19 ⟨m + 1, by omega⟩ _ (oK ?_) ?_
         ·
          simp (maxSteps := 2000000) only [go_sem]
          all_goals ((repeat' refine And.intro ?_ ?_) <;> first | rfl | exact True.intro | exact wk (by omega) | exact hn4 | exact hn5 | (congr 1; done))
         ·
          first | (simp only []; omega) | omega | (simp; omega)
       ·
        intro c2
        try simp only [decide_eq_true_eq, decide_eq_false_iff_not, Bool.not_eq_true', Bool.not_eq_false', ne_eq, Int.not_lt, Int.not_le, Bool.true_eq_false, Bool.false_eq_true] at c2
        all_goals
         obtain rfl : m = 8 := by omega
         have hla8 : rowN (sigA mr k) 8 = rowA mr k := rfl
         have hlc8 : rowN (sigC mr k) 8 = rowC mr k := rfl
         refine AWP_exit ?_
         simp only [go_sem]
         refine hK17 _ ?_
         refine oS fun K24 hK24 => ?_
         refine oW T_mHx171_ok ?_
         refine aseq_take 200 (by rfl) ?_
         simp (maxSteps := 2000000) only [hla8, hdel, go_sem]
         repeat (with_reducible first | refine oA ?_ | refine And.intro (by first | exact hcd | exact hci | exact hcj | omega) ?_)
         refine hK24 _ ?_
         refine oS fun K25 hK25 => ?_
         refine oW T_mHx171_ok ?_
         refine aseq_take 200 (by rfl) ?_
         simp (maxSteps := 2000000) only [List.nodup_cons, List.nodup_nil, List.not_mem_nil, not_false_eq_true, hla8, hmk, go_sem]
         repeat (with_reducible first | refine oA ?_ | refine And.intro (by first | exact hcd | exact hci | exact hcj | omega) ?_)
         refine hK25 _ ?_
         refine oS fun K26 hK26 => ?_
         refine oW T_mHx171_ok ?_
         refine aseq_take 200 (by rfl) ?_
         simp (maxSteps := 2000000) only [List.nodup_cons, List.nodup_nil, List.not_mem_nil, not_false_eq_true, hlc8, hmk2, go_sem]
         repeat (with_reducible first | refine oA ?_ | refine And.intro (by first | exact hcd | exact hci | exact hcj | omega) ?_)
         refine hK26 _ ?_
         refine oW T_mHx171_ok ?_
         refine aseq_take 200 (by rfl) ?_
         simp (maxSteps := 2000000) only [List.nodup_cons, List.nodup_nil, List.not_mem_nil, not_false_eq_true, hmk3, go_sem]
         repeat (with_reducible first | refine oA ?_ | refine And.intro (by first | exact hcd | exact hci | exact hcj | omega) ?_)
         refine hK14 _ ?_
         refine oW T_mHx171_ok ?_
         refine aseq_take 200 (by rfl) ?_
         simp only [go_sem]
         repeat (with_reducible first | refine oA ?_ | refine And.intro (by first | exact hcd | exact hci | exact hcj | omega) ?_)
         refine hL11 ⟨k + 1, by omega⟩ _ (oK ?_) ?_
         ·
          simp (maxSteps := 2000000) only [go_sem]
          all_goals ((repeat' refine And.intro ?_ ?_) <;> first | rfl | exact True.intro | exact wk (by omega) | (congr 1; exact hn1) | (congr 1; exact hn2) | (congr 1; exact hn3) | (congr 1; rw [hdel]; exact hn3) | exact hn1 | exact hn2 | exact hn3 | (congr 1; done))
         ·
          first | (simp only []; omega) | omega | (simp; omega)
     ·
      intro c1
      try simp only [decide_eq_true_eq, decide_eq_false_iff_not, Bool.not_eq_true', Bool.not_eq_false', ne_eq, Int.not_lt, Int.not_le, Bool.true_eq_false, Bool.false_eq_true] at c1
      all_goals
       obtain rfl : k = pi.toNat := by omega
       refine AWP_exit ?_
       simp only [go_sem]
       refine hK9 _ ?_
       refine oS fun K27 hK27 => ?_
       refine oW T_mHx171_ok ?_
       refine aseq_take 200 (by rfl) ?_
       simp (maxSteps := 2000000) only [rA, go_sem]
       repeat (with_reducible first | refine oA ?_ | refine And.intro (by first | exact hcd | exact hci | exact hcj | omega) ?_)
       refine hK27 _ ?_
       refine oS fun K28 hK28 => ?_
       refine oW T_mHx171_ok ?_
       refine aseq_take 200 (by rfl) ?_
       simp (maxSteps := 2000000) only [rC, go_sem]
       repeat (with_reducible first | refine oA ?_ | refine And.intro (by first | exact hcd | exact hci | exact hcj | omega) ?_)
       refine hK28 _ ?_
       refine oS fun K29 hK29 => ?_
       refine oR T_mHx171_ok
         [[], [], [], [1, 2], [0, 1, 2, 3], [0, 1, 2, 3, 4], [0, 1, 2, 3, 4, 5], [0, 1, 2, 3, 4, 5], [0, 1, 2, 3, 4, 5, 6], [0, 1, 2, 3, 4, 5, 6, 7, 8]]
         [[1780, 1781, 1782, 1783, 1784, 1785, 1786, 1787, 1788, 1789, 1790, 1791, 1792, 1793, 1794, 1795], [], [], [], [], [], [], [], [], []]
         [[], [], [], [1780, 1781, 1782, 1783, 1784, 1785, 1786, 1787, 1788, 1789, 1790, 1791, 1792, 1793, 1794, 1795], [], [], [], [], [], []] (by kernel_rfl) (by kernel_rfl) (adrawR_ok (acc := []) ?_)
       simp (maxSteps := 2000000) only [hmA, hmC, sAC, rS, go_sem]
       repeat (with_reducible first | refine oD ?_ | refine And.intro (by first | exact hcd | exact hci | exact hcj | omega) ?_)
       refine hK29 _ ?_
       refine oS fun K30 hK30 => ?_
       refine oW T_mHx171_ok ?_
       refine aseq_take 200 (by rfl) ?_
       simp (maxSteps := 2000000) only [rL, go_sem]
       repeat (with_reducible first | refine oA ?_ | refine And.intro (by first | exact hcd | exact hci | exact hcj | omega) ?_)
       refine hK30 _ ?_
       refine oS fun K31 hK31 => ?_
       refine oW T_mHx171_ok ?_
       refine aseq_take 200 (by rfl) ?_
       simp (maxSteps := 2000000) only [rA, go_sem]
       repeat (with_reducible first | refine oA ?_ | refine And.intro (by first | exact hcd | exact hci | exact hcj | omega) ?_)
       refine hK31 _ ?_
       refine oS fun K32 hK32 => ?_
       refine oS fun K33 hK33 => ?_
       refine oW T_mHx171_ok ?_
       refine aseq_take 200 (by rfl) ?_
       simp (maxSteps := 2000000) only [lA, lC, sXY, eqD_rfl, lL, go_sem]
       repeat' (with_reducible first | refine oA ?_ | refine And.intro (by first | exact hcd | exact hci | exact hcj | omega) ?_ | refine oT (fun g26 => ?_) (fun g26 => ?_) | refine oE (fun g26 => ?_) (fun g26 => ?_))
       all_goals
        refine hK33 _ ?_
        refine AWP_cond rfl ?_ ?_
        ·
         intro c3
         try simp only [decide_eq_true_eq, decide_eq_false_iff_not, Bool.not_eq_true', Bool.not_eq_false', ne_eq, Int.not_lt, Int.not_le, Bool.true_eq_false, Bool.false_eq_true] at c3
         all_goals
          all_goals first | (cases c3; done) | (simp at c3; done) | omega
        ·
         intro c3
         try simp only [decide_eq_true_eq, decide_eq_false_iff_not, Bool.not_eq_true', Bool.not_eq_false', ne_eq, Int.not_lt, Int.not_le, Bool.true_eq_false, Bool.false_eq_true] at c3
         all_goals
          refine AWP_skip ?_
          simp only [go_sem]
          refine hK32 _ ?_
          refine oS fun K34 hK34 => ?_
          refine oS fun K35 hK35 => ?_
          refine oW T_mHx171_ok ?_
          refine aseq_take 200 (by rfl) ?_
          simp only [go_sem]
          repeat (with_reducible first | refine oA ?_ | refine And.intro (by first | exact hcd | exact hci | exact hcj | omega) ?_)
          refine hK35 _ ?_
          refine AWP_block ?_
          refine AWP_loop_k (ι := { j : Nat // j ≤ os.length }) (fun k' => ⟨(zz :: zz :: zz :: zz :: zz :: zz :: zz :: zz :: zz :: zz :: zz :: zz :: zz :: zz :: zz :: .c (.ow 9006) :: zz :: zz :: zz :: zz :: zz :: .c (.ow 9007) :: zz :: zz :: zz :: .c (.sc (.int .i64 (k'.1))) :: zz :: zz :: zz :: zz :: zz :: zz :: zz :: zz :: zz :: zz :: zz :: zz :: zz :: zz :: zz :: zz :: zz :: zz :: zz :: zz :: zz :: zz :: zz :: zz :: zz :: zz :: zz :: zz :: zz :: zz :: zz :: zz :: zz :: zz :: zz :: zz :: zz :: zz :: zz :: zz :: zz :: zz :: zz :: zz :: zz :: zz :: zz :: zz :: zz :: zz :: zz :: zz :: zz :: zz :: zz :: zz :: zz :: zz :: zz :: zz :: zz :: zz :: zz :: zz :: zz :: zz :: zz :: zz :: zz :: zz :: zz :: zz :: zz :: zz :: zz :: zz :: zz :: zz :: zz :: zz :: zz :: zz :: zz :: zz :: zz :: zz :: zz :: zz :: zz :: zz :: zz :: zz :: zz :: zz :: zz :: zz :: zz :: zz :: zz :: zz :: zz :: zz :: zz :: zz :: zz :: zz :: zz :: zz :: zz :: zz :: zz :: zz :: zz :: zz :: zz :: zz :: zz :: zz :: zz :: zz :: zz :: zz :: zz :: zz :: zz :: zz :: zz :: zz :: zz :: zz :: zz :: zz :: zz :: zz :: zz :: zz :: zz :: zz :: zz :: zz :: zz :: zz :: zz :: zz :: zz :: zz :: zz :: zz :: zz :: zz :: zz :: zz :: zz :: zz :: zz :: zz :: []), [(9006, .tree 26 (.row 2 (.int .i64)) ((renderL (pi, ts, ns, os) (insM (rowA mr) pi.toNat) 14)) none), (9007, .tree 26 (.row 2 (.int .i64)) ((renderL (pi, ts, ns, os) (insM (fun i => lateS (rowA mr i) 3) pi.toNat) 17)) none)]⟩) (fun k' => os.length - k'.1) ⟨0, by omega⟩ ?_ ?_
          ·
           refine oK ?_
           simp (maxSteps := 2000000) only [go_sem]
           all_goals ((repeat' refine And.intro ?_ ?_) <;> first | rfl | exact True.intro | exact wk (by omega) | omega | (rw [wrapI (by omega)]; omega) | (congr 1; done) | (simp; done))
          rintro ⟨j, hj⟩ K36 hL36
          refine oS fun K37 hK37 => ?_
          refine oS fun K38 hK38 => ?_
          refine oW T_mHx171_ok ?_
          refine aseq_take 200 (by rfl) ?_
          simp only [lA, go_sem]
          repeat (with_reducible first | refine oA ?_ | refine And.intro (by first | exact hcd | exact hci | exact hcj | omega) ?_)
          refine hK38 _ ?_
          refine AWP_cond rfl ?_ ?_
          ·
           intro c4
           try simp only [decide_eq_true_eq, decide_eq_false_iff_not, Bool.not_eq_true', Bool.not_eq_false', ne_eq, Int.not_lt, Int.not_le, Bool.true_eq_false, Bool.false_eq_true] at c4
           all_goals
            have hdl : delayR ((renderL (pi, ts, ns, os) (insM (rowA mr) pi.toNat) 14).getD j []) 3 = (lateS ((renderL (pi, ts, ns, os) (insM (rowA mr) pi.toNat) 14).getD j []) 3, 0) := delayR_0 (render_smp hP iA (by show j < os.length; omega) (by omega)) rfl (by rw [lenN hF iA (by show j < os.length; omega)]; omega)
            have hlate : (renderL (pi, ts, ns, os) (insM (fun i => lateS (rowA mr i) 3) pi.toNat) 17).getD j [] = lateS ((renderL (pi, ts, ns, os) (insM (rowA mr) pi.toNat) 14).getD j []) 3 := render_late hP hlin hpn hgA 14 3 (by omega) (by show j < os.length; omega)
            refine AWP_skip ?_
            simp only [go_sem]
            refine hK37 _ ?_
            refine oS fun K39 hK39 => ?_
            refine AWP_block ?_
            refine oS fun K40 hK40 => ?_
            refine oW T_mHx171_ok ?_
            refine aseq_take 200 (by rfl) ?_
            simp (maxSteps := 2000000) only [hdl, lA, go_sem]
            repeat (with_reducible first | refine oA ?_ | refine And.intro (by first | exact hcd | exact hci | exact hcj | omega) ?_)
            refine hK40 _ ?_
            refine oS fun K41 hK41 => ?_
            refine oW T_mHx171_ok ?_
            refine aseq_take 200 (by rfl) ?_
            simp (maxSteps := 2000000) only [hlate, eqD_rfl, lL, go_sem]
            repeat (with_reducible first | refine oA ?_ | refine And.intro (by first | exact hcd | exact hci | exact hcj | omega) ?_)
            refine hK41 _ ?_
            refine AWP_cond rfl ?_ ?_
            ·
             intro c5
             try simp only [decide_eq_true_eq, decide_eq_false_iff_not, Bool.not_eq_true', Bool.not_eq_false', ne_eq, Int.not_lt, Int.not_le, Bool.true_eq_false, Bool.false_eq_true] at c5
             all_goals
              all_goals first | (cases c5; done) | (simp at c5; done) | omega
            ·
             intro c5
             try simp only [decide_eq_true_eq, decide_eq_false_iff_not, Bool.not_eq_true', Bool.not_eq_false', ne_eq, Int.not_lt, Int.not_le, Bool.true_eq_false, Bool.false_eq_true] at c5
             all_goals
              refine AWP_skip ?_
              simp only [go_sem]
              refine hK39 _ ?_
              refine oW T_mHx171_ok ?_
              refine aseq_take 200 (by rfl) ?_
              simp only [go_sem]
              repeat (with_reducible first | refine oA ?_ | refine And.intro (by first | exact hcd | exact hci | exact hcj | omega) ?_)
              refine hL36 ⟨j + 1, by omega⟩ _ (oK ?_) ?_
              ·
               simp (maxSteps := 2000000) only [go_sem]
               all_goals ((repeat' refine And.intro ?_ ?_) <;> first | rfl | exact True.intro | exact wk (by omega) | omega | (rw [wrapI (by omega)]; omega) | (congr 1; done) | (simp; done))
              ·
               first | (simp only []; omega) | omega | (simp; omega)
          ·
           intro c4
           try simp only [decide_eq_true_eq, decide_eq_false_iff_not, Bool.not_eq_true', Bool.not_eq_false', ne_eq, Int.not_lt, Int.not_le, Bool.true_eq_false, Bool.false_eq_true] at c4
           all_goals
            refine AWP_exit ?_
            simp only [go_sem]
            refine hK34 _ ?_
            refine oS fun K42 hK42 => ?_
            refine oW T_mHx171_ok ?_
            refine aseq_take 200 (by rfl) ?_
            simp only [go_sem]
            repeat (with_reducible first | refine oA ?_ | refine And.intro (by first | exact hcd | exact hci | exact hcj | omega) ?_)
            refine hK42 _ ?_
            refine AWP_ret ?_
            simp only [hres, go_sem]
            first | exact oF | exact oFr
def T_lawSup : Tab := fun f => if f = 4 then some (.p K_lawSup) else T_mHx171 f
theorem T_lawSup_ok : TabOk Try.prog T_lawSup := tabP lawSup_ok (fnOk_of Try.func4 rfl (by decide)) T_mHx171_ok
attribute [go_sem] T_lawSup K_lawSup

end Go.Proofs.Ytiafipboklboeaa
