/-
  Contracts of functions: FnClasses.
-/
import Derived.Test.YtflaacndokbddaaGreatHd8
import Derived.Test.YtflaacndokbddaaGreatHb24
import Derived.Test.YtflaacndokbddaaGreatHc6
import Derived.Test.YtflaacndokbddaaGreatHc12
import Derived.Test.YtflaacndokbddaaGreatHt6
import Derived.Test.YtflaacndokbddaaGreatHb16
import Derived.Test.YtflaacndokbddaaGreatGree
namespace Go.Proofs.YtflaacndokbddaaGreat
open Go.RowKit
set_option linter.unusedSimpArgs false
set_option linter.unusedVariables false

set_option maxRecDepth 100000
set_option maxHeartbeats 32000000
def T_mHx180 : Tab := fun f => match T_drawCls f with
 | some k => some k
 | none => T_nodeVals f
theorem T_mHx180_ok : TabOk Tryz.prog T_mHx180 := tabM T_drawCls_ok T_nodeVals_ok
attribute [go_sem] T_mHx180 T0

def T_mHx181 : Tab := fun f => match T_mHx180 f with
 | some k => some k
 | none => T_implChk f
theorem T_mHx181_ok : TabOk Tryz.prog T_mHx181 := tabM T_mHx180_ok T_implChk_ok
attribute [go_sem] T_mHx181 T0

def T_mHx182 : Tab := fun f => match T_mHx181 f with
 | some k => some k
 | none => T_implMerge f
theorem T_mHx182_ok : TabOk Tryz.prog T_mHx182 := tabM T_mHx181_ok T_implMerge_ok
attribute [go_sem] T_mHx182 T0

def T_mHx183 : Tab := fun f => match T_mHx182 f with
 | some k => some k
 | none => T_specStep f
theorem T_mHx183_ok : TabOk Tryz.prog T_mHx183 := tabM T_mHx182_ok T_specStep_ok
attribute [go_sem] T_mHx183 T0

def T_mHx184 : Tab := fun f => match T_mHx183 f with
 | some k => some k
 | none => T_specRender f
theorem T_mHx184_ok : TabOk Tryz.prog T_mHx184 := tabM T_mHx183_ok T_specRender_ok
attribute [go_sem] T_mHx184 T0

def K_lawCls : Con := ⟨[.val ((.row 5 (.int .u8))), .val ((.row 5 (.int .u8)))], [⟨.bool, true⟩], fun x => (∀ b ∈ (x.1 : List Int), 0 ≤ b ∧ b ≤ 255) ∧ ∀ b ∈ (x.2.1 : List Int), 0 ≤ b ∧ b ≤ 255, fun _ => true⟩
theorem lawCls_ok : PureT Tryz.prog 3 K_lawCls := by
  refine pure_of_body Tryz.func3 rfl ?_
  have hres : Tryz.f3.results.toList = [.tmp 4] := rfl
  rintro ⟨(cd : List Int), (mr : List Int), _⟩ hc hL
  simp only [K_lawCls, go_sem] at hL
  simp only [K_lawCls, St.init, St.initG, Tryz.ntmps3, go_sem] 
  obtain ⟨hcd, hmb⟩ := (show (∀ b ∈ cd, 0 ≤ b ∧ b ≤ 255) ∧ ∀ b ∈ mr, 0 ≤ b ∧ b ≤ 255 from hc)
  rcases hd : clsC cd with ⟨pi, ts, ns, os⟩
  obtain ⟨CL, cz, hcr, hcz⟩ : ∃ CL cz, clsR (pi, ts, ns, os) = (CL, cz) ∧ ((cz = 0 ∧ patchB (pi, ts, ns, os) = true ∧ CL = clsF ts ns) ∨ (cz = 1 ∧ patchB (pi, ts, ns, os) = false)) := by
    cases h : patchB (pi, ts, ns, os) with
    | true => exact ⟨_, _, clsR_t h, .inl ⟨rfl, rfl, rfl⟩⟩
    | false => exact ⟨_, _, clsR_f h, .inr ⟨rfl, rfl⟩⟩
  refine oS fun K1 hK1 => ?_
  refine oW T_mHx184_ok ?_
  refine aseq_take 200 (by rfl) ?_
  simp only [go_sem]
  repeat (with_reducible first | refine oA ?_ | refine And.intro (by first | exact hcd | exact hci | exact ⟨by omega, by omega⟩ | omega) ?_)
  refine hK1 _ ?_
  refine oS fun K2 hK2 => ?_
  refine oS fun K3 hK3 => ?_
  refine oW T_mHx184_ok ?_
  refine aseq_take 200 (by rfl) ?_
  simp (maxSteps := 2000000) only [go_sem]
  repeat' (with_reducible first | refine oA ?_ | refine And.intro (by first | exact hcd | exact hci | exact ⟨by omega, by omega⟩ | omega) ?_ | refine oT (fun g1 => ?_) (fun g1 => ?_) | refine oE (fun g1 => ?_) (fun g1 => ?_))
  all_goals
   refine hK3 _ ?_
   refine AWP_cond rfl ?_ ?_
   ·
    intro c0
    try simp only [zA, zB, zC, zD, zE, zF, zG, zH, zI] at c0
    all_goals
     refine oS fun K4 hK4 => ?_
     refine oW T_mHx184_ok ?_
     refine aseq_take 200 (by rfl) ?_
     simp only [go_sem]
     repeat (with_reducible first | refine oA ?_ | refine And.intro (by first | exact hcd | exact hci | exact ⟨by omega, by omega⟩ | omega) ?_)
     refine hK4 _ ?_
     refine AWP_ret ?_
     simp only [hres, go_sem]
     first | exact oF | exact oFr
   ·
    intro c0
    try simp only [zA, zB, zC, zD, zE, zF, zG, zH, zI] at c0
    all_goals
     refine AWP_skip ?_
     simp only [go_sem]
     refine hK2 _ ?_
     refine oS fun K5 hK5 => ?_
     refine oW T_mHx184_ok ?_
     refine aseq_take 200 (by rfl) ?_
     simp only [hd, go_sem]
     repeat (with_reducible first | refine oA ?_ | refine And.intro (by first | exact hcd | exact hci | exact ⟨by omega, by omega⟩ | omega) ?_)
     refine hK5 _ ?_
     refine oS fun K6 hK6 => ?_
     refine oW T_mHx184_ok ?_
     refine aseq_take 200 (by rfl) ?_
     simp (maxSteps := 2000000) only [hcr, go_sem]
     repeat (with_reducible first | refine oA ?_ | refine And.intro (by first | exact hcd | exact hci | exact ⟨by omega, by omega⟩ | omega) ?_)
     refine hK6 _ ?_
     refine oS fun K7 hK7 => ?_
     refine oS fun K8 hK8 => ?_
     refine oW T_mHx184_ok ?_
     refine aseq_take 200 (by rfl) ?_
     simp (maxSteps := 2000000) only [go_sem]
     repeat' (with_reducible first | refine oA ?_ | refine And.intro (by first | exact hcd | exact hci | exact ⟨by omega, by omega⟩ | omega) ?_ | refine oT (fun g5 => ?_) (fun g5 => ?_) | refine oE (fun g5 => ?_) (fun g5 => ?_))
     all_goals
      refine hK8 _ ?_
      refine AWP_cond rfl ?_ ?_
      ·
       intro c1
       try simp only [zA, zB, zC, zD, zE, zF, zG, zH, zI] at c1
       all_goals
        refine oS fun K9 hK9 => ?_
        refine oW T_mHx184_ok ?_
        refine aseq_take 200 (by rfl) ?_
        simp (maxSteps := 2000000) only [go_sem]
        repeat (with_reducible first | refine oA ?_ | refine And.intro (by first | exact hcd | exact hci | exact ⟨by omega, by omega⟩ | omega) ?_)
        refine hK9 _ ?_
        refine AWP_ret ?_
        simp only [hres, go_sem]
        first
         | exact oF
         | refine ⟨?_, oF⟩
           rcases hcz with ⟨h1, h2, h3⟩ | ⟨h1, h2⟩
           · exfalso
             first | omega | (clear hK1 hK2 hK3 hK5 hK6 hK7 hK8 hK9; simp_all; done)
           · simp [h1, h2]
      ·
       intro c1
       try simp only [zA, zB, zC, zD, zE, zF, zG, zH, zI] at c1
       all_goals
        have hz : cz = 0 ∧ patchB (pi, ts, ns, os) = true ∧ CL = clsF ts ns := by
          rcases hcz with h | ⟨h1, h2⟩
          · exact h
          · exfalso
            first | omega | (clear hK1 hK2 hK3 hK5 hK6 hK7 hK8; simp_all; done)
        obtain ⟨hz1, hP, hz3⟩ := hz
        subst hz1 hz3
        rcases hm : mergeP (pi, ts, ns, os) with ⟨qi, qt, qn, qo⟩
        have hF := (patchB_parts hP).1
        have hn24 : ns.length ≤ 24 := (formedB_parts hF).1
        have hpi : 0 ≤ pi ∧ pi ≤ 4 := ⟨(formedB_parts hF).2.2.2.1, (formedB_parts hF).2.2.2.2.1⟩
        have hpn : ((pi.toNat : Nat) : Int) = pi := Int.toNat_of_nonneg hpi.1
        have hp4 : pi.toNat ≤ 4 := by omega
        have hcl : (clsF ts ns).length = ns.length := clsF_len
        have hck : checkB (pi, ts, ns, os) (clsF ts ns) = true := cls_check (p := (pi, ts, ns, os)) hP
        have hmr2 : mergeR (pi, ts, ns, os) = ((qi, qt, qn, qo), 0) := by rw [mergeR_t hP, hm]
        have hcn : cntR (pi, ts, ns, os) = (countF ts ns, 0) := cntR_t hP
        have hcnt : (qn.length : Int) = countF ts ns := by have h := merge_count (p := (pi, ts, ns, os)) hP; rw [hm] at h; exact h
        have hred : redB (qi, qt, qn, qo) = true := by have h := merge_red (p := (pi, ts, ns, os)) hP; rwa [hm] at h
        have hQ : patchB (qi, qt, qn, qo) = true := by have h := merge_patch (p := (pi, ts, ns, os)) hP; rwa [hm] at h
        have hqi : qi = pi := by have h : (mergeP (pi, ts, ns, os)).1 = pi := rfl; rw [hm] at h; exact h
        have hst0 : startR (pi, ts, ns, os) = (startL (pi, ts, ns, os), 0) := startR_t hP
        have hin : insOk (pi, ts, ns, os) (insQ mr pi.toNat 12 0) := insQ_ok hmb hpn
        have hinQ : insOk (qi, qt, qn, qo) (insQ mr pi.toNat 12 0) := insQ_ok hmb (by show ((pi.toNat : Nat) : Int) = qi; omega)
        have rP : renderR (pi, ts, ns, os) (insQ mr pi.toNat 12 0) 12 = (renderL (pi, ts, ns, os) (insQ mr pi.toNat 12 0) 12, 0) := renderR_0 hP (by rw [sigB_iff.2 hin]; rfl)
        have rQ : renderR (qi, qt, qn, qo) (insQ mr pi.toNat 12 0) 12 = (renderL (pi, ts, ns, os) (insQ mr pi.toNat 12 0) 12, 0) := by
          have h := merge_render (p := (pi, ts, ns, os)) hP hin 12
          rw [hm] at h
          rw [h]
          exact renderR_0 hQ (by rw [sigB_iff.2 hinQ]; rfl)
        refine AWP_skip ?_
        simp only [go_sem]
        refine hK7 _ ?_
        refine oS fun K10 hK10 => ?_
        refine oW T_mHx184_ok ?_
        refine aseq_take 200 (by rfl) ?_
        simp (maxSteps := 2000000) only [List.nodup_cons, List.nodup_nil, List.not_mem_nil, not_false_eq_true, hmr2, go_sem]
        repeat (with_reducible first | refine oA ?_ | refine And.intro (by first | exact hcd | exact hci | exact ⟨by omega, by omega⟩ | omega) ?_)
        refine hK10 _ ?_
        refine oS fun K11 hK11 => ?_
        refine oW T_mHx184_ok ?_
        refine aseq_take 200 (by rfl) ?_
        simp (maxSteps := 2000000) only [hcn, go_sem]
        repeat (with_reducible first | refine oA ?_ | refine And.intro (by first | exact hcd | exact hci | exact ⟨by omega, by omega⟩ | omega) ?_)
        refine hK11 _ ?_
        refine oS fun K12 hK12 => ?_
        refine oS fun K13 hK13 => ?_
        refine AWP_wk (Wk_freeB _ 1012 (by decide)) ?_
        simp (maxSteps := 2000000) only [go_sem]
        refine AWP_wk (Wk_freeB _ 1013 (by decide)) ?_
        simp (maxSteps := 2000000) only [go_sem]
        refine AWP_wk (Wk_freeR _ 1014 (by decide)) ?_
        simp (maxSteps := 2000000) only [go_sem]
        refine oW T_mHx184_ok ?_
        refine aseq_take 200 (by rfl) ?_
        simp (maxSteps := 2000000) only [hcl, hck, hcnt, hred, go_sem]
        repeat' (with_reducible first | refine oA ?_ | refine And.intro (by first | exact hcd | exact hci | exact ⟨by omega, by omega⟩ | omega) ?_ | refine oT (fun g9 => ?_) (fun g9 => ?_) | refine oE (fun g9 => ?_) (fun g9 => ?_))
        all_goals
         refine hK13 _ ?_
         refine AWP_cond rfl ?_ ?_
         ·
          intro c2
          try simp only [zA, zB, zC, zD, zE, zF, zG, zH, zI] at c2
          all_goals
           all_goals first | (cases c2; done) | (simp at c2; done) | omega
         ·
          intro c2
          try simp only [zA, zB, zC, zD, zE, zF, zG, zH, zI] at c2
          all_goals
           refine AWP_skip ?_
           simp only [go_sem]
           refine hK12 _ ?_
           refine oS fun K14 hK14 => ?_
           refine oW T_mHx184_ok ?_
           refine aseq_take 200 (by rfl) ?_
           simp (maxSteps := 2000000) only [List.nodup_cons, List.nodup_nil, List.not_mem_nil, not_false_eq_true, hst0, go_sem]
           repeat (with_reducible first | refine oA ?_ | refine And.intro (by first | exact hcd | exact hci | exact ⟨by omega, by omega⟩ | omega) ?_)
           refine hK14 _ ?_
           refine oS fun K15 hK15 => ?_
           refine oW T_mHx184_ok ?_
           refine aseq_take 200 (by rfl) ?_
           simp only [go_sem]
           repeat (with_reducible first | refine oA ?_ | refine And.intro (by first | exact hcd | exact hci | exact ⟨by omega, by omega⟩ | omega) ?_)
           refine hK15 _ ?_
           refine oS fun K16 hK16 => ?_
           refine oS fun K17 hK17 => ?_
           refine oW T_mHx184_ok ?_
           refine aseq_take 200 (by rfl) ?_
           simp only [go_sem]
           repeat (with_reducible first | refine oA ?_ | refine And.intro (by first | exact hcd | exact hci | exact ⟨by omega, by omega⟩ | omega) ?_)
           refine hK17 _ ?_
           refine AWP_block ?_
           refine AWP_loop_k (ι := { i : Nat // i ≤ 12 }) (fun k => ⟨(zz :: .c (.rd [] 5 (.int .u8) (mr)) :: zz :: zz :: zz :: .c (.po 180 0) :: .c (.ow 9001) :: zz :: .c (.po 228 0) :: zz :: zz :: zz :: .c (.po 292 0) :: zz :: .c (.ow 9006) :: .c (.sc (.int .i64 (k.1))) :: zz :: zz :: zz :: zz :: zz :: zz :: zz :: zz :: zz :: zz :: zz :: zz :: zz :: zz :: zz :: zz :: zz :: zz :: zz :: zz :: zz :: zz :: zz :: zz :: zz :: zz :: zz :: zz :: zz :: zz :: zz :: zz :: zz :: zz :: zz :: zz :: zz :: zz :: zz :: zz :: zz :: zz :: zz :: zz :: zz :: zz :: zz :: zz :: zz :: zz :: zz :: zz :: zz :: zz :: zz :: zz :: zz :: zz :: zz :: zz :: zz :: zz :: zz :: zz :: zz :: zz :: zz :: zz :: zz :: zz :: zz :: zz :: zz :: zz :: zz :: zz :: zz :: zz :: zz :: zz :: zz :: zz :: zz :: zz :: zz :: zz :: zz :: zz :: zz :: zz :: zz :: zz :: zz :: zz :: zz :: zz :: zz :: zz :: zz :: zz :: zz :: zz :: zz :: zz :: zz :: zz :: zz :: zz :: zz :: zz :: zz :: zz :: zz :: zz :: zz :: zz :: zz :: zz :: zz :: zz :: zz :: zz :: zz :: zz :: zz :: zz :: zz :: zz :: zz :: zz :: zz :: zz :: zz :: zz :: zz :: zz :: zz :: zz :: zz :: zz :: zz :: zz :: zz :: zz :: zz :: zz :: zz :: zz :: zz :: zz :: zz :: zz :: zz :: zz :: zz :: zz :: zz :: zz :: zz :: zz :: zz :: zz :: zz :: zz :: zz :: zz :: zz :: zz :: zz :: zz :: zz :: zz :: zz :: zz :: zz :: zz :: zz :: zz :: zz :: zz :: zz :: zz :: zz :: zz :: zz :: zz :: zz :: zz :: zz :: zz :: zz :: zz :: zz :: zz :: zz :: zz :: zz :: zz :: []), [(180, .box [.sc (.int .i64 (pi)), .rd [] 26 ((.row 2 (.int .i64))) (ts), .rd [] 90 ((.prod (.int .i64) (.prod (.int .i64) (.prod (.int .i64) (.row 2 (.int .i64)))))) (ns), .rd [] 2 (.int .i64) (os)]), (9001, .row 2 (.int .i64) (clsF ts ns) []), (228, .box [.sc (.int .i64 (qi)), .rd [] 26 ((.row 2 (.int .i64))) (qt), .rd [] 90 ((.prod (.int .i64) (.prod (.int .i64) (.prod (.int .i64) (.row 2 (.int .i64)))))) (qn), .rd [] 2 (.int .i64) (qo)]), (292, .box [.ow 9005]), (9005, .tree 26 (.row 2 (.int .i64)) ((stN (pi, ts, ns, os) (insQ mr pi.toNat 12 0) k.1)) none), (9006, .tree 26 (.row 2 (.int .i64)) (insQ mr pi.toNat (k.1) (0)) none)]⟩) (fun k => 12 - k.1) ⟨0, by omega⟩ ?_ ?_
           ·
            refine oK ?_
            simp (maxSteps := 2000000) only [go_sem]
            all_goals ((repeat' refine And.intro ?_ ?_) <;> first | rfl | exact True.intro | exact wk (by omega) | omega | (congr 1; exact (insQ_zero _ _).symm) | (congr 1; exact insQ_next _ _ _) | (congr 1; done) | (simp; done))
           rintro ⟨i, hi⟩ K18 hL18
           have hw1 : IntKind.i64.wrap (4 * (i : Int)) = 4 * i := wrapI (by omega)
           refine oS fun K19 hK19 => ?_
           refine oS fun K20 hK20 => ?_
           refine oW T_mHx184_ok ?_
           refine aseq_take 200 (by rfl) ?_
           simp only [go_sem]
           repeat (with_reducible first | refine oA ?_ | refine And.intro (by first | exact hcd | exact hci | exact ⟨by omega, by omega⟩ | omega) ?_)
           refine hK20 _ ?_
           refine AWP_cond rfl ?_ ?_
           ·
            intro c3
            try simp only [zA, zB, zC, zD, zE, zF, zG, zH, zI] at c3
            all_goals
             have hi12 : i < 12 := by omega
             refine AWP_skip ?_
             simp only [go_sem]
             refine hK19 _ ?_
             refine oS fun K21 hK21 => ?_
             refine AWP_block ?_
             refine oS fun K22 hK22 => ?_
             refine oW T_mHx184_ok ?_
             refine aseq_take 200 (by rfl) ?_
             simp only [List.nodup_nil, go_sem]
             repeat (with_reducible first | refine oA ?_ | refine And.intro (by first | exact hcd | exact hci | exact ⟨by omega, by omega⟩ | omega) ?_)
             refine hK22 _ ?_
             refine oS fun K23 hK23 => ?_
             refine oS fun K24 hK24 => ?_
             refine oW T_mHx184_ok ?_
             refine aseq_take 200 (by rfl) ?_
             simp only [go_sem]
             repeat (with_reducible first | refine oA ?_ | refine And.intro (by first | exact hcd | exact hci | exact ⟨by omega, by omega⟩ | omega) ?_)
             refine hK24 _ ?_
             refine AWP_block ?_
             refine AWP_loop_k (ι := { m : Nat // m ≤ pi.toNat }) (fun k' => ⟨(zz :: .c (.rd [] 5 (.int .u8) (mr)) :: zz :: zz :: zz :: .c (.po 180 0) :: .c (.ow 9001) :: zz :: .c (.po 228 0) :: zz :: zz :: zz :: .c (.po 292 0) :: zz :: .c (.ow 9006) :: .c (.sc (.int .i64 (i))) :: .c (.ow 9007) :: .c (.sc (.int .i64 (k'.1))) :: zz :: zz :: zz :: zz :: zz :: zz :: zz :: zz :: zz :: zz :: zz :: zz :: zz :: zz :: zz :: zz :: zz :: zz :: zz :: zz :: zz :: zz :: zz :: zz :: zz :: zz :: zz :: zz :: zz :: zz :: zz :: zz :: zz :: zz :: zz :: zz :: zz :: zz :: zz :: zz :: zz :: zz :: zz :: zz :: zz :: zz :: zz :: zz :: zz :: zz :: zz :: zz :: zz :: zz :: zz :: zz :: zz :: zz :: zz :: zz :: zz :: zz :: zz :: zz :: zz :: zz :: zz :: zz :: zz :: zz :: zz :: zz :: zz :: zz :: zz :: zz :: zz :: zz :: zz :: zz :: zz :: zz :: zz :: zz :: zz :: zz :: zz :: zz :: zz :: zz :: zz :: zz :: zz :: zz :: zz :: zz :: zz :: zz :: zz :: zz :: zz :: zz :: zz :: zz :: zz :: zz :: zz :: zz :: zz :: zz :: zz :: zz :: zz :: zz :: zz :: zz :: zz :: zz :: zz :: zz :: zz :: zz :: zz :: zz :: zz :: zz :: zz :: zz :: zz :: zz :: zz :: zz :: zz :: zz :: zz :: zz :: zz :: zz :: zz :: zz :: zz :: zz :: zz :: zz :: zz :: zz :: zz :: zz :: zz :: zz :: zz :: zz :: zz :: zz :: zz :: zz :: zz :: zz :: zz :: zz :: zz :: zz :: zz :: zz :: zz :: zz :: zz :: zz :: zz :: zz :: zz :: zz :: zz :: zz :: zz :: zz :: zz :: zz :: zz :: zz :: zz :: zz :: zz :: zz :: zz :: zz :: zz :: zz :: zz :: zz :: zz :: zz :: zz :: zz :: zz :: zz :: []), [(180, .box [.sc (.int .i64 (pi)), .rd [] 26 ((.row 2 (.int .i64))) (ts), .rd [] 90 ((.prod (.int .i64) (.prod (.int .i64) (.prod (.int .i64) (.row 2 (.int .i64)))))) (ns), .rd [] 2 (.int .i64) (os)]), (9001, .row 2 (.int .i64) (clsF ts ns) []), (228, .box [.sc (.int .i64 (qi)), .rd [] 26 ((.row 2 (.int .i64))) (qt), .rd [] 90 ((.prod (.int .i64) (.prod (.int .i64) (.prod (.int .i64) (.row 2 (.int .i64)))))) (qn), .rd [] 2 (.int .i64) (qo)]), (292, .box [.ow 9005]), (9005, .tree 26 (.row 2 (.int .i64)) ((stN (pi, ts, ns, os) (insQ mr pi.toNat 12 0) i)) none), (9006, .tree 26 (.row 2 (.int .i64)) (insQ mr pi.toNat (i) (k'.1)) none), (9007, .row 2 (.int .i64) (rowN (fun k => sgK mr i k) k'.1) [])]⟩) (fun k' => pi.toNat - k'.1) ⟨0, by omega⟩ ?_ ?_
             ·
              refine oK ?_
              simp (maxSteps := 2000000) only [go_sem]
              all_goals ((repeat' refine And.intro ?_ ?_) <;> first | rfl | exact True.intro | exact wk (by omega) | omega | (congr 1; exact (insQ_zero _ _).symm) | (congr 1; exact insQ_next _ _ _) | (congr 1; done) | (simp; done))
             rintro ⟨m, hm'⟩ K25 hL25
             have hwa : IntKind.i64.wrap (4 * (i : Int) + (m : Int)) = 4 * i + m := wrapI (by omega)
             have hb5 := atD_rng (i := 4 * (i : Int) + m) (n := 256) hmb (by omega) (by omega)
             have hwb : IntKind.i64.wrap ((atD mr (4 * (i : Int) + (m : Int)) 256) - 128) = (atD mr (4 * (i : Int) + (m : Int)) 256) - 128 := wrapI (by omega)
             have hwc : IntKind.i64.wrap (5000000 * ((atD mr (4 * (i : Int) + (m : Int)) 256) - 128)) = 5000000 * ((atD mr (4 * (i : Int) + (m : Int)) 256) - 128) := wrapI (by omega)
             have hci : inR (4 * (i : Int) + (m : Int)) 0 1000000 = true := inR_t (by omega) (by omega)
             have hrl : (rowN (fun k => sgK mr i k) m).length = m := rowN_len _ _
             have hal : (rowN (fun j => sgK mr j m) i).length = i := rowN_len _ _
             have hil : (insQ mr pi.toNat i m).length = pi.toNat := insQ_len _ _ _ _
             have hat0 : m < pi.toNat → (insQ mr pi.toNat i m).getD m [] = rowN (fun j => sgK mr j m) i := insQ_at1
             have hset : m < pi.toNat → (insQ mr pi.toNat i m).set m (rowN (fun j => sgK mr j m) i ++ [5000000 * ((atD mr (4 * (i : Int) + (m : Int)) 256) - 128)]) = insQ mr pi.toNat i (m + 1) := insQ_set
             have hrn : rowN (fun k => sgK mr i k) m ++ [5000000 * ((atD mr (4 * (i : Int) + (m : Int)) 256) - 128)] = rowN (fun k => sgK mr i k) (m + 1) := rowN_next (fun k => sgK mr i k) m
             refine oS fun K26 hK26 => ?_
             refine oS fun K27 hK27 => ?_
             refine oW T_mHx184_ok ?_
             refine aseq_take 200 (by rfl) ?_
             simp only [go_sem]
             repeat (with_reducible first | refine oA ?_ | refine And.intro (by first | exact hcd | exact hci | exact ⟨by omega, by omega⟩ | omega) ?_)
             refine hK27 _ ?_
             refine AWP_cond rfl ?_ ?_
             ·
              intro c4
              try simp only [zA, zB, zC, zD, zE, zF, zG, zH, zI] at c4
              all_goals
               have hmN : m < pi.toNat := by omega
               have hat := hat0 hmN
               refine AWP_skip ?_
               simp only [go_sem]
               refine hK26 _ ?_
               refine oS fun K28 hK28 => ?_
               refine AWP_block ?_
               refine oS fun K29 hK29 => ?_
               refine oW T_mHx184_ok ?_
               refine aseq_take 200 (by rfl) ?_
               simp (maxSteps := 2000000) only [hw1, hwa, hwb, hwc, go_sem]
               repeat (with_reducible first | refine oA ?_ | refine And.intro (by first | exact hcd | exact hci | exact ⟨by omega, by omega⟩ | omega) ?_)
               refine hK29 _ ?_
               refine oS fun K30 hK30 => ?_
               refine oW T_mHx184_ok ?_
               refine aseq_take 200 (by rfl) ?_
               simp (maxSteps := 2000000) only [hrl, go_sem]
               repeat (with_reducible first | refine oA ?_ | refine And.intro (by first | exact hcd | exact hci | exact ⟨by omega, by omega⟩ | omega) ?_)
               refine hK30 _ ?_
               refine oW T_mHx184_ok ?_
               refine aseq_take 200 (by rfl) ?_
               simp (maxSteps := 2000000) only [List.nodup_cons, List.nodup_nil, List.not_mem_nil, not_false_eq_true, hil, hat, hal, go_sem]
               repeat (with_reducible first | refine oA ?_ | refine And.intro (by first | exact hcd | exact hci | exact ⟨by omega, by omega⟩ | omega) ?_)
               refine hK28 _ ?_
               refine oW T_mHx184_ok ?_
               refine aseq_take 200 (by rfl) ?_
               simp only [go_sem]
               repeat (with_reducible first | refine oA ?_ | refine And.intro (by first | exact hcd | exact hci | exact ⟨by omega, by omega⟩ | omega) ?_)
               refine hL25 ⟨m + 1, by omega⟩ _ (oK ?_) ?_
               ·
                simp (maxSteps := 2000000) only [go_sem]
                all_goals ((repeat' refine And.intro ?_ ?_) <;> first | rfl | exact True.intro | exact wk (by omega) | exact hrn | (congr 1; exact hrn) | exact hset (by omega) | (congr 1; exact hset (by omega)) | (congr 1; done))
               ·
                first | (simp only []; omega) | omega | (simp; omega)
             ·
              intro c4
              try simp only [zA, zB, zC, zD, zE, zF, zG, zH, zI] at c4
              all_goals
               obtain rfl : m = pi.toNat := by omega
               have hFR : rowN (fun k => sgK mr i k) pi.toNat = frameAt (insQ mr pi.toNat 12 0) (i : Int) := (frame_insQ hi12).symm
               have hnv : nvR (pi, ts, ns, os) (stN (pi, ts, ns, os) (insQ mr pi.toNat 12 0) i) (rowN (fun k => sgK mr i k) pi.toNat) = ((valN (pi, ts, ns, os) (insQ mr pi.toNat 12 0) i), 0) := by rw [hFR]; exact nvR_t (codeN hP hin i)
               have hsp : stepR (pi, ts, ns, os) (stN (pi, ts, ns, os) (insQ mr pi.toNat 12 0) i) (rowN (fun k => sgK mr i k) pi.toNat) = (outsL (pi, ts, ns, os) (valN (pi, ts, ns, os) (insQ mr pi.toNat 12 0) i), (stN (pi, ts, ns, os) (insQ mr pi.toNat 12 0) (i + 1)), 0) := by rw [hFR]; exact stepN hP hin i
               have hvl : (valN (pi, ts, ns, os) (insQ mr pi.toNat 12 0) i).length = ns.length := (valsL_ok' (p := (pi, ts, ns, os)) hF (stN_ok hF hin i) (frameAt_ok (p := (pi, ts, ns, os)) hin (i : Int)).2).1
               have hcv : ∀ a b : Nat, a < ns.length → b < ns.length → (clsF ts ns).getD a 0 = (clsF ts ns).getD b 0 → (valN (pi, ts, ns, os) (insQ mr pi.toNat 12 0) i).getD a 0 = (valN (pi, ts, ns, os) (insQ mr pi.toNat 12 0) i).getD b 0 := fun a b h1 h2 h3 => cls_val (p := (pi, ts, ns, os)) hP (insQ mr pi.toNat 12 0) i h1 h2 h3
               refine AWP_exit ?_
               simp only [go_sem]
               refine hK23 _ ?_
               refine oS fun K31 hK31 => ?_
               refine oW T_mHx184_ok ?_
               refine aseq_take 200 (by rfl) ?_
               simp (maxSteps := 2000000) only [hnv, go_sem]
               repeat (with_reducible first | refine oA ?_ | refine And.intro (by first | exact hcd | exact hci | exact ⟨by omega, by omega⟩ | omega) ?_)
               refine hK31 _ ?_
               refine oS fun K32 hK32 => ?_
               refine oW T_mHx184_ok ?_
               refine aseq_take 200 (by rfl) ?_
               simp (maxSteps := 2000000) only [List.nodup_cons, List.nodup_nil, List.not_mem_nil, not_false_eq_true, hsp, go_sem]
               repeat (with_reducible first | refine oA ?_ | refine And.intro (by first | exact hcd | exact hci | exact ⟨by omega, by omega⟩ | omega) ?_)
               refine hK32 _ ?_
               refine oS fun K33 hK33 => ?_
               refine oS fun K34 hK34 => ?_
               refine oW T_mHx184_ok ?_
               refine aseq_take 200 (by rfl) ?_
               simp (maxSteps := 2000000) only [go_sem]
               repeat' (with_reducible first | refine oA ?_ | refine And.intro (by first | exact hcd | exact hci | exact ⟨by omega, by omega⟩ | omega) ?_ | refine oT (fun g25 => ?_) (fun g25 => ?_) | refine oE (fun g25 => ?_) (fun g25 => ?_))
               all_goals
                refine hK34 _ ?_
                refine AWP_cond rfl ?_ ?_
                ·
                 intro c5
                 try simp only [zA, zB, zC, zD, zE, zF, zG, zH, zI] at c5
                 all_goals
                  all_goals first | (cases c5; done) | (simp at c5; done) | omega
                ·
                 intro c5
                 try simp only [zA, zB, zC, zD, zE, zF, zG, zH, zI] at c5
                 all_goals
                  refine AWP_skip ?_
                  simp only [go_sem]
                  refine hK33 _ ?_
                  refine oS fun K35 hK35 => ?_
                  refine oS fun K36 hK36 => ?_
                  refine oW T_mHx184_ok ?_
                  refine aseq_take 200 (by rfl) ?_
                  simp only [go_sem]
                  repeat (with_reducible first | refine oA ?_ | refine And.intro (by first | exact hcd | exact hci | exact ⟨by omega, by omega⟩ | omega) ?_)
                  refine hK36 _ ?_
                  refine AWP_block ?_
                  refine AWP_loop_k (ι := { a : Nat // a ≤ ns.length }) (fun k' => ⟨(zz :: .c (.rd [] 5 (.int .u8) (mr)) :: zz :: zz :: zz :: .c (.po 180 0) :: .c (.ow 9001) :: zz :: .c (.po 228 0) :: zz :: zz :: zz :: .c (.po 292 0) :: zz :: .c (.ow 9006) :: .c (.sc (.int .i64 (i))) :: zz :: zz :: zz :: .c (.ow 9010) :: zz :: zz :: .c (.po 452 0) :: zz :: .c (.sc (.int .i64 (k'.1))) :: zz :: zz :: zz :: zz :: zz :: zz :: zz :: zz :: zz :: zz :: zz :: zz :: zz :: zz :: zz :: zz :: zz :: zz :: zz :: zz :: zz :: zz :: zz :: zz :: zz :: zz :: zz :: zz :: zz :: zz :: zz :: zz :: zz :: zz :: zz :: zz :: zz :: zz :: zz :: zz :: zz :: zz :: zz :: zz :: zz :: zz :: zz :: zz :: zz :: zz :: zz :: zz :: zz :: zz :: zz :: zz :: zz :: zz :: zz :: zz :: zz :: zz :: zz :: zz :: zz :: zz :: zz :: zz :: zz :: zz :: zz :: zz :: zz :: zz :: zz :: zz :: zz :: zz :: zz :: zz :: zz :: zz :: zz :: zz :: zz :: zz :: zz :: zz :: zz :: zz :: zz :: zz :: zz :: zz :: zz :: zz :: zz :: zz :: zz :: zz :: zz :: zz :: zz :: zz :: zz :: zz :: zz :: zz :: zz :: zz :: zz :: zz :: zz :: zz :: zz :: zz :: zz :: zz :: zz :: zz :: zz :: zz :: zz :: zz :: zz :: zz :: zz :: zz :: zz :: zz :: zz :: zz :: zz :: zz :: zz :: zz :: zz :: zz :: zz :: zz :: zz :: zz :: zz :: zz :: zz :: zz :: zz :: zz :: zz :: zz :: zz :: zz :: zz :: zz :: zz :: zz :: zz :: zz :: zz :: zz :: zz :: zz :: zz :: zz :: zz :: zz :: zz :: zz :: zz :: zz :: zz :: zz :: zz :: zz :: zz :: zz :: zz :: zz :: zz :: zz :: zz :: zz :: zz :: zz :: zz :: zz :: zz :: zz :: zz :: []), [(180, .box [.sc (.int .i64 (pi)), .rd [] 26 ((.row 2 (.int .i64))) (ts), .rd [] 90 ((.prod (.int .i64) (.prod (.int .i64) (.prod (.int .i64) (.row 2 (.int .i64)))))) (ns), .rd [] 2 (.int .i64) (os)]), (9001, .row 2 (.int .i64) (clsF ts ns) []), (228, .box [.sc (.int .i64 (qi)), .rd [] 26 ((.row 2 (.int .i64))) (qt), .rd [] 90 ((.prod (.int .i64) (.prod (.int .i64) (.prod (.int .i64) (.row 2 (.int .i64)))))) (qn), .rd [] 2 (.int .i64) (qo)]), (292, .box [.ow 9005]), (9005, .tree 26 (.row 2 (.int .i64)) ((stN (pi, ts, ns, os) (insQ mr pi.toNat 12 0) i)) none), (9006, .tree 26 (.row 2 (.int .i64)) (insQ mr pi.toNat (i) (pi.toNat)) none), (9010, .row 2 (.int .i64) ((valN (pi, ts, ns, os) (insQ mr pi.toNat 12 0) i)) []), (452, .box [.ow 9011]), (9011, .tree 26 (.row 2 (.int .i64)) ((stN (pi, ts, ns, os) (insQ mr pi.toNat 12 0) (i + 1))) none)]⟩) (fun k' => ns.length - k'.1) ⟨0, by omega⟩ ?_ ?_
                  ·
                   refine oK ?_
                   simp (maxSteps := 2000000) only [go_sem]
                   all_goals ((repeat' refine And.intro ?_ ?_) <;> first | rfl | exact True.intro | exact wk (by omega) | omega | (congr 1; exact (insQ_zero _ _).symm) | (congr 1; exact insQ_next _ _ _) | (congr 1; done) | (simp; done))
                  rintro ⟨a, ha⟩ K37 hL37
                  refine oS fun K38 hK38 => ?_
                  refine oS fun K39 hK39 => ?_
                  refine oW T_mHx184_ok ?_
                  refine aseq_take 200 (by rfl) ?_
                  simp only [hvl, go_sem]
                  repeat (with_reducible first | refine oA ?_ | refine And.intro (by first | exact hcd | exact hci | exact ⟨by omega, by omega⟩ | omega) ?_)
                  refine hK39 _ ?_
                  refine AWP_cond rfl ?_ ?_
                  ·
                   intro c6
                   try simp only [zA, zB, zC, zD, zE, zF, zG, zH, zI] at c6
                   all_goals
                    refine AWP_skip ?_
                    simp only [go_sem]
                    refine hK38 _ ?_
                    refine oS fun K40 hK40 => ?_
                    refine AWP_block ?_
                    refine oS fun K41 hK41 => ?_
                    refine oW T_mHx184_ok ?_
                    refine aseq_take 200 (by rfl) ?_
                    simp only [go_sem]
                    repeat (with_reducible first | refine oA ?_ | refine And.intro (by first | exact hcd | exact hci | exact ⟨by omega, by omega⟩ | omega) ?_)
                    refine hK41 _ ?_
                    refine AWP_block ?_
                    refine AWP_loop_k (ι := { b : Nat // b ≤ a }) (fun k'' => ⟨(zz :: .c (.rd [] 5 (.int .u8) (mr)) :: zz :: zz :: zz :: .c (.po 180 0) :: .c (.ow 9001) :: zz :: .c (.po 228 0) :: zz :: zz :: zz :: .c (.po 292 0) :: zz :: .c (.ow 9006) :: .c (.sc (.int .i64 (i))) :: zz :: zz :: zz :: .c (.ow 9010) :: zz :: zz :: .c (.po 452 0) :: zz :: .c (.sc (.int .i64 (a))) :: .c (.sc (.int .i64 (k''.1))) :: zz :: zz :: zz :: zz :: zz :: zz :: zz :: zz :: zz :: zz :: zz :: zz :: zz :: zz :: zz :: zz :: zz :: zz :: zz :: zz :: zz :: zz :: zz :: zz :: zz :: zz :: zz :: zz :: zz :: zz :: zz :: zz :: zz :: zz :: zz :: zz :: zz :: zz :: zz :: zz :: zz :: zz :: zz :: zz :: zz :: zz :: zz :: zz :: zz :: zz :: zz :: zz :: zz :: zz :: zz :: zz :: zz :: zz :: zz :: zz :: zz :: zz :: zz :: zz :: zz :: zz :: zz :: zz :: zz :: zz :: zz :: zz :: zz :: zz :: zz :: zz :: zz :: zz :: zz :: zz :: zz :: zz :: zz :: zz :: zz :: zz :: zz :: zz :: zz :: zz :: zz :: zz :: zz :: zz :: zz :: zz :: zz :: zz :: zz :: zz :: zz :: zz :: zz :: zz :: zz :: zz :: zz :: zz :: zz :: zz :: zz :: zz :: zz :: zz :: zz :: zz :: zz :: zz :: zz :: zz :: zz :: zz :: zz :: zz :: zz :: zz :: zz :: zz :: zz :: zz :: zz :: zz :: zz :: zz :: zz :: zz :: zz :: zz :: zz :: zz :: zz :: zz :: zz :: zz :: zz :: zz :: zz :: zz :: zz :: zz :: zz :: zz :: zz :: zz :: zz :: zz :: zz :: zz :: zz :: zz :: zz :: zz :: zz :: zz :: zz :: zz :: zz :: zz :: zz :: zz :: zz :: zz :: zz :: zz :: zz :: zz :: zz :: zz :: zz :: zz :: zz :: zz :: zz :: zz :: zz :: zz :: zz :: zz :: []), [(180, .box [.sc (.int .i64 (pi)), .rd [] 26 ((.row 2 (.int .i64))) (ts), .rd [] 90 ((.prod (.int .i64) (.prod (.int .i64) (.prod (.int .i64) (.row 2 (.int .i64)))))) (ns), .rd [] 2 (.int .i64) (os)]), (9001, .row 2 (.int .i64) (clsF ts ns) []), (228, .box [.sc (.int .i64 (qi)), .rd [] 26 ((.row 2 (.int .i64))) (qt), .rd [] 90 ((.prod (.int .i64) (.prod (.int .i64) (.prod (.int .i64) (.row 2 (.int .i64)))))) (qn), .rd [] 2 (.int .i64) (qo)]), (292, .box [.ow 9005]), (9005, .tree 26 (.row 2 (.int .i64)) ((stN (pi, ts, ns, os) (insQ mr pi.toNat 12 0) i)) none), (9006, .tree 26 (.row 2 (.int .i64)) (insQ mr pi.toNat (i) (pi.toNat)) none), (9010, .row 2 (.int .i64) ((valN (pi, ts, ns, os) (insQ mr pi.toNat 12 0) i)) []), (452, .box [.ow 9011]), (9011, .tree 26 (.row 2 (.int .i64)) ((stN (pi, ts, ns, os) (insQ mr pi.toNat 12 0) (i + 1))) none)]⟩) (fun k'' => a - k''.1) ⟨0, by omega⟩ ?_ ?_
                    ·
                     refine oK ?_
                     simp (maxSteps := 2000000) only [go_sem]
                     all_goals ((repeat' refine And.intro ?_ ?_) <;> first | rfl | exact True.intro | exact wk (by omega) | omega | (congr 1; exact (insQ_zero _ _).symm) | (congr 1; exact insQ_next _ _ _) | (congr 1; done) | (simp; done))
                    rintro ⟨b, hb⟩ K42 hL42
                    refine oS fun K43 hK43 => ?_
                    refine oS fun K44 hK44 => ?_
                    refine oW T_mHx184_ok ?_
                    refine aseq_take 200 (by rfl) ?_
                    simp only [go_sem]
                    repeat (with_reducible first | refine oA ?_ | refine And.intro (by first | exact hcd | exact hci | exact ⟨by omega, by omega⟩ | omega) ?_)
                    refine hK44 _ ?_
                    refine AWP_cond rfl ?_ ?_
                    ·
                     intro c7
                     try simp only [zA, zB, zC, zD, zE, zF, zG, zH, zI] at c7
                     all_goals
                      refine AWP_skip ?_
                      simp only [go_sem]
                      refine hK43 _ ?_
                      refine oS fun K45 hK45 => ?_
                      refine AWP_block ?_
                      refine oS fun K46 hK46 => ?_
                      refine oR T_mHx184_ok
                        [[], [], [0, 1], [0, 1, 2], [], [], [4, 5], [4, 5, 6], [0, 1, 2, 3, 4, 5, 6, 7], [0, 1, 2, 3, 4, 5, 6, 7, 8], [0, 1, 2, 3, 4, 5, 6, 7, 8, 9], [0, 1, 2, 3, 4, 5, 6, 7, 8, 9], [0, 1, 2, 3, 4, 5, 6, 7, 8, 9, 10, 11], [0, 1, 2, 3, 4, 5, 6, 7, 8, 9, 10, 11, 12], [0, 1, 2, 3, 4, 5, 6, 7, 8, 9], [0, 1, 2, 3, 4, 5, 6, 7, 8, 9], [0, 1, 2, 3, 4, 5, 6, 7, 8, 9, 14, 15], [0, 1, 2, 3, 4, 5, 6, 7, 8, 9, 14, 15, 16], [0, 1, 2, 3, 4, 5, 6, 7, 8, 9, 10, 11, 12, 13, 14, 15, 16, 17], [0, 1, 2, 3, 4, 5, 6, 7, 8, 9, 10, 11, 12, 13, 14, 15, 16, 17, 18]]
                        [[], [], [], [], [], [], [], [], [], [], [], [], [], [], [], [], [], [], [], []]
                        [[], [], [], [], [], [], [], [], [], [], [], [], [], [], [], [], [], [], [], []] (by kernel_rfl) (by kernel_rfl) (adrawR_ok (acc := []) ?_)
                      simp (maxSteps := 2000000) only [hcl, hvl, go_sem]
                      repeat' (with_reducible first | refine oD ?_ | refine And.intro (by first | exact hcd | exact hci | exact ⟨by omega, by omega⟩ | omega) ?_ | refine oT (fun g33 => ?_) (fun g33 => ?_) | refine oE (fun g33 => ?_) (fun g33 => ?_))
                      all_goals
                       refine hK46 _ ?_
                       refine AWP_cond rfl ?_ ?_
                       ·
                        intro c8
                        try simp only [zA, zB, zC, zD, zE, zF, zG, zH, zI] at c8
                        all_goals
                         all_goals first | exact absurd (hcv a b (by omega) (by omega) (by assumption)) (by assumption) | (cases c8; done) | (simp at c8; done) | omega
                       ·
                        intro c8
                        try simp only [zA, zB, zC, zD, zE, zF, zG, zH, zI] at c8
                        all_goals
                         refine AWP_skip ?_
                         simp only [go_sem]
                         refine hK45 _ ?_
                         refine oW T_mHx184_ok ?_
                         refine aseq_take 200 (by rfl) ?_
                         simp only [go_sem]
                         repeat (with_reducible first | refine oA ?_ | refine And.intro (by first | exact hcd | exact hci | exact ⟨by omega, by omega⟩ | omega) ?_)
                         refine hL42 ⟨b + 1, by omega⟩ _ (oK ?_) ?_
                         ·
                          simp (maxSteps := 2000000) only [go_sem]
                          all_goals ((repeat' refine And.intro ?_ ?_) <;> first | rfl | exact True.intro | exact wk (by omega) | omega | (congr 1; exact (insQ_zero _ _).symm) | (congr 1; exact insQ_next _ _ _) | (congr 1; done) | (simp; done))
                         ·
                          first | (simp only []; omega) | omega | (simp; omega)
                    ·
                     intro c7
                     try simp only [zA, zB, zC, zD, zE, zF, zG, zH, zI] at c7
                     all_goals
                      refine AWP_exit ?_
                      simp only [go_sem]
                      refine hK40 _ ?_
                      refine oW T_mHx184_ok ?_
                      refine aseq_take 200 (by rfl) ?_
                      simp only [go_sem]
                      repeat (with_reducible first | refine oA ?_ | refine And.intro (by first | exact hcd | exact hci | exact ⟨by omega, by omega⟩ | omega) ?_)
                      refine hL37 ⟨a + 1, by omega⟩ _ (oK ?_) ?_
                      ·
                       simp (maxSteps := 2000000) only [go_sem]
                       all_goals ((repeat' refine And.intro ?_ ?_) <;> first | rfl | exact True.intro | exact wk (by omega) | omega | (congr 1; exact (insQ_zero _ _).symm) | (congr 1; exact insQ_next _ _ _) | (congr 1; done) | (simp; done))
                      ·
                       first | (simp only []; omega) | omega | (simp; omega)
                  ·
                   intro c6
                   try simp only [zA, zB, zC, zD, zE, zF, zG, zH, zI] at c6
                   all_goals
                    refine AWP_exit ?_
                    simp only [go_sem]
                    refine hK35 _ ?_
                    refine oW T_mHx184_ok ?_
                    refine aseq_take 200 (by rfl) ?_
                    simp only [go_sem]
                    repeat (with_reducible first | refine oA ?_ | refine And.intro (by first | exact hcd | exact hci | exact ⟨by omega, by omega⟩ | omega) ?_)
                    refine hK21 _ ?_
                    refine oW T_mHx184_ok ?_
                    refine aseq_take 200 (by rfl) ?_
                    simp only [go_sem]
                    repeat (with_reducible first | refine oA ?_ | refine And.intro (by first | exact hcd | exact hci | exact ⟨by omega, by omega⟩ | omega) ?_)
                    refine hL18 ⟨i + 1, by omega⟩ _ (oK ?_) ?_
                    ·
                     simp (maxSteps := 2000000) only [go_sem]
                     all_goals ((repeat' refine And.intro ?_ ?_) <;> first | rfl | exact True.intro | exact wk (by omega) | omega | (congr 1; exact (insQ_zero _ _).symm) | (congr 1; exact insQ_next _ _ _) | (congr 1; done) | (simp; done))
                    ·
                     first | (simp only []; omega) | omega | (simp; omega)
           ·
            intro c3
            try simp only [zA, zB, zC, zD, zE, zF, zG, zH, zI] at c3
            all_goals
             obtain rfl : i = 12 := by omega
             refine AWP_exit ?_
             simp only [go_sem]
             refine hK16 _ ?_
             refine oS fun K47 hK47 => ?_
             refine oW T_mHx184_ok ?_
             refine aseq_take 200 (by rfl) ?_
             simp (maxSteps := 2000000) only [rP, go_sem]
             repeat (with_reducible first | refine oA ?_ | refine And.intro (by first | exact hcd | exact hci | exact ⟨by omega, by omega⟩ | omega) ?_)
             refine hK47 _ ?_
             refine oS fun K48 hK48 => ?_
             refine oW T_mHx184_ok ?_
             refine aseq_take 200 (by rfl) ?_
             simp (maxSteps := 2000000) only [rQ, go_sem]
             repeat (with_reducible first | refine oA ?_ | refine And.intro (by first | exact hcd | exact hci | exact ⟨by omega, by omega⟩ | omega) ?_)
             refine hK48 _ ?_
             refine oS fun K49 hK49 => ?_
             refine oW T_mHx184_ok ?_
             refine aseq_take 200 (by rfl) ?_
             simp (maxSteps := 2000000) only [eqD_rfl, go_sem]
             repeat' (with_reducible first | refine oA ?_ | refine And.intro (by first | exact hcd | exact hci | exact ⟨by omega, by omega⟩ | omega) ?_ | refine oT (fun g38 => ?_) (fun g38 => ?_) | refine oE (fun g38 => ?_) (fun g38 => ?_))
             all_goals
              refine hK49 _ ?_
              refine AWP_ret ?_
              simp only [hres, go_sem]
              first | exact oF | exact oFr
def T_lawCls : Tab := fun f => if f = 3 then some (.p K_lawCls) else T_mHx184 f
theorem T_lawCls_ok : TabOk Tryz.prog T_lawCls := tabP lawCls_ok (fnOk_of Tryz.func3 rfl (by decide)) T_mHx184_ok
attribute [go_sem] T_lawCls K_lawCls

end Go.Proofs.YtflaacndokbddaaGreat
