/-
  Contracts of functions: FnBlocks.
-/
import Derived.Test.YtiafipboklboeaaHd6
import Derived.Test.YtiafipboklboeaaHb22
import Derived.Test.YtiafipboklboeaaHb18
import Derived.Test.YtiafipboklboeaaHt3
import Derived.Test.YtiafipboklboeaaGz
namespace Go.Proofs.Ytiafipboklboeaa
open Go.RowKit
set_option linter.unusedSimpArgs false
set_option linter.unusedVariables false

set_option maxRecDepth 100000
set_option maxHeartbeats 16000000
def T_mHx160 : Tab := fun f => match T_drawRib f with
 | some k => some k
 | none => T_specVState f
theorem T_mHx160_ok : TabOk Try.prog T_mHx160 := tabM T_drawRib_ok T_specVState_ok
attribute [go_sem] T_mHx160 T0

def T_mHx161 : Tab := fun f => match T_mHx160 f with
 | some k => some k
 | none => T_implRib f
theorem T_mHx161_ok : TabOk Try.prog T_mHx161 := tabM T_mHx160_ok T_implRib_ok
attribute [go_sem] T_mHx161 T0

def T_mHx162 : Tab := fun f => match T_mHx161 f with
 | some k => some k
 | none => T_implStep f
theorem T_mHx162_ok : TabOk Try.prog T_mHx162 := tabM T_mHx161_ok T_implStep_ok
attribute [go_sem] T_mHx162 T0

def K_lawBlocks : Con := ⟨[.val ((.row 5 (.int .u8)))], [⟨.bool, true⟩], fun x => ∀ b ∈ (x.1 : List Int), 0 ≤ b ∧ b ≤ 255, fun _ => true⟩
theorem lawBlocks_tail16 (pi : Int) (ts : List (List Int)) (ns : List NodeD) (os : List Int) (ins : List (List Int)) (zs : List Int) (hP : patchB (pi, ts, ns, os) = true) (hF : formedB (pi, ts, ns, os) = true) (hin : insOk (pi, ts, ns, os) ins) (hz1 : 0 ≤ zs.sum) (hz2 : zs.sum ≤ 4000) (hren : renderR (pi, ts, ns, os) ins zs.sum = ((renderL (pi, ts, ns, os) ins zs.sum.toNat), 0)) (hst : startR (pi, ts, ns, os) = (startL (pi, ts, ns, os), 0)) (hly : (renderL (pi, ts, ns, os) ins zs.sum.toNat).length = os.length) (ho4 : os.length ≤ 4) (hpi0 : 0 ≤ pi ∧ pi ≤ 4) (hil : (ins.length : Int) = pi) : ∀ c, Try.f3.body = some c → AWP Try.prog (tailAt 10 c) ⟨(zz :: zz :: zz :: .c (.po 148 0) :: .c (.ow 9001) :: zz :: zz :: zz :: .c (.sc (.int .i64 (zs.sum))) :: zz :: .c (.ow 9004) :: zz :: .c (.po 292 0) :: zz :: zz :: zz :: zz :: zz :: zz :: zz :: zz :: zz :: zz :: zz :: zz :: zz :: zz :: zz :: zz :: zz :: zz :: zz :: zz :: zz :: zz :: zz :: zz :: zz :: zz :: zz :: zz :: zz :: zz :: zz :: zz :: zz :: zz :: zz :: zz :: zz :: zz :: zz :: zz :: zz :: zz :: zz :: zz :: zz :: zz :: zz :: zz :: zz :: zz :: zz :: zz :: zz :: zz :: zz :: zz :: zz :: zz :: zz :: zz :: zz :: zz :: zz :: zz :: zz :: zz :: zz :: zz :: zz :: zz :: zz :: zz :: zz :: zz :: zz :: zz :: zz :: zz :: zz :: zz :: zz :: zz :: zz :: zz :: zz :: zz :: zz :: zz :: zz :: zz :: zz :: zz :: zz :: zz :: zz :: zz :: zz :: zz :: zz :: zz :: zz :: zz :: zz :: zz :: zz :: zz :: zz :: zz :: zz :: zz :: zz :: zz :: zz :: zz :: zz :: zz :: zz :: zz :: zz :: zz :: zz :: zz :: zz :: zz :: zz :: zz :: zz :: zz :: zz :: zz :: zz :: zz :: zz :: zz :: zz :: zz :: zz :: zz :: zz :: zz :: zz :: zz :: zz :: zz :: zz :: zz :: zz :: zz :: zz :: []), [(148, .box [.sc (.int .i64 (pi)), .rd [] 26 ((.row 2 (.int .i64))) (ts), .rd [] 83 ((.prod (.int .i64) (.prod (.int .i64) (.prod (.int .i64) (.row 2 (.int .i64)))))) (ns), .rd [] 2 (.int .i64) (os)]), (9001, .tree 26 (.row 2 (.int .i64)) (ins) none), (9004, .tree 26 (.row 2 (.int .i64)) ((renderL (pi, ts, ns, os) ins zs.sum.toNat)) none), (292, .box [.ow 9005]), (9005, .tree 26 (.row 2 (.int .i64)) ((stN (pi, ts, ns, os) ins 0)) none)]⟩ (RetQ Try.prog Try.f3.results.toList [⟨.bool, true⟩] true) := by
  refine AWP_tail (code := _) (n := 10) rfl ?_
  simp only [tailAt]
  have hres : Try.f3.results.toList = [.tmp 2] := rfl
  refine oS fun K13 hK13 => ?_
  refine oS fun K14 hK14 => ?_
  refine oW T_mHx162_ok ?_
  refine aseq_take 200 (by rfl) ?_
  simp only [go_sem]
  repeat (with_reducible first | refine oA ?_ | refine And.intro (by first | exact hcd) ?_)
  refine hK14 _ ?_
  refine AWP_block ?_
  refine AWP_loop_k (ι := { i : Nat // (i : Int) ≤ zs.sum }) (fun k => ⟨(zz :: zz :: zz :: .c (.po 148 0) :: .c (.ow 9001) :: zz :: zz :: zz :: .c (.sc (.int .i64 (zs.sum))) :: zz :: .c (.ow 9004) :: zz :: .c (.po 292 0) :: zz :: .c (.sc (.int .i64 (k.1))) :: zz :: zz :: zz :: zz :: zz :: zz :: zz :: zz :: zz :: zz :: zz :: zz :: zz :: zz :: zz :: zz :: zz :: zz :: zz :: zz :: zz :: zz :: zz :: zz :: zz :: zz :: zz :: zz :: zz :: zz :: zz :: zz :: zz :: zz :: zz :: zz :: zz :: zz :: zz :: zz :: zz :: zz :: zz :: zz :: zz :: zz :: zz :: zz :: zz :: zz :: zz :: zz :: zz :: zz :: zz :: zz :: zz :: zz :: zz :: zz :: zz :: zz :: zz :: zz :: zz :: zz :: zz :: zz :: zz :: zz :: zz :: zz :: zz :: zz :: zz :: zz :: zz :: zz :: zz :: zz :: zz :: zz :: zz :: zz :: zz :: zz :: zz :: zz :: zz :: zz :: zz :: zz :: zz :: zz :: zz :: zz :: zz :: zz :: zz :: zz :: zz :: zz :: zz :: zz :: zz :: zz :: zz :: zz :: zz :: zz :: zz :: zz :: zz :: zz :: zz :: zz :: zz :: zz :: zz :: zz :: zz :: zz :: zz :: zz :: zz :: zz :: zz :: zz :: zz :: zz :: zz :: zz :: zz :: zz :: zz :: zz :: zz :: zz :: zz :: zz :: zz :: zz :: zz :: zz :: zz :: zz :: zz :: []), [(148, .box [.sc (.int .i64 (pi)), .rd [] 26 ((.row 2 (.int .i64))) (ts), .rd [] 83 ((.prod (.int .i64) (.prod (.int .i64) (.prod (.int .i64) (.row 2 (.int .i64)))))) (ns), .rd [] 2 (.int .i64) (os)]), (9001, .tree 26 (.row 2 (.int .i64)) (ins) none), (9004, .tree 26 (.row 2 (.int .i64)) ((renderL (pi, ts, ns, os) ins zs.sum.toNat)) none), (292, .box [.ow 9005]), (9005, .tree 26 (.row 2 (.int .i64)) ((stN (pi, ts, ns, os) ins k.1)) none)]⟩) (fun k => zs.sum.toNat - k.1) ⟨0, by simpa using hz1⟩ ?_ ?_
  ·
   refine oK ?_
   simp (maxSteps := 2000000) only [go_sem]
   all_goals ((repeat' refine And.intro ?_ ?_) <;> first | rfl | exact True.intro | exact wk (by omega) | omega | (rw [wrapI (by omega)]; omega) | (congr 1; done) | (simp; done))
  rintro ⟨i, hi⟩ K15 hL15
  have hw1 : IntKind.i64.wrap ((i : Int) + 1) = i + 1 := wrapI (by omega)
  have hci : inR ((i : Int) + 1) 0 100000 = true := inR_t (by omega) (by omega)
  refine oS fun K16 hK16 => ?_
  refine oS fun K17 hK17 => ?_
  refine oW T_mHx162_ok ?_
  refine aseq_take 200 (by rfl) ?_
  simp (maxSteps := 2000000) only [go_sem]
  repeat' (with_reducible first | refine oA ?_ | refine And.intro (by first | exact hcd) ?_ | refine oT (fun g17 => ?_) (fun g17 => ?_) | refine oE (fun g17 => ?_) (fun g17 => ?_))
  all_goals
   refine hK17 _ ?_
   refine AWP_cond rfl ?_ ?_
   ·
    intro c4
    try simp only [decide_eq_true_eq, decide_eq_false_iff_not, Bool.not_eq_true', Bool.not_eq_false', ne_eq, Int.not_lt, Int.not_le, Bool.true_eq_false, Bool.false_eq_true] at c4
    all_goals
     refine AWP_skip ?_
     simp only [go_sem]
     refine hK16 _ ?_
     refine oS fun K18 hK18 => ?_
     refine AWP_block ?_
     refine oS fun K19 hK19 => ?_
     refine oW T_mHx162_ok ?_
     refine aseq_take 200 (by rfl) ?_
     simp only [List.nodup_cons, List.nodup_nil, List.not_mem_nil, not_false_eq_true, go_sem]
     repeat (with_reducible first | refine oA ?_ | refine And.intro (by first | exact hcd) ?_)
     refine hK19 _ ?_
     refine oS fun K20 hK20 => ?_
     refine oS fun K21 hK21 => ?_
     refine oW T_mHx162_ok ?_
     refine aseq_take 200 (by rfl) ?_
     simp only [go_sem]
     repeat (with_reducible first | refine oA ?_ | refine And.intro (by first | exact hcd) ?_)
     refine hK21 _ ?_
     refine AWP_block ?_
     refine AWP_loop_k (ι := { m : Nat // m ≤ ins.length }) (fun k' => ⟨(zz :: zz :: zz :: .c (.po 148 0) :: .c (.ow 9001) :: zz :: zz :: zz :: .c (.sc (.int .i64 (zs.sum))) :: zz :: .c (.ow 9004) :: zz :: .c (.po 292 0) :: zz :: .c (.sc (.int .i64 (i))) :: .c (.ow 9006) :: .c (.sc (.int .i64 (k'.1))) :: zz :: zz :: zz :: zz :: zz :: zz :: zz :: zz :: zz :: zz :: zz :: zz :: zz :: zz :: zz :: zz :: zz :: zz :: zz :: zz :: zz :: zz :: zz :: zz :: zz :: zz :: zz :: zz :: zz :: zz :: zz :: zz :: zz :: zz :: zz :: zz :: zz :: zz :: zz :: zz :: zz :: zz :: zz :: zz :: zz :: zz :: zz :: zz :: zz :: zz :: zz :: zz :: zz :: zz :: zz :: zz :: zz :: zz :: zz :: zz :: zz :: zz :: zz :: zz :: zz :: zz :: zz :: zz :: zz :: zz :: zz :: zz :: zz :: zz :: zz :: zz :: zz :: zz :: zz :: zz :: zz :: zz :: zz :: zz :: zz :: zz :: zz :: zz :: zz :: zz :: zz :: zz :: zz :: zz :: zz :: zz :: zz :: zz :: zz :: zz :: zz :: zz :: zz :: zz :: zz :: zz :: zz :: zz :: zz :: zz :: zz :: zz :: zz :: zz :: zz :: zz :: zz :: zz :: zz :: zz :: zz :: zz :: zz :: zz :: zz :: zz :: zz :: zz :: zz :: zz :: zz :: zz :: zz :: zz :: zz :: zz :: zz :: zz :: zz :: zz :: zz :: zz :: zz :: zz :: zz :: []), [(148, .box [.sc (.int .i64 (pi)), .rd [] 26 ((.row 2 (.int .i64))) (ts), .rd [] 83 ((.prod (.int .i64) (.prod (.int .i64) (.prod (.int .i64) (.row 2 (.int .i64)))))) (ns), .rd [] 2 (.int .i64) (os)]), (9001, .tree 26 (.row 2 (.int .i64)) (ins) none), (9004, .tree 26 (.row 2 (.int .i64)) ((renderL (pi, ts, ns, os) ins zs.sum.toNat)) none), (292, .box [.ow 9005]), (9005, .tree 26 (.row 2 (.int .i64)) ((stN (pi, ts, ns, os) ins i)) none), (9006, .row 2 (.int .i64) ((frameAt ins (i : Int)).take k'.1) [])]⟩) (fun k' => ins.length - k'.1) ⟨0, by simp⟩ ?_ ?_
     ·
      refine oK ?_
      simp (maxSteps := 2000000) only [go_sem]
      all_goals ((repeat' refine And.intro ?_ ?_) <;> first | rfl | exact True.intro | exact wk (by omega) | omega | (rw [wrapI (by omega)]; omega) | (congr 1; done) | (simp; done))
     rintro ⟨m, hm⟩ K22 hL22
     have hfal : (frameAt ins (i : Int)).length = ins.length := by simp [frameAt]
     have htl : ((frameAt ins (i : Int)).take m).length = m := by rw [List.length_take]; omega
     have hset : m < ins.length → (frameAt ins (i : Int)).take m ++ [(ins.getD m []).getD i 0] = (frameAt ins (i : Int)).take (m + 1) := fun h => by rw [show (ins.getD m []).getD i 0 = (frameAt ins (i : Int)).getD m 0 from by have h2 := frameAt_at (ins := ins) (i := (i : Int)) h; rw [Int.toNat_natCast] at h2; exact h2.symm]; exact (take_next (by omega)).symm
     have hcl : (cutL (ins.getD m []) ((i : Int) + 1).toNat).length = i + 1 := by rw [cutL_len]; omega
     have hca : (cutL (ins.getD m []) ((i : Int) + 1).toNat).getD i 0 = (ins.getD m []).getD i 0 := cutL_at (by omega)
     refine oS fun K23 hK23 => ?_
     refine oS fun K24 hK24 => ?_
     refine oW T_mHx162_ok ?_
     refine aseq_take 200 (by rfl) ?_
     simp only [go_sem]
     repeat (with_reducible first | refine oA ?_ | refine And.intro (by first | exact hcd) ?_)
     refine hK24 _ ?_
     refine AWP_cond rfl ?_ ?_
     ·
      intro c5
      try simp only [decide_eq_true_eq, decide_eq_false_iff_not, Bool.not_eq_true', Bool.not_eq_false', ne_eq, Int.not_lt, Int.not_le, Bool.true_eq_false, Bool.false_eq_true] at c5
      all_goals
       refine AWP_skip ?_
       simp only [go_sem]
       refine hK23 _ ?_
       refine oS fun K25 hK25 => ?_
       refine AWP_block ?_
       refine oW T_mHx162_ok ?_
       refine aseq_take 200 (by rfl) ?_
       simp (maxSteps := 2000000) only [List.nodup_cons, List.nodup_nil, List.not_mem_nil, not_false_eq_true, hw1, go_sem]
       repeat (with_reducible first | refine oA ?_ | refine And.intro (by first | exact hci | omega) ?_)
       refine hK25 _ ?_
       refine oW T_mHx162_ok ?_
       refine aseq_take 200 (by rfl) ?_
       simp only [go_sem]
       repeat (with_reducible first | refine oA ?_ | refine And.intro (by first | exact hcd) ?_)
       refine hL22 ⟨m + 1, by omega⟩ _ (oK ?_) ?_
       ·
        simp (maxSteps := 2000000) only [go_sem]
        all_goals (try simp only [hca])
        all_goals ((repeat' refine And.intro ?_ ?_) <;> first | rfl | exact True.intro | exact wk (by omega) | exact hset (by omega) | (congr 1; done))
       ·
        first | (simp only []; omega) | omega | (simp; omega)
     ·
      intro c5
      try simp only [decide_eq_true_eq, decide_eq_false_iff_not, Bool.not_eq_true', Bool.not_eq_false', ne_eq, Int.not_lt, Int.not_le, Bool.true_eq_false, Bool.false_eq_true] at c5
      all_goals
       have hfr : (frameAt ins (i : Int)).take m = (frameAt ins (i : Int)) := List.take_of_length_le (by omega)
       have hstep := stepN hP hin i
       have hvs : (patchB (pi, ts, ns, os) && stateB (pi, ts, ns, os) (stN (pi, ts, ns, os) ins (i + 1))) = true := by rw [hP, stateB_iff.2 (stN_ok hF hin (i + 1))]; rfl
       have hlo : (outsL (pi, ts, ns, os) (valN (pi, ts, ns, os) ins i)).length = os.length := outsL_len _ _
       have hzn : ((zs.sum.toNat : Nat) : Int) = zs.sum := Int.toNat_of_nonneg hz1
       refine AWP_exit ?_
       simp only [go_sem]
       refine hK20 _ ?_
       refine oS fun K26 hK26 => ?_
       refine oW T_mHx162_ok ?_
       refine aseq_take 200 (by rfl) ?_
       simp (maxSteps := 2000000) only [hfr, hstep, go_sem]
       repeat (with_reducible first | refine oA ?_ | refine And.intro (by first | exact hcd) ?_)
       refine hK26 _ ?_
       refine oS fun K27 hK27 => ?_
       refine oS fun K28 hK28 => ?_
       refine oW T_mHx162_ok ?_
       refine aseq_take 200 (by rfl) ?_
       simp (maxSteps := 2000000) only [hvs, hlo, hly, go_sem]
       repeat' (with_reducible first | refine oA ?_ | refine And.intro (by first | assumption) ?_ | refine oT (fun g25 => ?_) (fun g25 => ?_) | refine oE (fun g25 => ?_) (fun g25 => ?_))
       all_goals
        refine hK28 _ ?_
        refine AWP_cond rfl ?_ ?_
        ·
         intro c6
         try simp only [decide_eq_true_eq, decide_eq_false_iff_not, Bool.not_eq_true', Bool.not_eq_false', ne_eq, Int.not_lt, Int.not_le, Bool.true_eq_false, Bool.false_eq_true] at c6
         all_goals
          all_goals first | (cases c6; done) | (simp at c6; done) | omega
        ·
         intro c6
         try simp only [decide_eq_true_eq, decide_eq_false_iff_not, Bool.not_eq_true', Bool.not_eq_false', ne_eq, Int.not_lt, Int.not_le, Bool.true_eq_false, Bool.false_eq_true] at c6
         all_goals
          refine AWP_skip ?_
          simp only [go_sem]
          refine hK27 _ ?_
          refine oS fun K29 hK29 => ?_
          refine oS fun K30 hK30 => ?_
          refine oW T_mHx162_ok ?_
          refine aseq_take 200 (by rfl) ?_
          simp only [go_sem]
          repeat (with_reducible first | refine oA ?_ | refine And.intro (by first | exact hcd) ?_)
          refine hK30 _ ?_
          refine AWP_block ?_
          refine AWP_loop_k (ι := { j : Nat // j ≤ os.length }) (fun k' => ⟨(zz :: zz :: zz :: .c (.po 148 0) :: .c (.ow 9001) :: zz :: zz :: zz :: .c (.sc (.int .i64 (zs.sum))) :: zz :: .c (.ow 9004) :: zz :: .c (.po 292 0) :: zz :: .c (.sc (.int .i64 (i))) :: zz :: zz :: .c (.ow 9007) :: .c (.po 388 0) :: zz :: .c (.sc (.int .i64 (k'.1))) :: zz :: zz :: zz :: zz :: zz :: zz :: zz :: zz :: zz :: zz :: zz :: zz :: zz :: zz :: zz :: zz :: zz :: zz :: zz :: zz :: zz :: zz :: zz :: zz :: zz :: zz :: zz :: zz :: zz :: zz :: zz :: zz :: zz :: zz :: zz :: zz :: zz :: zz :: zz :: zz :: zz :: zz :: zz :: zz :: zz :: zz :: zz :: zz :: zz :: zz :: zz :: zz :: zz :: zz :: zz :: zz :: zz :: zz :: zz :: zz :: zz :: zz :: zz :: zz :: zz :: zz :: zz :: zz :: zz :: zz :: zz :: zz :: zz :: zz :: zz :: zz :: zz :: zz :: zz :: zz :: zz :: zz :: zz :: zz :: zz :: zz :: zz :: zz :: zz :: zz :: zz :: zz :: zz :: zz :: zz :: zz :: zz :: zz :: zz :: zz :: zz :: zz :: zz :: zz :: zz :: zz :: zz :: zz :: zz :: zz :: zz :: zz :: zz :: zz :: zz :: zz :: zz :: zz :: zz :: zz :: zz :: zz :: zz :: zz :: zz :: zz :: zz :: zz :: zz :: zz :: zz :: zz :: zz :: zz :: zz :: zz :: zz :: zz :: zz :: zz :: zz :: []), [(148, .box [.sc (.int .i64 (pi)), .rd [] 26 ((.row 2 (.int .i64))) (ts), .rd [] 83 ((.prod (.int .i64) (.prod (.int .i64) (.prod (.int .i64) (.row 2 (.int .i64)))))) (ns), .rd [] 2 (.int .i64) (os)]), (9001, .tree 26 (.row 2 (.int .i64)) (ins) none), (9004, .tree 26 (.row 2 (.int .i64)) ((renderL (pi, ts, ns, os) ins zs.sum.toNat)) none), (292, .box [.ow 9005]), (9005, .tree 26 (.row 2 (.int .i64)) ((stN (pi, ts, ns, os) ins i)) none), (388, .box [.ow 9008]), (9008, .tree 26 (.row 2 (.int .i64)) ((stN (pi, ts, ns, os) ins (i + 1))) none), (9007, .row 2 (.int .i64) ((outsL (pi, ts, ns, os) (valN (pi, ts, ns, os) ins i))) [])]⟩) (fun k' => os.length - k'.1) ⟨0, by simp⟩ ?_ ?_
          ·
           refine oK ?_
           simp (maxSteps := 2000000) only [go_sem]
           all_goals ((repeat' refine And.intro ?_ ?_) <;> first | rfl | exact True.intro | exact wk (by omega) | omega | (rw [wrapI (by omega)]; omega) | (congr 1; done) | (simp; done))
          rintro ⟨j, hj⟩ K31 hL31
          refine oS fun K32 hK32 => ?_
          refine oS fun K33 hK33 => ?_
          refine oW T_mHx162_ok ?_
          refine aseq_take 200 (by rfl) ?_
          simp only [hlo, go_sem]
          repeat (with_reducible first | refine oA ?_ | refine And.intro (by first | exact hcd) ?_)
          refine hK33 _ ?_
          refine AWP_cond rfl ?_ ?_
          ·
           intro c7
           try simp only [decide_eq_true_eq, decide_eq_false_iff_not, Bool.not_eq_true', Bool.not_eq_false', ne_eq, Int.not_lt, Int.not_le, Bool.true_eq_false, Bool.false_eq_true] at c7
           all_goals
            have hcol : ((renderL (pi, ts, ns, os) ins zs.sum.toNat).getD j []).getD i 0 = (outsL (pi, ts, ns, os) (valN (pi, ts, ns, os) ins i)).getD j 0 := colN hF hin (by show j < os.length; omega) _ (by omega)
            have hlen : ((renderL (pi, ts, ns, os) ins zs.sum.toNat).getD j []).length = zs.sum.toNat := lenN hF hin (by show j < os.length; omega) _
            refine AWP_skip ?_
            simp only [go_sem]
            refine hK32 _ ?_
            refine oS fun K34 hK34 => ?_
            refine AWP_block ?_
            refine oS fun K35 hK35 => ?_
            refine oR T_mHx162_ok
              [[], [], [0, 1], [0, 1, 2], [0, 1, 2, 3], [], [0, 1, 2, 3, 4, 5], [0, 1, 2, 3, 4, 5, 6], [0, 1, 2, 3, 4, 5, 6, 7], [0, 1, 2, 3, 4, 5, 6, 7], [0, 1, 2, 3, 4, 5, 6, 7, 8, 9], [0, 1, 2, 3, 4, 5, 6, 7, 8, 9, 10], [0, 1, 2, 3, 4, 5, 6, 7], [0, 1, 2, 3, 4, 5, 6, 7], [0, 1, 2, 3, 4, 5, 6, 7, 12, 13], [0, 1, 2, 3, 4, 5, 6, 7, 12, 13, 14], [0, 1, 2, 3, 4, 5, 6, 7], [0, 1, 2, 3, 4, 5, 6, 7, 12, 13, 14, 15, 16], [0, 1, 2, 3, 4, 5, 6, 7, 12, 13, 14, 15, 16, 17], [0, 1, 2, 3, 4, 5, 6, 7, 8, 9, 10, 11, 12, 13, 14, 15, 16, 17, 18], [0, 1, 2, 3, 4, 5, 6, 7, 8, 9, 10, 11, 12, 13, 14, 15, 16, 17, 18, 19]]
              [[], [], [], [], [], [], [], [], [], [], [], [], [], [], [], [], [], [], [], [], []]
              [[], [], [], [], [], [], [], [], [], [], [], [], [], [], [], [], [], [], [], [], []] (by kernel_rfl) (by kernel_rfl) (adrawR_ok (acc := []) ?_)
            simp (maxSteps := 2000000) only [hcol, hlen, hzn, hly, hlo, go_sem]
            repeat' (with_reducible first | refine oD ?_ | refine And.intro (by first | exact hcd) ?_ | refine oT (fun g30 => ?_) (fun g30 => ?_) | refine oE (fun g30 => ?_) (fun g30 => ?_))
            all_goals
             refine hK35 _ ?_
             refine AWP_cond rfl ?_ ?_
             ·
              intro c8
              try simp only [decide_eq_true_eq, decide_eq_false_iff_not, Bool.not_eq_true', Bool.not_eq_false', ne_eq, Int.not_lt, Int.not_le, Bool.true_eq_false, Bool.false_eq_true] at c8
              all_goals
               all_goals first | (cases c8; done) | (simp at c8; done) | omega
             ·
              intro c8
              try simp only [decide_eq_true_eq, decide_eq_false_iff_not, Bool.not_eq_true', Bool.not_eq_false', ne_eq, Int.not_lt, Int.not_le, Bool.true_eq_false, Bool.false_eq_true] at c8
              all_goals
               refine AWP_skip ?_
               simp only [go_sem]
               refine hK34 _ ?_
               refine oW T_mHx162_ok ?_
               refine aseq_take 200 (by rfl) ?_
               simp only [go_sem]
               repeat (with_reducible first | refine oA ?_ | refine And.intro (by first | exact hcd) ?_)
               refine hL31 ⟨j + 1, by omega⟩ _ (oK ?_) ?_
               ·
                simp (maxSteps := 2000000) only [go_sem]
                all_goals ((repeat' refine And.intro ?_ ?_) <;> first | rfl | exact True.intro | exact wk (by omega) | omega | (rw [wrapI (by omega)]; omega) | (congr 1; done) | (simp; done))
               ·
                first | (simp only []; omega) | omega | (simp; omega)
          ·
           intro c7
           try simp only [decide_eq_true_eq, decide_eq_false_iff_not, Bool.not_eq_true', Bool.not_eq_false', ne_eq, Int.not_lt, Int.not_le, Bool.true_eq_false, Bool.false_eq_true] at c7
           all_goals
            refine AWP_exit ?_
            simp only [go_sem]
            refine hK29 _ ?_
            refine oW T_mHx162_ok ?_
            refine aseq_take 200 (by rfl) ?_
            simp only [go_sem]
            repeat (with_reducible first | refine oA ?_ | refine And.intro (by first | exact hcd) ?_)
            refine hK18 _ ?_
            refine oW T_mHx162_ok ?_
            refine aseq_take 200 (by rfl) ?_
            simp only [go_sem]
            repeat (with_reducible first | refine oA ?_ | refine And.intro (by first | exact hcd) ?_)
            refine hL15 ⟨i + 1, by omega⟩ _ (oK ?_) ?_
            ·
             simp (maxSteps := 2000000) only [go_sem]
             all_goals (try simp only [hw1])
             all_goals ((repeat' refine And.intro ?_ ?_) <;> first | rfl | exact True.intro | exact wk (by omega) | omega | (rw [wrapI (by omega)]; omega) | (congr 1; done) | (simp; done))
            ·
             first | (simp only []; omega) | omega | (simp; omega)
   ·
    intro c4
    try simp only [decide_eq_true_eq, decide_eq_false_iff_not, Bool.not_eq_true', Bool.not_eq_false', ne_eq, Int.not_lt, Int.not_le, Bool.true_eq_false, Bool.false_eq_true] at c4
    all_goals
     refine AWP_exit ?_
     simp only [go_sem]
     refine hK13 _ ?_
     refine oS fun K36 hK36 => ?_
     refine oW T_mHx162_ok ?_
     refine aseq_take 200 (by rfl) ?_
     simp only [go_sem]
     repeat (with_reducible first | refine oA ?_ | refine And.intro (by first | exact hcd) ?_)
     refine hK36 _ ?_
     refine AWP_ret ?_
     simp only [hres, go_sem]
     first | exact oF | exact oFr
theorem lawBlocks_tail12 (pi : Int) (ts : List (List Int)) (ns : List NodeD) (os : List Int) (ins : List (List Int)) (zs : List Int) (hP : patchB (pi, ts, ns, os) = true) (hF : formedB (pi, ts, ns, os) = true) (hin : insOk (pi, ts, ns, os) ins) (hz1 : 0 ≤ zs.sum) (hz2 : zs.sum ≤ 4000) (hren : renderR (pi, ts, ns, os) ins zs.sum = ((renderL (pi, ts, ns, os) ins zs.sum.toNat), 0)) (hst : startR (pi, ts, ns, os) = (startL (pi, ts, ns, os), 0)) (hly : (renderL (pi, ts, ns, os) ins zs.sum.toNat).length = os.length) (ho4 : os.length ≤ 4) (hpi0 : 0 ≤ pi ∧ pi ≤ 4) (hil : (ins.length : Int) = pi) : ∀ c, Try.f3.body = some c → AWP Try.prog (tailAt 7 c) ⟨(zz :: zz :: zz :: .c (.po 148 0) :: .c (.ow 9001) :: zz :: .c (.ow 9003) :: zz :: .c (.sc (.int .i64 (zs.sum))) :: zz :: zz :: zz :: zz :: zz :: zz :: zz :: zz :: zz :: zz :: zz :: zz :: zz :: zz :: zz :: zz :: zz :: zz :: zz :: zz :: zz :: zz :: zz :: zz :: zz :: zz :: zz :: zz :: zz :: zz :: zz :: zz :: zz :: zz :: zz :: zz :: zz :: zz :: zz :: zz :: zz :: zz :: zz :: zz :: zz :: zz :: zz :: zz :: zz :: zz :: zz :: zz :: zz :: zz :: zz :: zz :: zz :: zz :: zz :: zz :: zz :: zz :: zz :: zz :: zz :: zz :: zz :: zz :: zz :: zz :: zz :: zz :: zz :: zz :: zz :: zz :: zz :: zz :: zz :: zz :: zz :: zz :: zz :: zz :: zz :: zz :: zz :: zz :: zz :: zz :: zz :: zz :: zz :: zz :: zz :: zz :: zz :: zz :: zz :: zz :: zz :: zz :: zz :: zz :: zz :: zz :: zz :: zz :: zz :: zz :: zz :: zz :: zz :: zz :: zz :: zz :: zz :: zz :: zz :: zz :: zz :: zz :: zz :: zz :: zz :: zz :: zz :: zz :: zz :: zz :: zz :: zz :: zz :: zz :: zz :: zz :: zz :: zz :: zz :: zz :: zz :: zz :: zz :: zz :: zz :: zz :: zz :: zz :: zz :: zz :: zz :: zz :: zz :: []), [(148, .box [.sc (.int .i64 (pi)), .rd [] 26 ((.row 2 (.int .i64))) (ts), .rd [] 83 ((.prod (.int .i64) (.prod (.int .i64) (.prod (.int .i64) (.row 2 (.int .i64)))))) (ns), .rd [] 2 (.int .i64) (os)]), (9001, .tree 26 (.row 2 (.int .i64)) (ins) none), (9003, .tree 26 (.row 2 (.int .i64)) ((renderL (pi, ts, ns, os) ins zs.sum.toNat)) none)]⟩ (RetQ Try.prog Try.f3.results.toList [⟨.bool, true⟩] true) := by
  refine AWP_tail (code := _) (n := 7) rfl ?_
  simp only [tailAt]
  have hres : Try.f3.results.toList = [.tmp 2] := rfl
  refine oS fun K11 hK11 => ?_
  refine oW T_mHx162_ok ?_
  refine aseq_take 200 (by rfl) ?_
  simp (maxSteps := 2000000) only [hren, go_sem]
  repeat (with_reducible first | refine oA ?_ | refine And.intro (by first | exact hcd) ?_)
  refine hK11 _ ?_
  refine oS fun K12 hK12 => ?_
  refine oW T_mHx162_ok ?_
  refine aseq_take 200 (by rfl) ?_
  simp (maxSteps := 2000000) only [hst, go_sem]
  repeat (with_reducible first | refine oA ?_ | refine And.intro (by first | exact hcd) ?_)
  refine hK12 _ ?_
  refine AWP_seq_j True ⟨(zz :: zz :: zz :: .c (.po 148 0) :: .c (.ow 9001) :: zz :: zz :: zz :: .c (.sc (.int .i64 (zs.sum))) :: zz :: .c (.ow 9004) :: zz :: .c (.po 292 0) :: zz :: zz :: zz :: zz :: zz :: zz :: zz :: zz :: zz :: zz :: zz :: zz :: zz :: zz :: zz :: zz :: zz :: zz :: zz :: zz :: zz :: zz :: zz :: zz :: zz :: zz :: zz :: zz :: zz :: zz :: zz :: zz :: zz :: zz :: zz :: zz :: zz :: zz :: zz :: zz :: zz :: zz :: zz :: zz :: zz :: zz :: zz :: zz :: zz :: zz :: zz :: zz :: zz :: zz :: zz :: zz :: zz :: zz :: zz :: zz :: zz :: zz :: zz :: zz :: zz :: zz :: zz :: zz :: zz :: zz :: zz :: zz :: zz :: zz :: zz :: zz :: zz :: zz :: zz :: zz :: zz :: zz :: zz :: zz :: zz :: zz :: zz :: zz :: zz :: zz :: zz :: zz :: zz :: zz :: zz :: zz :: zz :: zz :: zz :: zz :: zz :: zz :: zz :: zz :: zz :: zz :: zz :: zz :: zz :: zz :: zz :: zz :: zz :: zz :: zz :: zz :: zz :: zz :: zz :: zz :: zz :: zz :: zz :: zz :: zz :: zz :: zz :: zz :: zz :: zz :: zz :: zz :: zz :: zz :: zz :: zz :: zz :: zz :: zz :: zz :: zz :: zz :: zz :: zz :: zz :: zz :: zz :: zz :: zz :: []), [(148, .box [.sc (.int .i64 (pi)), .rd [] 26 ((.row 2 (.int .i64))) (ts), .rd [] 83 ((.prod (.int .i64) (.prod (.int .i64) (.prod (.int .i64) (.row 2 (.int .i64)))))) (ns), .rd [] 2 (.int .i64) (os)]), (9001, .tree 26 (.row 2 (.int .i64)) (ins) none), (9004, .tree 26 (.row 2 (.int .i64)) ((renderL (pi, ts, ns, os) ins zs.sum.toNat)) none), (292, .box [.ow 9005]), (9005, .tree 26 (.row 2 (.int .i64)) ((stN (pi, ts, ns, os) ins 0)) none)]⟩ ?_ fun K37 hK37 => ?_
  · exact fun _ => lawBlocks_tail16 pi ts ns os ins zs hP hF hin hz1 hz2 hren hst hly ho4 hpi0 hil _ rfl
  refine oS fun K38 hK38 => ?_
  refine oW T_mHx162_ok ?_
  refine aseq_take 200 (by rfl) ?_
  simp (maxSteps := 2000000) only [eqD_rfl, hly, go_sem]
  repeat' (with_reducible first | refine oA ?_ | refine And.intro (by first | exact hcd) ?_ | refine oT (fun g14 => ?_) (fun g14 => ?_) | refine oE (fun g14 => ?_) (fun g14 => ?_))
  all_goals
   refine hK38 _ ?_
   refine AWP_cond rfl ?_ ?_
   ·
    intro c3
    try simp only [decide_eq_true_eq, decide_eq_false_iff_not, Bool.not_eq_true', Bool.not_eq_false', ne_eq, Int.not_lt, Int.not_le, Bool.true_eq_false, Bool.false_eq_true] at c3
    all_goals
     all_goals first | (cases c3; done) | (simp at c3; done) | omega
   ·
    intro c3
    try simp only [decide_eq_true_eq, decide_eq_false_iff_not, Bool.not_eq_true', Bool.not_eq_false', ne_eq, Int.not_lt, Int.not_le, Bool.true_eq_false, Bool.false_eq_true] at c3
    all_goals
     refine AWP_skip ?_
     simp only [go_sem]
     refine hK37 _ (oK ?_) trivial
     simp (maxSteps := 2000000) only [go_sem]
     all_goals ((repeat' refine And.intro ?_ ?_) <;> first | rfl | exact True.intro | exact wk (by omega) | omega | (rw [wrapI (by omega)]; omega) | (congr 1; done) | (simp; done))
theorem lawBlocks_ok : PureT Try.prog 3 K_lawBlocks := by
  refine pure_of_body Try.func3 rfl ?_
  have hres : Try.f3.results.toList = [.tmp 2] := rfl
  rintro ⟨(cd : List Int), _⟩ hc hL
  simp only [K_lawBlocks, go_sem] at hL
  simp only [K_lawBlocks, St.init, St.initG, Try.ntmps3, go_sem] 
  have hcd : ∀ b ∈ cd, 0 ≤ b ∧ b ≤ 255 := hc
  rcases hd : (ribD cd).1 with ⟨⟨pi, ts, ns, os⟩, ins, zs⟩
  have hzl := ribD_len hcd hd
  rcases hrb : ribR (pi, ts, ns, os) ins zs with ⟨X, ok⟩
  refine oS fun K1 hK1 => ?_
  refine oW T_mHx162_ok ?_
  refine aseq_take 200 (by rfl) ?_
  simp only [go_sem]
  repeat (with_reducible first | refine oA ?_ | refine And.intro (by first | exact hcd) ?_)
  refine hK1 _ ?_
  refine oS fun K2 hK2 => ?_
  refine oS fun K3 hK3 => ?_
  refine oW T_mHx162_ok ?_
  refine aseq_take 200 (by rfl) ?_
  simp only [go_sem]
  repeat (with_reducible first | refine oA ?_ | refine And.intro (by first | exact hcd) ?_)
  refine hK3 _ ?_
  refine oC rfl ?_ ?_
  ·
   intro c0
   refine oS fun K4 hK4 => ?_
   refine oW T_mHx162_ok ?_
   refine aseq_take 200 (by rfl) ?_
   simp only [go_sem]
   repeat (with_reducible first | refine oA ?_ | refine And.intro (by first | exact hcd) ?_)
   refine hK4 _ ?_
   refine AWP_ret ?_
   simp only [hres, go_sem]
   first | exact oF | exact oFr
  intro c0
  refine AWP_skip ?_
  simp only [go_sem]
  refine hK2 _ ?_
  refine oS fun K5 hK5 => ?_
  refine oW T_mHx162_ok ?_
  refine aseq_take 200 (by rfl) ?_
  simp (maxSteps := 2000000) only [hd, go_sem]
  repeat (with_reducible first | refine oA ?_ | refine And.intro (by first | exact hcd) ?_)
  refine hK5 _ ?_
  refine oS fun K6 hK6 => ?_
  refine oW T_mHx162_ok ?_
  refine aseq_take 200 (by rfl) ?_
  simp (maxSteps := 2000000) only [hrb, go_sem]
  repeat (with_reducible first | refine oA ?_ | refine And.intro (by first | exact hcd) ?_)
  refine hK6 _ ?_
  refine oS fun K7 hK7 => ?_
  refine oS fun K8 hK8 => ?_
  refine oW T_mHx162_ok ?_
  refine aseq_take 200 (by rfl) ?_
  simp only [go_sem]
  repeat (with_reducible first | refine oA ?_ | refine And.intro (by first | exact hcd) ?_)
  refine hK8 _ ?_
  refine oC rfl ?_ ?_
  ·
   intro c1
   refine oS fun K9 hK9 => ?_
   refine oW T_mHx162_ok ?_
   refine aseq_take 200 (by rfl) ?_
   simp only [go_sem]
   repeat (with_reducible first | refine oA ?_ | refine And.intro (by first | exact hcd) ?_)
   refine hK9 _ ?_
   refine AWP_ret ?_
   simp only [hres, go_sem]
   first | exact oF | exact oFr
  intro c1
  obtain rfl : ok = 0 := by first | exact c1 | exact Classical.byContradiction c1
  obtain ⟨hP, hsg, hsz, rfl⟩ := ribR_ok hrb
  have hF := (patchB_parts hP).1
  have hin := sigB_iff.1 hsg
  obtain ⟨hz1, hz2⟩ := sizB_bd hsz
  have hren : renderR (pi, ts, ns, os) ins zs.sum = ((renderL (pi, ts, ns, os) ins zs.sum.toNat), 0) := renderR_0 hP (by rw [hsg, show inR zs.sum 0 4000 = true from inR_t hz1 hz2]; rfl)
  have hst : startR (pi, ts, ns, os) = (startL (pi, ts, ns, os), 0) := startR_t hP
  have hly : (renderL (pi, ts, ns, os) ins zs.sum.toNat).length = os.length := renderL_len hF hin _
  have ho4 : os.length ≤ 4 := (formedB_parts hF).2.1
  have hpi0 : 0 ≤ pi ∧ pi ≤ 4 := ⟨(formedB_parts hF).2.2.2.1, (formedB_parts hF).2.2.2.2.1⟩
  have hil : (ins.length : Int) = pi := hin.1
  refine AWP_skip ?_
  simp only [go_sem]
  refine hK7 _ ?_
  refine oS fun K10 hK10 => ?_
  refine oW T_mHx162_ok ?_
  refine aseq_take 200 (by rfl) ?_
  simp only [go_sem]
  repeat (with_reducible first | refine oA ?_ | refine And.intro (by first | exact hcd) ?_)
  refine hK10 _ ?_
  refine AWP_seq_j True ⟨(zz :: zz :: zz :: .c (.po 148 0) :: .c (.ow 9001) :: zz :: .c (.ow 9003) :: zz :: .c (.sc (.int .i64 (zs.sum))) :: zz :: zz :: zz :: zz :: zz :: zz :: zz :: zz :: zz :: zz :: zz :: zz :: zz :: zz :: zz :: zz :: zz :: zz :: zz :: zz :: zz :: zz :: zz :: zz :: zz :: zz :: zz :: zz :: zz :: zz :: zz :: zz :: zz :: zz :: zz :: zz :: zz :: zz :: zz :: zz :: zz :: zz :: zz :: zz :: zz :: zz :: zz :: zz :: zz :: zz :: zz :: zz :: zz :: zz :: zz :: zz :: zz :: zz :: zz :: zz :: zz :: zz :: zz :: zz :: zz :: zz :: zz :: zz :: zz :: zz :: zz :: zz :: zz :: zz :: zz :: zz :: zz :: zz :: zz :: zz :: zz :: zz :: zz :: zz :: zz :: zz :: zz :: zz :: zz :: zz :: zz :: zz :: zz :: zz :: zz :: zz :: zz :: zz :: zz :: zz :: zz :: zz :: zz :: zz :: zz :: zz :: zz :: zz :: zz :: zz :: zz :: zz :: zz :: zz :: zz :: zz :: zz :: zz :: zz :: zz :: zz :: zz :: zz :: zz :: zz :: zz :: zz :: zz :: zz :: zz :: zz :: zz :: zz :: zz :: zz :: zz :: zz :: zz :: zz :: zz :: zz :: zz :: zz :: zz :: zz :: zz :: zz :: zz :: zz :: zz :: zz :: zz :: zz :: []), [(148, .box [.sc (.int .i64 (pi)), .rd [] 26 ((.row 2 (.int .i64))) (ts), .rd [] 83 ((.prod (.int .i64) (.prod (.int .i64) (.prod (.int .i64) (.row 2 (.int .i64)))))) (ns), .rd [] 2 (.int .i64) (os)]), (9001, .tree 26 (.row 2 (.int .i64)) (ins) none), (9003, .tree 26 (.row 2 (.int .i64)) ((renderL (pi, ts, ns, os) ins zs.sum.toNat)) none)]⟩ ?_ fun K39 hK39 => ?_
  · exact fun _ => lawBlocks_tail12 pi ts ns os ins zs hP hF hin hz1 hz2 hren hst hly ho4 hpi0 hil _ rfl
  refine oS fun K40 hK40 => ?_
  refine oW T_mHx162_ok ?_
  refine aseq_take 200 (by rfl) ?_
  simp only [go_sem]
  repeat (with_reducible first | refine oA ?_ | refine And.intro (by first | exact hcd) ?_)
  refine hK40 _ ?_
  refine AWP_block ?_
  refine AWP_loop_k (ι := { k : Nat // k ≤ zs.length }) (fun k => ⟨(zz :: zz :: zz :: .c (.po 148 0) :: .c (.ow 9001) :: .c (.ow 9002) :: .c (.ow 9003) :: zz :: .c (.sc (.int .i64 ((zs.take k.1).sum))) :: .c (.sc (.int .i64 (k.1))) :: zz :: zz :: zz :: zz :: zz :: zz :: zz :: zz :: zz :: zz :: zz :: zz :: zz :: zz :: zz :: zz :: zz :: zz :: zz :: zz :: zz :: zz :: zz :: zz :: zz :: zz :: zz :: zz :: zz :: zz :: zz :: zz :: zz :: zz :: zz :: zz :: zz :: zz :: zz :: zz :: zz :: zz :: zz :: zz :: zz :: zz :: zz :: zz :: zz :: zz :: zz :: zz :: zz :: zz :: zz :: zz :: zz :: zz :: zz :: zz :: zz :: zz :: zz :: zz :: zz :: zz :: zz :: zz :: zz :: zz :: zz :: zz :: zz :: zz :: zz :: zz :: zz :: zz :: zz :: zz :: zz :: zz :: zz :: zz :: zz :: zz :: zz :: zz :: zz :: zz :: zz :: zz :: zz :: zz :: zz :: zz :: zz :: zz :: zz :: zz :: zz :: zz :: zz :: zz :: zz :: zz :: zz :: zz :: zz :: zz :: zz :: zz :: zz :: zz :: zz :: zz :: zz :: zz :: zz :: zz :: zz :: zz :: zz :: zz :: zz :: zz :: zz :: zz :: zz :: zz :: zz :: zz :: zz :: zz :: zz :: zz :: zz :: zz :: zz :: zz :: zz :: zz :: zz :: zz :: zz :: zz :: zz :: zz :: zz :: zz :: zz :: zz :: []), [(148, .box [.sc (.int .i64 (pi)), .rd [] 26 ((.row 2 (.int .i64))) (ts), .rd [] 83 ((.prod (.int .i64) (.prod (.int .i64) (.prod (.int .i64) (.row 2 (.int .i64)))))) (ns), .rd [] 2 (.int .i64) (os)]), (9001, .tree 26 (.row 2 (.int .i64)) (ins) none), (9002, .row 2 (.int .i64) (zs) []), (9003, .tree 26 (.row 2 (.int .i64)) ((renderL (pi, ts, ns, os) ins zs.sum.toNat)) none)]⟩) (fun k => zs.length - k.1) ⟨0, by simp⟩ ?_ ?_
  ·
   refine oK ?_
   simp (maxSteps := 2000000) only [go_sem]
   all_goals ((repeat' refine And.intro ?_ ?_) <;> first | rfl | exact True.intro | exact wk (by omega) | omega | (rw [wrapI (by omega)]; omega) | (congr 1; done) | (simp; done))
  rintro ⟨k, hk⟩ K41 hL41
  have hzk := sizB_bd (sizB_take (k := k) hsz)
  have hzn := sizB_bd (sizB_take (k := k + 1) hsz)
  have hsn : k < zs.length → (zs.take (k + 1)).sum = (zs.take k).sum + zs.getD k 0 := fun h => sum_next h
  have hwn : k < zs.length → IntKind.i64.wrap ((zs.take k).sum + zs.getD k 0) = (zs.take (k + 1)).sum := fun h => by rw [hsn h, wrapI (by have := hsn h; omega)]
  refine oS fun K42 hK42 => ?_
  refine oS fun K43 hK43 => ?_
  refine oW T_mHx162_ok ?_
  refine aseq_take 200 (by rfl) ?_
  simp only [go_sem]
  repeat (with_reducible first | refine oA ?_ | refine And.intro (by first | exact hcd) ?_)
  refine hK43 _ ?_
  refine oC rfl ?_ ?_
  ·
   intro c2
   have hwm := hwn (by omega)
   refine AWP_skip ?_
   simp only [go_sem]
   refine hK42 _ ?_
   refine oS fun K44 hK44 => ?_
   refine AWP_block ?_
   refine oW T_mHx162_ok ?_
   refine aseq_take 200 (by rfl) ?_
   simp (maxSteps := 2000000) only [hwm, go_sem]
   repeat (with_reducible first | refine oA ?_ | refine And.intro (by first | exact hcd) ?_)
   refine hK44 _ ?_
   refine oW T_mHx162_ok ?_
   refine aseq_take 200 (by rfl) ?_
   simp only [go_sem]
   repeat (with_reducible first | refine oA ?_ | refine And.intro (by first | exact hcd) ?_)
   refine hL41 ⟨k + 1, by omega⟩ _ (oK ?_) ?_
   ·
    simp (maxSteps := 2000000) only [go_sem]
    all_goals ((repeat' refine And.intro ?_ ?_) <;> first | rfl | exact True.intro | exact wk (by omega) | omega | (rw [wrapI (by omega)]; omega) | (congr 1; done) | (simp; done))
   ·
    first | (simp only []; omega) | omega | (simp; omega)
  intro c2
  have hks : zs.take k = zs := List.take_of_length_le (by omega)
  refine AWP_exit ?_
  simp only [go_sem]
  refine hK39 _ (oK ?_) trivial
  simp (maxSteps := 2000000) only [go_sem]
  all_goals ((repeat' refine And.intro ?_ ?_) <;> first | rfl | exact True.intro | (rw [hks]; done) | (congr 1; done) | (simp; done))
def T_lawBlocks : Tab := fun f => if f = 3 then some (.p K_lawBlocks) else T_mHx162 f
theorem T_lawBlocks_ok : TabOk Try.prog T_lawBlocks := tabP lawBlocks_ok (fnOk_of Try.func3 rfl (by decide)) T_mHx162_ok
attribute [go_sem] T_lawBlocks K_lawBlocks

end Go.Proofs.Ytiafipboklboeaa
