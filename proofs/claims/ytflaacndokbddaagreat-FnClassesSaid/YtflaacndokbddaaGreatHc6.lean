/-
  Contracts of functions: ClassesOf, classCount, ClassCount, IsReduced, CheckClasses.
-/
import Derived.Test.YtflaacndokbddaaGreatHc4
import Derived.Test.YtflaacndokbddaaGreatGa7
import Derived.Test.YtflaacndokbddaaGreatHa2
namespace Go.Proofs.YtflaacndokbddaaGreat
open Go.RowKit
set_option linter.unusedSimpArgs false
set_option linter.unusedVariables false

set_option maxRecDepth 100000
set_option maxHeartbeats 8000000
def T_mHc60 : Tab := fun f => match T_classes f with
 | some k => some k
 | none => T_unionCode f
theorem T_mHc60_ok : TabOk Tryz.prog T_mHc60 := tabM T_classes_ok T_unionCode_ok
attribute [go_sem] T_mHc60 T0

def T_mHc61 : Tab := fun f => match T_mHc60 f with
 | some k => some k
 | none => T_unite f
theorem T_mHc61_ok : TabOk Tryz.prog T_mHc61 := tabM T_mHc60_ok T_unite_ok
attribute [go_sem] T_mHc61 T0

def K_implClsOf : Con := ⟨[.val ((.prod (.int .i64) (.prod (.row 26 (.row 2 (.int .i64))) (.prod (.row 90 (.prod (.int .i64) (.prod (.int .i64) (.prod (.int .i64) (.row 2 (.int .i64)))))) (.row 2 (.int .i64))))))], [⟨(.row 2 (.int .i64)), true⟩, ⟨.int .i64, true⟩], fun _ => True, fun x => clsR x.1⟩
theorem implClsOf_ok : PureT Tryz.prog 10 K_implClsOf := by
  refine pure_of_body Tryz.func10 rfl ?_
  have hres : Tryz.f10.results.toList = [.tmp 2, .tmp 3] := rfl
  rintro ⟨⟨(pi : Int), (ts : List (List Int)), (ns : List NodeD), (os : List Int)⟩, _⟩ hc hL
  simp only [K_implClsOf, go_sem] at hL
  simp only [K_implClsOf, St.init, St.initG, Tryz.ntmps10, go_sem] 
  refine oS fun K1 hK1 => ?_
  refine oW T_mHc61_ok ?_
  simp only [go_sem]
  refine hK1 _ ?_
  refine oS fun K2 hK2 => ?_
  refine oS fun K3 hK3 => ?_
  refine oW T_mHc61_ok ?_
  simp only [go_sem]
  repeat (with_reducible refine oA ?_)
  refine hK3 _ ?_
  refine oC rfl ?_ ?_
  ·
   intro c0
   refine oS fun K4 hK4 => ?_
   refine oW T_mHc61_ok ?_
   simp only [go_sem]
   refine hK4 _ ?_
   refine AWP_ret ?_
   simp only [hres, go_sem]
   first | exact oF | (refine ⟨?_, oF⟩; first | (rw [clsR_f c0]; exact ⟨rfl, rfl⟩) | (rw [clsR_f c0]))
  intro c0
  have hF := (patchB_parts c0).1
  have hU : uOk ts ns := uOk_patch (p := (pi, ts, ns, os)) hF
  have hsm : smallPs [(pi, ts, ns, os)] := smallPs_one c0
  have hun : uniteL [(pi, ts, ns, os)] = (ts, ns, os) := unite_one (p := (pi, ts, ns, os)) c0
  have hsl : smallL (clsF ts ns) = true := smallL_cls hU.1
  refine AWP_skip ?_
  simp only [go_sem]
  refine hK2 _ ?_
  refine oS fun K5 hK5 => ?_
  refine oW T_mHc61_ok ?_
  simp (maxSteps := 2000000) only [List.nodup_cons, List.nodup_nil, List.not_mem_nil, not_false_eq_true, hun, go_sem]
  repeat (with_reducible first | refine oA ?_ | refine And.intro (by first | exact hsm | exact hU) ?_)
  refine hK5 _ ?_
  refine AWP_ret ?_
  simp only [hres, go_sem]
  first | exact oF | (refine ⟨?_, oF⟩; first | (rw [clsR_t c0]; exact ⟨rfl, rfl⟩) | (rw [clsR_t c0]))
def T_implClsOf : Tab := fun f => if f = 10 then some (.p K_implClsOf) else T_mHc61 f
theorem T_implClsOf_ok : TabOk Tryz.prog T_implClsOf := tabP implClsOf_ok (fnOk_of Tryz.func10 rfl (by decide)) T_mHc61_ok
attribute [go_sem] T_implClsOf K_implClsOf

def K_classCount : Con := ⟨[.val ((.row 2 (.int .i64)))], [⟨.int .i64, true⟩], fun x => smallL x.1 = true, fun x => countL x.1⟩
theorem classCount_ok : PureT Tryz.prog 54 K_classCount := by
  refine pure_of_body Tryz.func54 rfl ?_
  have hres : Tryz.f54.results.toList = [.tmp 2] := rfl
  rintro ⟨(xs : List Int), _⟩ hc hL
  simp only [K_classCount, go_sem] at hL
  simp only [K_classCount, St.init, St.initG, Tryz.ntmps54, go_sem] 
  have hs : smallL xs = true := hc
  refine oS fun K1 hK1 => ?_
  refine oW T_implClsOf_ok ?_
  simp only [go_sem]
  refine hK1 _ ?_
  refine oS fun K2 hK2 => ?_
  refine oW T_implClsOf_ok ?_
  simp only [go_sem]
  refine hK2 _ ?_
  refine oS fun K3 hK3 => ?_
  refine oS fun K4 hK4 => ?_
  refine oW T_implClsOf_ok ?_
  simp only [go_sem]
  refine hK4 _ ?_
  refine AWP_block ?_
  refine AWP_loop_k (ι := { k : Nat // k ≤ xs.length }) (fun k => ⟨[zz, zz, zz, .c (.sc (.int .i64 (countL (xs.take k.1)))), zz, zz, .c (.rd [] 2 (.int .i64) (xs)), .c (.sc (.int .i64 (xs.length))), .c (.sc (.int .i64 (k.1))), zz, zz, zz, zz, zz, zz, zz, zz, zz], []⟩) (fun k => xs.length - k.1) ⟨0, by simp⟩ ?_ ?_
  ·
   refine oK ?_
   simp (maxSteps := 2000000) only [go_sem]
   all_goals ((repeat' refine And.intro ?_ ?_) <;> first | rfl | simp [countL])
  rintro ⟨k, hk⟩ K5 hL5
  have hw : k < xs.length → IntKind.i64.wrap (xs.getD k 0 + 1) = xs.getD k 0 + 1 := fun h => by have := inR_iff.1 (List.all_eq_true.1 hs _ (getD_mem (d := (0 : Int)) h)); exact wrapI (by omega)
  refine oS fun K6 hK6 => ?_
  refine oW T_implClsOf_ok ?_
  simp only [go_sem]
  refine hK6 _ ?_
  refine oS fun K7 hK7 => ?_
  refine oC rfl ?_ ?_
  ·
   intro c0
   have hw := hw (by omega)
   refine AWP_skip ?_
   simp only [go_sem]
   refine hK7 _ ?_
   refine oS fun K8 hK8 => ?_
   refine AWP_block ?_
   refine oS fun K9 hK9 => ?_
   refine oW T_implClsOf_ok ?_
   simp only [go_sem]
   repeat (with_reducible refine oA ?_)
   refine hK9 _ ?_
   refine oW T_implClsOf_ok ?_
   simp (maxSteps := 2000000) only [hw, go_sem]
   repeat (with_reducible refine oA ?_)
   refine hK8 _ ?_
   refine oW T_implClsOf_ok ?_
   simp only [go_sem]
   refine hL5 ⟨k + 1, by omega⟩ _ (oK ?_) ?_
   ·
    simp (maxSteps := 2000000) only [go_sem]
    all_goals ((repeat' refine And.intro ?_ ?_) <;> first | rfl | exact wk (by omega) | exact (countL_next (by omega)).symm)
   ·
    first | (simp only []; omega) | omega | (simp; omega)
  intro c0
  refine AWP_exit ?_
  simp only [go_sem]
  refine hK3 _ ?_
  refine oS fun K10 hK10 => ?_
  refine oW T_implClsOf_ok ?_
  simp only [go_sem]
  refine hK10 _ ?_
  refine AWP_ret ?_
  simp only [hres, go_sem]
  first | exact oF | (refine ⟨?_, oF⟩; exact congrArg countL (List.take_of_length_le (by omega)))
def T_classCount : Tab := fun f => if f = 54 then some (.p K_classCount) else T_implClsOf f
theorem T_classCount_ok : TabOk Tryz.prog T_classCount := tabP classCount_ok (fnOk_of Tryz.func54 rfl (by decide)) T_implClsOf_ok
attribute [go_sem] T_classCount K_classCount

def K_implCnt : Con := ⟨[.val ((.prod (.int .i64) (.prod (.row 26 (.row 2 (.int .i64))) (.prod (.row 90 (.prod (.int .i64) (.prod (.int .i64) (.prod (.int .i64) (.row 2 (.int .i64)))))) (.row 2 (.int .i64))))))], [⟨.int .i64, true⟩, ⟨.int .i64, true⟩], fun _ => True, fun x => cntR x.1⟩
theorem implCnt_ok : PureT Tryz.prog 13 K_implCnt := by
  refine pure_of_body Tryz.func13 rfl ?_
  have hres : Tryz.f13.results.toList = [.tmp 2, .tmp 3] := rfl
  rintro ⟨⟨(pi : Int), (ts : List (List Int)), (ns : List NodeD), (os : List Int)⟩, _⟩ hc hL
  simp only [K_implCnt, go_sem] at hL
  simp only [K_implCnt, St.init, St.initG, Tryz.ntmps13, go_sem] 
  refine oS fun K1 hK1 => ?_
  refine oW T_classCount_ok ?_
  simp only [go_sem]
  refine hK1 _ ?_
  refine oS fun K2 hK2 => ?_
  refine oS fun K3 hK3 => ?_
  refine oW T_classCount_ok ?_
  simp only [go_sem]
  repeat (with_reducible refine oA ?_)
  refine hK3 _ ?_
  refine oC rfl ?_ ?_
  ·
   intro c0
   refine oS fun K4 hK4 => ?_
   refine oW T_classCount_ok ?_
   simp only [go_sem]
   refine hK4 _ ?_
   refine AWP_ret ?_
   simp only [hres, go_sem]
   first | exact oF | (refine ⟨?_, oF⟩; first | (rw [cntR_f c0]; exact ⟨rfl, rfl⟩) | (rw [cntR_f c0]))
  intro c0
  have hF := (patchB_parts c0).1
  have hU : uOk ts ns := uOk_patch (p := (pi, ts, ns, os)) hF
  have hsm : smallPs [(pi, ts, ns, os)] := smallPs_one c0
  have hun : uniteL [(pi, ts, ns, os)] = (ts, ns, os) := unite_one (p := (pi, ts, ns, os)) c0
  have hsl : smallL (clsF ts ns) = true := smallL_cls hU.1
  refine AWP_skip ?_
  simp only [go_sem]
  refine hK2 _ ?_
  refine oS fun K5 hK5 => ?_
  refine oW T_classCount_ok ?_
  simp (maxSteps := 2000000) only [List.nodup_cons, List.nodup_nil, List.not_mem_nil, not_false_eq_true, hun, go_sem]
  repeat (with_reducible first | refine oA ?_ | refine And.intro (by first | exact hsm | exact hU | exact hsl) ?_)
  refine hK5 _ ?_
  refine AWP_ret ?_
  simp only [hres, go_sem]
  first | exact oF | (refine ⟨?_, oF⟩; first | (rw [cntR_t c0]; exact ⟨rfl, rfl⟩) | (rw [cntR_t c0]; rfl) | (rw [cntR_t c0]))
def T_implCnt : Tab := fun f => if f = 13 then some (.p K_implCnt) else T_classCount f
theorem T_implCnt_ok : TabOk Tryz.prog T_implCnt := tabP implCnt_ok (fnOk_of Tryz.func13 rfl (by decide)) T_classCount_ok
attribute [go_sem] T_implCnt K_implCnt

def K_implRed : Con := ⟨[.val ((.prod (.int .i64) (.prod (.row 26 (.row 2 (.int .i64))) (.prod (.row 90 (.prod (.int .i64) (.prod (.int .i64) (.prod (.int .i64) (.row 2 (.int .i64)))))) (.row 2 (.int .i64))))))], [⟨.bool, true⟩], fun _ => True, fun x => redB x.1⟩
theorem implRed_ok : PureT Tryz.prog 15 K_implRed := by
  refine pure_of_body Tryz.func15 rfl ?_
  have hres : Tryz.f15.results.toList = [.tmp 2] := rfl
  rintro ⟨⟨(pi : Int), (ts : List (List Int)), (ns : List NodeD), (os : List Int)⟩, _⟩ hc hL
  simp only [K_implRed, go_sem] at hL
  simp only [K_implRed, St.init, St.initG, Tryz.ntmps15, go_sem] 
  refine oS fun K1 hK1 => ?_
  refine oW T_implCnt_ok ?_
  simp only [go_sem]
  refine hK1 _ ?_
  refine oS fun K2 hK2 => ?_
  refine oR T_implCnt_ok
    [[], [0], [0, 1], [0, 1, 2], [0, 1, 2, 3], [0, 1, 2, 3, 4], [0, 1, 2, 3, 4, 5], [0, 1, 2, 3, 4, 5, 6], [0, 1, 2], [0, 1, 2, 8], [0, 1, 2, 3, 4, 5, 6, 7, 8, 9], [0, 1, 2, 3, 4, 5, 6, 7, 8, 9, 10], [0, 1, 2, 3, 4, 5, 6, 7, 8, 9, 10, 11], [0, 1, 2, 3, 4, 5, 6, 7, 8, 9, 10, 11, 12]]
    [[], [], [], [], [], [], [], [], [212, 228, 229, 230, 231, 232, 233, 234, 235, 236, 237, 238, 239, 240, 241, 242, 243, 244, 245, 246, 247, 248, 249, 250, 251, 252, 253, 254, 255, 256, 257, 258, 259], [212, 228, 229, 230, 231, 232, 233, 234, 235, 236, 237, 238, 239, 240, 241, 242, 243, 244, 245, 246, 247, 248, 249, 250, 251, 252, 253, 254, 255, 256, 257, 258, 259], [], [], [], []]
    [[], [], [], [], [212], [228, 229, 230, 231, 232, 233, 234, 235, 236, 237, 238, 239, 240, 241, 242, 243], [244, 245, 246, 247, 248, 249, 250, 251, 252, 253, 254, 255, 256, 257, 258, 259], [], [], [], [], [], [], []] (by kernel_rfl) (by kernel_rfl) (adrawR_ok (acc := []) ?_)
  simp (maxSteps := 2000000) only [List.nodup_cons, List.nodup_nil, List.not_mem_nil, not_false_eq_true, go_sem]
  repeat' (with_reducible first | refine oD ?_ | refine And.intro (by first | exact smallPs_one (show patchB (pi, ts, ns, os) = true by assumption) | with_unfolding_all (rw [unite_one (show patchB (pi, ts, ns, os) = true by assumption)]; exact uOk_patch (patchB_parts (show patchB (pi, ts, ns, os) = true by assumption)).1) | with_unfolding_all (rw [unite_one (show patchB (pi, ts, ns, os) = true by assumption)]; exact smallL_cls (uOk_patch (p := (pi, ts, ns, os)) (patchB_parts (show patchB (pi, ts, ns, os) = true by assumption)).1).1)) ?_ | refine oT (fun g1 => ?_) (fun g1 => ?_) | refine oE (fun g1 => ?_) (fun g1 => ?_))
  all_goals
   refine hK2 _ ?_
   refine AWP_ret ?_
   simp only [hres, go_sem]
   first | exact oF | (refine ⟨?_, oF⟩; first | (unfold redB; rw [show patchB (pi, ts, ns, os) = false by assumption]; rfl) | (have hP9 : patchB (pi, ts, ns, os) = true := (by assumption); rw [unite_one hP9]; unfold redB; rw [hP9]; rfl))
def T_implRed : Tab := fun f => if f = 15 then some (.p K_implRed) else T_implCnt f
theorem T_implRed_ok : TabOk Tryz.prog T_implRed := tabP implRed_ok (fnOk_of Tryz.func15 rfl (by decide)) T_implCnt_ok
attribute [go_sem] T_implRed K_implRed

def K_implChk : Con := ⟨[.val ((.prod (.int .i64) (.prod (.row 26 (.row 2 (.int .i64))) (.prod (.row 90 (.prod (.int .i64) (.prod (.int .i64) (.prod (.int .i64) (.row 2 (.int .i64)))))) (.row 2 (.int .i64)))))), .val ((.row 2 (.int .i64)))], [⟨.bool, true⟩], fun _ => True, fun x => checkB x.1 x.2.1⟩
theorem implChk_ok : PureT Tryz.prog 14 K_implChk := by
  refine pure_of_body Tryz.func14 rfl ?_
  have hres : Tryz.f14.results.toList = [.tmp 4] := rfl
  rintro ⟨⟨(pi : Int), (ts : List (List Int)), (ns : List NodeD), (os : List Int)⟩, (cl : List Int), _⟩ hc hL
  simp only [K_implChk, go_sem] at hL
  simp only [K_implChk, St.init, St.initG, Tryz.ntmps14, go_sem] 
  refine oS fun K1 hK1 => ?_
  refine oW T_implRed_ok ?_
  simp only [go_sem]
  refine hK1 _ ?_
  refine oS fun K2 hK2 => ?_
  refine oS fun K3 hK3 => ?_
  refine oW T_implRed_ok ?_
  simp (maxSteps := 2000000) only [go_sem]
  repeat' (with_reducible first | refine oA ?_ | refine And.intro (by first | exact inR_t (by omega) (by omega) | rfl | decide) ?_ | refine oT (fun g1 => ?_) (fun g1 => ?_) | refine oE (fun g1 => ?_) (fun g1 => ?_))
  all_goals
   refine hK3 _ ?_
   refine AWP_cond rfl ?_ ?_
   ·
    intro c0
    try simp only [zA, zB, zC, zD, zE, zF, zG, zH, zI] at c0
    all_goals
     refine oS fun K4 hK4 => ?_
     refine oW T_implRed_ok ?_
     simp only [go_sem]
     refine hK4 _ ?_
     refine AWP_ret ?_
     simp only [hres, go_sem]
     first | exact oF | (refine ⟨?_, oF⟩; first | exact (checkB_f1 (p := (pi, ts, ns, os)) (by assumption)).symm | exact (checkB_f2 (p := (pi, ts, ns, os)) (by show ¬ cl.length = ns.length; omega)).symm | exact (checkB_f3 (p := (pi, ts, ns, os)) (by assumption)).symm)
   ·
    intro c0
    try simp only [zA, zB, zC, zD, zE, zF, zG, zH, zI] at c0
    all_goals
     have hP : patchB (pi, ts, ns, os) = true := by assumption
     have hlc : cl.length = ns.length := by omega
     have hix : idxs 24 cl = true := by assumption
     have hF := (patchB_parts hP).1
     have hU : uOk ts ns := uOk_patch (p := (pi, ts, ns, os)) hF
     have hsm : smallPs [(pi, ts, ns, os)] := smallPs_one hP
     have hun : uniteL [(pi, ts, ns, os)] = (ts, ns, os) := unite_one (p := (pi, ts, ns, os)) hP
     have hn24 : ns.length ≤ 24 := (formedB_parts hF).1
     refine AWP_skip ?_
     simp only [go_sem]
     refine hK2 _ ?_
     refine oS fun K5 hK5 => ?_
     refine oW T_implRed_ok ?_
     simp (maxSteps := 2000000) only [List.nodup_cons, List.nodup_nil, List.not_mem_nil, not_false_eq_true, hun, go_sem]
     repeat (with_reducible first | refine oA ?_ | refine And.intro (by first | exact hsm) ?_)
     refine hK5 _ ?_
     refine oS fun K6 hK6 => ?_
     refine oS fun K7 hK7 => ?_
     refine oW T_implRed_ok ?_
     simp only [go_sem]
     repeat (with_reducible refine oA ?_)
     refine hK7 _ ?_
     refine AWP_block ?_
     refine AWP_loop_k (ι := { k : Nat // k ≤ ns.length ∧ ∀ i q, i < k → q < ns.length → okp ts ns cl i q = true }) (fun k => ⟨[zz, .c (.rd [] 2 (.int .i64) (cl)), zz, zz, zz, .c (.po 180 0), zz, zz, zz, zz, zz, zz, zz, zz, zz, zz, zz, zz, zz, zz, zz, zz, zz, zz, zz, zz, zz, zz, zz, zz, .c (.ow 9002), .c (.sc (.int .i64 (ns.length))), .c (.sc (.int .i64 (k.1))), zz, zz, zz, zz, zz, zz, zz, zz, zz, zz, zz, zz, zz, zz, zz, zz, zz, zz, zz, zz, zz, zz, zz, zz, zz, zz, zz, zz, zz, zz, zz], [(180, .box [.ow 9001, .ow 9002, .ow 9003]), (9001, .tree 26 (.row 2 (.int .i64)) (ts) none), (9002, .tree 90 (.prod (.int .i64) (.prod (.int .i64) (.prod (.int .i64) (.row 2 (.int .i64))))) (ns) none), (9003, .row 2 (.int .i64) (os) [])]⟩) (fun k => ns.length - k.1) ⟨0, by simp, fun i q hi _ => absurd hi (Nat.not_lt_zero _)⟩ ?_ ?_
     ·
      refine oK ?_
      simp (maxSteps := 2000000) only [go_sem]
      all_goals ((repeat' refine And.intro ?_ ?_) <;> first | rfl | (congr 1; done) | simp)
     rintro ⟨k, hk, hkp⟩ K8 hL8
     refine oS fun K9 hK9 => ?_
     refine oW T_implRed_ok ?_
     simp only [go_sem]
     refine hK9 _ ?_
     refine oS fun K10 hK10 => ?_
     refine AWP_cond rfl ?_ ?_
     ·
      intro c1
      try simp only [zA, zB, zC, zD, zE, zF, zG, zH, zI] at c1
      all_goals
       refine AWP_skip ?_
       simp only [go_sem]
       refine hK10 _ ?_
       refine oS fun K11 hK11 => ?_
       refine AWP_block ?_
       refine oS fun K12 hK12 => ?_
       refine oW T_implRed_ok ?_
       simp (maxSteps := 2000000) only [go_sem]
       repeat (with_reducible refine oA ?_)
       refine hK12 _ ?_
       refine oS fun K13 hK13 => ?_
       refine oW T_implRed_ok ?_
       simp only [go_sem]
       repeat (with_reducible refine oA ?_)
       refine hK13 _ ?_
       refine AWP_block ?_
       refine AWP_loop_k (ι := { m : Nat // m ≤ ns.length ∧ ∀ q, q < m → okp ts ns cl k q = true }) (fun k' => ⟨[zz, .c (.rd [] 2 (.int .i64) (cl)), zz, zz, zz, .c (.po 180 0), .c (.sc (.int .i64 (k))), .c (.po 212 0), zz, zz, zz, zz, zz, zz, zz, zz, zz, zz, zz, zz, zz, zz, zz, zz, zz, zz, zz, zz, zz, zz, .c (.ow 9002), .c (.sc (.int .i64 (ns.length))), .c (.sc (.int .i64 (k))), zz, zz, zz, zz, zz, .c (.ow 9002), .c (.sc (.int .i64 (ns.length))), .c (.sc (.int .i64 (k'.1))), zz, zz, zz, zz, zz, zz, zz, zz, zz, zz, zz, zz, zz, zz, zz, zz, zz, zz, zz, zz, zz, zz, zz], [(180, .box [.ow 9001, .ow 9002, .ow 9003]), (9001, .tree 26 (.row 2 (.int .i64)) (ts) none), (9002, .tree 90 (.prod (.int .i64) (.prod (.int .i64) (.prod (.int .i64) (.row 2 (.int .i64))))) (ns) none), (9003, .row 2 (.int .i64) (os) []), (212, .box [.sc (.int .i64 ((ns.getD k ((0, 0, 0, []) : NodeD)).1)), .sc (.int .i64 ((ns.getD k ((0, 0, 0, []) : NodeD)).2.1)), .sc (.int .i64 ((ns.getD k ((0, 0, 0, []) : NodeD)).2.2.1)), .sub 9002 k 4 3 2 (.int .i64) ((ns.getD k ((0, 0, 0, []) : NodeD)).2.2.2)])]⟩) (fun k' => ns.length - k'.1) ⟨0, by simp, fun q hq => absurd hq (Nat.not_lt_zero _)⟩ ?_ ?_
       ·
        refine oK ?_
        simp (maxSteps := 2000000) only [go_sem]
        all_goals ((repeat' refine And.intro ?_ ?_) <;> first | rfl | (congr 1; done) | simp)
       rintro ⟨m, hm, hmp⟩ K14 hL14
       refine oS fun K15 hK15 => ?_
       refine oW T_implRed_ok ?_
       simp only [go_sem]
       refine hK15 _ ?_
       refine oS fun K16 hK16 => ?_
       refine AWP_cond rfl ?_ ?_
       ·
        intro c2
        try simp only [zA, zB, zC, zD, zE, zF, zG, zH, zI] at c2
        all_goals
         have hz1 : tabIx ts ((ns.getD k ((0, 0, 0, []) : NodeD)).1, (ns.getD k ((0, 0, 0, []) : NodeD)).2.1, (ns.getD k ((0, 0, 0, []) : NodeD)).2.2.1, (ns.getD k ((0, 0, 0, []) : NodeD)).2.2.2) := (hU.2 _ (getD_mem (d := ((0, 0, 0, []) : NodeD)) (show k < ns.length by omega))).1
         have hz2 : insIx cl.length ((ns.getD k ((0, 0, 0, []) : NodeD)).1, (ns.getD k ((0, 0, 0, []) : NodeD)).2.1, (ns.getD k ((0, 0, 0, []) : NodeD)).2.2.1, (ns.getD k ((0, 0, 0, []) : NodeD)).2.2.2) := by rw [hlc]; exact (hU.2 _ (getD_mem (d := ((0, 0, 0, []) : NodeD)) (show k < ns.length by omega))).2
         have hz3 : tabIx ts ((ns.getD m ((0, 0, 0, []) : NodeD)).1, (ns.getD m ((0, 0, 0, []) : NodeD)).2.1, (ns.getD m ((0, 0, 0, []) : NodeD)).2.2.1, (ns.getD m ((0, 0, 0, []) : NodeD)).2.2.2) := (hU.2 _ (getD_mem (d := ((0, 0, 0, []) : NodeD)) (show m < ns.length by omega))).1
         have hz4 : insIx cl.length ((ns.getD m ((0, 0, 0, []) : NodeD)).1, (ns.getD m ((0, 0, 0, []) : NodeD)).2.1, (ns.getD m ((0, 0, 0, []) : NodeD)).2.2.1, (ns.getD m ((0, 0, 0, []) : NodeD)).2.2.2) := by rw [hlc]; exact (hU.2 _ (getD_mem (d := ((0, 0, 0, []) : NodeD)) (show m < ns.length by omega))).2
         refine AWP_skip ?_
         simp only [go_sem]
         refine hK16 _ ?_
         refine oS fun K17 hK17 => ?_
         refine AWP_block ?_
         refine oS fun K18 hK18 => ?_
         refine oW T_implRed_ok ?_
         simp (maxSteps := 2000000) only [go_sem]
         repeat (with_reducible refine oA ?_)
         refine hK18 _ ?_
         refine oS fun K19 hK19 => ?_
         refine oR T_implRed_ok
           [[], [], [0, 1], [0, 1, 2], [], [], [4, 5], [4, 5, 6], [0, 1, 2, 3, 4, 5, 6, 7], [0, 1, 2, 3, 4, 5, 6, 7, 8], [0, 1, 2, 3, 4, 5, 6, 7, 8, 9], [0, 1, 2, 3, 4, 5, 6, 7, 8, 9], [0, 1, 2, 3, 4, 5, 6, 7, 8, 9], [0, 1, 2, 3, 4, 5, 6, 7, 8, 9], [0, 1, 2, 3, 4, 5, 6, 7, 8, 9, 10, 11, 12, 13], [0, 1, 2, 3, 4, 5, 6, 7, 8, 9, 10, 11, 12, 13, 14], [0, 1, 2, 3, 4, 5, 6, 7, 8, 9, 10, 11, 12, 13, 14, 15]]
           [[], [], [], [], [], [], [], [], [], [], [], [], [], [], [], [], []]
           [[], [], [], [], [], [], [], [], [], [], [], [], [], [], [], [], []] (by kernel_rfl) (by kernel_rfl) (adrawR_ok (acc := []) ?_)
         simp (maxSteps := 2000000) only [go_sem]
         repeat' (with_reducible first | refine oD ?_ | refine And.intro (by first | exact ⟨by omega, by omega⟩ | exact ⟨hz1, hz3, hz2, hz4⟩) ?_ | refine oT (fun g10 => ?_) (fun g10 => ?_) | refine oE (fun g10 => ?_) (fun g10 => ?_))
         all_goals
          refine hK19 _ ?_
          refine AWP_cond rfl ?_ ?_
          ·
           intro c3
           try simp only [zA, zB, zC, zD, zE, zF, zG, zH, zI] at c3
           all_goals
            have hok : okp ts ns cl k m = false := by clear hK1 hK2 hK3 hK5 hK6 hK7 hL8 hK9 hK10 hK11 hK12 hK13 hL14 hK15 hK16 hK17 hK18 hK19; simp_all [okp, n0]
            refine oS fun K20 hK20 => ?_
            refine oW T_implRed_ok ?_
            simp only [go_sem]
            refine hK20 _ ?_
            refine AWP_ret ?_
            simp only [hres, go_sem]
            first | exact oF | (refine ⟨?_, oF⟩; exact (checkB_f4 (p := (pi, ts, ns, os)) (i := k) (k := m) (by omega) (by omega) hok).symm)
          ·
           intro c3
           try simp only [zA, zB, zC, zD, zE, zF, zG, zH, zI] at c3
           all_goals
            have hok : okp ts ns cl k m = true := by clear hK1 hK2 hK3 hK5 hK6 hK7 hL8 hK9 hK10 hK11 hK12 hK13 hL14 hK15 hK16 hK17 hK18 hK19; simp_all [okp, n0]
            refine AWP_skip ?_
            simp only [go_sem]
            refine hK17 _ ?_
            refine oW T_implRed_ok ?_
            simp only [go_sem]
            refine hL14 ⟨m + 1, by omega, fun q hq => by rcases Nat.lt_succ_iff_lt_or_eq.1 hq with h | h; exact hmp q h; subst h; exact hok⟩ _ (oK ?_) ?_
            ·
             simp (maxSteps := 2000000) only [go_sem]
             all_goals (first | rfl | ((repeat' refine And.intro ?_ ?_) <;> first | rfl | exact wk (by omega) | simp))
            ·
             first | (simp only []; omega) | omega | (simp; omega)
       ·
        intro c2
        try simp only [zA, zB, zC, zD, zE, zF, zG, zH, zI] at c2
        all_goals
         refine AWP_exit ?_
         simp only [go_sem]
         refine hK11 _ ?_
         refine oW T_implRed_ok ?_
         simp only [go_sem]
         refine hL8 ⟨k + 1, by omega, fun i q hi hq => by rcases Nat.lt_succ_iff_lt_or_eq.1 hi with h | h; exact hkp i q h hq; subst h; exact hmp q (by omega)⟩ _ (oK ?_) ?_
         ·
          simp (maxSteps := 2000000) only [go_sem]
          all_goals (first | rfl | ((repeat' refine And.intro ?_ ?_) <;> first | rfl | exact wk (by omega) | simp))
         ·
          first | (simp only []; omega) | omega | (simp; omega)
     ·
      intro c1
      try simp only [zA, zB, zC, zD, zE, zF, zG, zH, zI] at c1
      all_goals
       refine AWP_exit ?_
       simp only [go_sem]
       refine hK6 _ ?_
       refine oS fun K21 hK21 => ?_
       refine oW T_implRed_ok ?_
       simp only [go_sem]
       refine hK21 _ ?_
       refine AWP_ret ?_
       simp only [hres, go_sem]
       first | exact oF | (refine ⟨?_, oF⟩; exact (checkB_t (p := (pi, ts, ns, os)) hP hlc hix fun i q hi hq => hkp i q (by omega) (by omega)).symm)
def T_implChk : Tab := fun f => if f = 14 then some (.p K_implChk) else T_implRed f
theorem T_implChk_ok : TabOk Tryz.prog T_implChk := tabP implChk_ok (fnOk_of Tryz.func14 rfl (by decide)) T_implRed_ok
attribute [go_sem] T_implChk K_implChk

end Go.Proofs.YtflaacndokbddaaGreat
