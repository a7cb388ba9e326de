/-
  Contracts of functions: MergeClasses.
-/
import Derived.Test.YtflaacndokbddaaGreatHc4
import Derived.Test.YtflaacndokbddaaGreatGa7
import Derived.Test.YtflaacndokbddaaGreatHa2
import Derived.Test.YtflaacndokbddaaGreatPt
namespace Go.Proofs.YtflaacndokbddaaGreat
open Go.RowKit
set_option linter.unusedSimpArgs false
set_option linter.unusedVariables false

set_option maxRecDepth 100000
set_option maxHeartbeats 8000000
def T_mHc120 : Tab := fun f => match T_classes f with
 | some k => some k
 | none => T_isPatch f
theorem T_mHc120_ok : TabOk Tryz.prog T_mHc120 := tabM T_classes_ok T_isPatch_ok
attribute [go_sem] T_mHc120 T0

def T_mHc121 : Tab := fun f => match T_mHc120 f with
 | some k => some k
 | none => T_unite f
theorem T_mHc121_ok : TabOk Tryz.prog T_mHc121 := tabM T_mHc120_ok T_unite_ok
attribute [go_sem] T_mHc121 T0

def T_mHc122 : Tab := fun f => match T_mHc121 f with
 | some k => some k
 | none => T_clones f
theorem T_mHc122_ok : TabOk Tryz.prog T_mHc122 := tabM T_mHc121_ok T_clones_ok
attribute [go_sem] T_mHc122 T0

def T_mHc123 : Tab := fun f => match T_mHc122 f with
 | some k => some k
 | none => T_mapped f
theorem T_mHc123_ok : TabOk Tryz.prog T_mHc123 := tabM T_mHc122_ok T_mapped_ok
attribute [go_sem] T_mHc123 T0

def K_implMerge : Con := ⟨[.val ((.prod (.int .i64) (.prod (.row 26 (.row 2 (.int .i64))) (.prod (.row 90 (.prod (.int .i64) (.prod (.int .i64) (.prod (.int .i64) (.row 2 (.int .i64)))))) (.row 2 (.int .i64))))))], [⟨(.prod (.int .i64) (.prod (.row 26 (.row 2 (.int .i64))) (.prod (.row 90 (.prod (.int .i64) (.prod (.int .i64) (.prod (.int .i64) (.row 2 (.int .i64)))))) (.row 2 (.int .i64))))), true⟩, ⟨.int .i64, true⟩], fun _ => True, fun x => mergeR x.1⟩
theorem implMerge_ok : PureT Tryz.prog 12 K_implMerge := by
  refine pure_of_body Tryz.func12 rfl ?_
  have hres : Tryz.f12.results.toList = [.cell 2 28, .tmp 3] := rfl
  rintro ⟨⟨(pi : Int), (ts : List (List Int)), (ns : List NodeD), (os : List Int)⟩, _⟩ hc hL
  simp only [K_implMerge, go_sem] at hL
  simp only [K_implMerge, St.init, St.initG, Tryz.ntmps12, go_sem] 
  refine oS fun K1 hK1 => ?_
  refine oW T_mHc123_ok ?_
  simp only [go_sem]
  refine hK1 _ ?_
  refine oS fun K2 hK2 => ?_
  refine oS fun K3 hK3 => ?_
  refine oW T_mHc123_ok ?_
  simp only [go_sem]
  repeat (with_reducible refine oA ?_)
  refine hK3 _ ?_
  refine oC rfl ?_ ?_
  ·
   intro c0
   refine oS fun K4 hK4 => ?_
   refine oW T_mHc123_ok ?_
   simp only [go_sem]
   repeat (with_reducible refine oA ?_)
   refine hK4 _ ?_
   refine AWP_ret ?_
   simp only [hres, go_sem]
   first | exact oF | (refine ⟨?_, oF⟩; first | (rw [mergeR_f c0]; exact ⟨rfl, rfl⟩) | (rw [mergeR_f c0]; done) | (rw [mergeR_f c0]; rfl))
  intro c0
  have hF := (patchB_parts c0).1
  have hU : uOk ts ns := uOk_patch (p := (pi, ts, ns, os)) hF
  have hsm : smallPs [(pi, ts, ns, os)] := smallPs_one c0
  have hun : uniteL [(pi, ts, ns, os)] = (ts, ns, os) := unite_one (p := (pi, ts, ns, os)) c0
  have hsl : smallL (clsF ts ns) = true := smallL_cls hU.1
  have hcl : (clsF ts ns).length = ns.length := clsF_len
  have hn24 : ns.length ≤ 24 := (formedB_parts hF).1
  have ho4 : os.length ≤ 4 := (formedB_parts hF).2.1
  have hos : idxs ns.length os = true := (formedB_parts hF).2.2.2.2.2.1
  have hfl : fitsL ts := (smallP_fitsP (smallP_of (p := (pi, ts, ns, os)) c0)).1
  have hmo : os.length ≤ 1000 ∧ idxs (clsF ts ns).length os = true := ⟨by omega, by rw [hcl]; exact hos⟩
  refine AWP_skip ?_
  simp only [go_sem]
  refine hK2 _ ?_
  refine oS fun K5 hK5 => ?_
  refine oW T_mHc123_ok ?_
  simp (maxSteps := 2000000) only [List.nodup_cons, List.nodup_nil, List.not_mem_nil, not_false_eq_true, hun, go_sem]
  repeat (with_reducible first | refine oA ?_ | refine And.intro (by first | exact hsm | exact hU) ?_)
  refine hK5 _ ?_
  refine oS fun K6 hK6 => ?_
  refine oR T_mHc123_ok
    [[], [0], [], [2], [2, 3], [], [5], [], [2, 3, 4, 5, 6, 7], [0, 1, 2, 3, 4, 5, 6, 7, 8], [], [0, 1, 2, 3, 4, 5, 6, 7, 8, 9, 10]]
    [[180, 420, 421, 422, 423, 424, 425, 426, 427, 428, 429, 430, 431, 432, 433, 434, 435, 484, 485, 486, 487, 488, 489, 490, 491, 492, 493, 494, 495, 496, 497, 498, 499], [180, 420, 421, 422, 423, 424, 425, 426, 427, 428, 429, 430, 431, 432, 433, 434, 435, 484, 485, 486, 487, 488, 489, 490, 491, 492, 493, 494, 495, 496, 497, 498, 499], [180], [180], [180], [180, 420, 421, 422, 423, 424, 425, 426, 427, 428, 429, 430, 431, 432, 433, 434, 435], [180, 420, 421, 422, 423, 424, 425, 426, 427, 428, 429, 430, 431, 432, 433, 434, 435], [180, 420, 421, 422, 423, 424, 425, 426, 427, 428, 429, 430, 431, 432, 433, 434, 435], [180], [180], [420, 421, 422, 423, 424, 425, 426, 427, 428, 429, 430, 431, 432, 433, 434, 435, 484, 485, 486, 487, 488, 489, 490, 491, 492, 493, 494, 495, 496, 497, 498, 499], []]
    [[], [], [], [], [420, 421, 422, 423, 424, 425, 426, 427, 428, 429, 430, 431, 432, 433, 434, 435], [], [], [], [484, 485, 486, 487, 488, 489, 490, 491, 492, 493, 494, 495, 496, 497, 498, 499], [], [180], []] (by kernel_rfl) (by kernel_rfl) (adrawR_ok (acc := []) ?_)
  simp (maxSteps := 2000000) only [go_sem]
  repeat (with_reducible first | refine oD ?_ | refine And.intro (by first | exact hfl | exact hmo) ?_)
  refine hK6 _ ?_
  refine oS fun K7 hK7 => ?_
  refine oS fun K8 hK8 => ?_
  refine oW T_mHc123_ok ?_
  simp only [go_sem]
  repeat (with_reducible refine oA ?_)
  refine hK8 _ ?_
  refine AWP_block ?_
  refine AWP_wk (Wk_nilBox _ 180 2 9002 90 ((.prod (.int .i64) (.prod (.int .i64) (.prod (.int .i64) (.row 2 (.int .i64)))))) (by decide)) ?_
  simp (maxSteps := 2000000) only [go_sem]
  refine AWP_loop_k (ι := { k : Nat // k ≤ ns.length }) (fun k => ⟨[zz, zz, .c (.po 132 0), zz, .c (.ow 9004), .c (.po 180 0), zz, zz, zz, zz, zz, zz, zz, zz, zz, zz, zz, zz, zz, zz, zz, zz, zz, zz, zz, zz, zz, .c (.rd [] 90 ((.prod (.int .i64) (.prod (.int .i64) (.prod (.int .i64) (.row 2 (.int .i64)))))) (ns)), .c (.sc (.int .i64 (ns.length))), .c (.sc (.int .i64 (k.1))), zz, zz, zz, zz, zz, zz, zz, zz, zz, zz, zz, zz, zz, zz, zz, zz, zz, zz, zz, zz, zz, zz, zz, zz, zz], [(132, .box [.sc (.int .i64 (0)), .sc (.slice none 0 0), .sc (.slice none 0 0), .sc (.slice none 0 0)]), (180, .box [.sc (.int .i64 (pi)), .ow 9001, .ow 9002, .ow 9003]), (9001, .tree 26 (.row 2 (.int .i64)) (ts) none), (9002, .tree 90 (.prod (.int .i64) (.prod (.int .i64) (.prod (.int .i64) (.row 2 (.int .i64))))) (mrgN (pi, ts, ns, os) k.1) none), (9003, .row 2 (.int .i64) (clsM (clsF ts ns) os) []), (9004, .row 2 (.int .i64) ((clsF ts ns)) [])]⟩) (fun k => ns.length - k.1) ⟨0, by simp⟩ ?_ ?_
  ·
   refine oK ?_
   simp (maxSteps := 2000000) only [go_sem]
   all_goals ((repeat' refine And.intro ?_ ?_) <;> first | rfl | (congr 1; done) | (simp [mrgN, divC]; done) | simp)
  rintro ⟨k, hk⟩ K9 hL9
  have hmn : (mrgN (pi, ts, ns, os) k).length ≤ k := mrgN_len _ _
  have hnc : inR ((mrgN (pi, ts, ns, os) k).length : Int) 0 1099511627776 = true := inR_t (by omega) (by omega)
  refine oS fun K10 hK10 => ?_
  refine oW T_mHc123_ok ?_
  simp only [go_sem]
  refine hK10 _ ?_
  refine oS fun K11 hK11 => ?_
  refine oC rfl ?_ ?_
  ·
   intro c1
   obtain ⟨hx1, hx2, hx3⟩ := (hU.2 _ (getD_mem (d := ((0, 0, 0, []) : NodeD)) (show k < ns.length by omega))).2
   have hmc : (ns.getD k ((0, 0, 0, []) : NodeD)).2.2.2.length ≤ 1000 ∧ idxs (clsF ts ns).length (ns.getD k ((0, 0, 0, []) : NodeD)).2.2.2 = true := ⟨Nat.le_trans hx1 (by decide), by rw [hcl]; exact hx2⟩
   have hml : (List.map (fun q => (clsF ts ns).getD (Int.toNat q) 0) (ns.getD k ((0, 0, 0, []) : NodeD)).2.2.2).length ≤ 3 := by rw [List.length_map]; exact hx1
   refine AWP_skip ?_
   simp only [go_sem]
   refine hK11 _ ?_
   refine oS fun K12 hK12 => ?_
   refine AWP_block ?_
   refine oS fun K13 hK13 => ?_
   refine oW T_mHc123_ok ?_
   simp (maxSteps := 2000000) only [go_sem]
   repeat (with_reducible refine oA ?_)
   refine hK13 _ ?_
   refine oS fun K14 hK14 => ?_
   refine oR T_mHc123_ok
     [[], [], [0, 1], [0, 1, 2], [], [4], [4, 5], [0, 1, 2, 3, 4, 5, 6]]
     [[], [], [], [], [], [], [], []]
     [[], [], [], [], [], [], [], []] (by kernel_rfl) (by kernel_rfl) (adrawR_ok (acc := []) ?_)
   simp (maxSteps := 2000000) only [go_sem]
   repeat (with_reducible first | refine oD ?_ | refine And.intro (by first | exact hnc | exact inR_t (by omega) (by omega) | exact ⟨by omega, by omega⟩ | omega) ?_)
   refine hK14 _ ?_
   refine oC rfl ?_ ?_
   ·
    intro c2
    have hnew := mrg_new (p := (pi, ts, ns, os)) (i := k) (by show k < ns.length; omega) (by assumption)
    refine oS fun K15 hK15 => ?_
    refine oW T_mHc123_ok ?_
    simp (maxSteps := 2000000) only [go_sem]
    repeat (with_reducible first | refine oA ?_ | refine And.intro (by first | exact hmc) ?_)
    refine hK15 _ ?_
    refine oW T_mHc123_ok ?_
    simp (maxSteps := 2000000) only [List.nodup_cons, List.nodup_nil, List.not_mem_nil, not_false_eq_true, go_sem]
    repeat (with_reducible first | refine oA ?_ | refine And.intro (by first | omega) ?_)
    refine hK12 _ ?_
    refine oW T_mHc123_ok ?_
    simp only [go_sem]
    refine hL9 ⟨k + 1, by omega⟩ _ (oK ?_) ?_
    ·
     simp (maxSteps := 2000000) only [go_sem]
     all_goals ((repeat' refine And.intro ?_ ?_) <;> first | rfl | exact wk (by omega) | exact hnew.symm | exact hold.symm | (congr 1; exact hnew.symm) | (congr 1; exact hold.symm) | (congr 1; done))
    ·
     first | (simp only []; omega) | omega | (simp; omega)
   intro c2
   have hold := mrg_old (p := (pi, ts, ns, os)) (i := k) (by show k < ns.length; omega) (by assumption)
   refine AWP_skip ?_
   simp only [go_sem]
   refine hK12 _ ?_
   refine oW T_mHc123_ok ?_
   simp only [go_sem]
   refine hL9 ⟨k + 1, by omega⟩ _ (oK ?_) ?_
   ·
    simp (maxSteps := 2000000) only [go_sem]
    all_goals ((repeat' refine And.intro ?_ ?_) <;> first | rfl | exact wk (by omega) | exact hnew.symm | exact hold.symm | (congr 1; exact hnew.symm) | (congr 1; exact hold.symm) | (congr 1; done))
   ·
    first | (simp only []; omega) | omega | (simp; omega)
  intro c1
  refine AWP_exit ?_
  simp only [go_sem]
  refine hK7 _ ?_
  refine oS fun K16 hK16 => ?_
  refine oW T_mHc123_ok ?_
  simp only [go_sem]
  repeat (with_reducible refine oA ?_)
  refine hK16 _ ?_
  refine AWP_ret ?_
  simp only [hres, go_sem]
  first
   | exact oF
   | refine ⟨?_, oF⟩
     have hk3 : k = ns.length := by omega
     clear hK1 hK2 hK3 hK5 hK6 hK7 hK8 hL9 hK10 hK11 hK16
     subst hk3
     first | (rw [mergeR_t c0]; exact ⟨rfl, rfl⟩) | (rw [mergeR_t c0]; done) | (rw [mergeR_t c0]; rfl)
def T_implMerge : Tab := fun f => if f = 12 then some (.p K_implMerge) else T_mHc123 f
theorem T_implMerge_ok : TabOk Tryz.prog T_implMerge := tabP implMerge_ok (fnOk_of Tryz.func12 rfl (by decide)) T_mHc123_ok
attribute [go_sem] T_implMerge K_implMerge

end Go.Proofs.YtflaacndokbddaaGreat
