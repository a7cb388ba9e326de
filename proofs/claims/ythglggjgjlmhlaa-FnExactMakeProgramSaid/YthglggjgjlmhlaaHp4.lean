/-
  Contracts of functions: l11Make, MakeProgram.
-/
import Derived.Test.YthglggjgjlmhlaaHp3
namespace Go.Proofs.Ythglggjgjlmhlaa
open Go.RowKit
set_option linter.unusedSimpArgs false
set_option linter.unusedVariables false

def K_l11Make : Con := ⟨[.ptr (.prod (.int .i64) (.prod (.row 24 (.row 2 (.int .i64))) (.prod (.row 140 (.prod (.int .i64) (.prod (.int .i64) (.prod (.int .i64) (.row 2 (.int .i64)))))) (.row 2 (.int .i64)))))], [⟨(.prod (.int .i64) (.prod (.int .i64) (.prod (.row 24 (.row 2 (.int .i64))) (.prod (.row 174 (.prod (.int .i64) (.prod (.int .i64) (.prod (.int .i64) (.prod (.int .i64) (.prod (.row 2 (.int .i64)) (.int .i64))))))) (.row 2 (.int .i64)))))), true⟩], fun x => patchB x.1 = true, fun x => progP x.1⟩
set_option maxRecDepth 100000 in
set_option maxHeartbeats 16000000 in
theorem l11Make_ok : PureT Try.prog 100 K_l11Make := by
  refine pure_of_body Try.func100 rfl ?_
  have hres : Try.f100.results.toList = [.cell 2 76] := rfl
  rintro ⟨⟨(pi : Int), (ts : List (List Int)), (ns : List NodeD), (os : List Int)⟩, _⟩ hc hL
  simp only [K_l11Make, lensOk, PK.lenOk, glensOk, GP.lenOk, flensOk, GO.lenOk, olensOk, Ty.lenOk, Ty.flat, Bool.and_true, Bool.true_and, Bool.and_false, Bool.false_and, true_and, and_true, implies_true, forall_const] at hL
  obtain ⟨⟨lts, lts2⟩, ⟨lns, lns2⟩, los⟩ := hL
  simp only [K_l11Make, St.init, St.initG, Try.ntmps100, go_sem] 
  have hP : patchB (pi, ts, ns, os) = true := hc
  have hF := (patchB_parts hP).1
  have hn24 : ns.length ≤ 24 := (formedB_parts hF).1
  have ho4 : os.length ≤ 4 := (formedB_parts hF).2.1
  obtain ⟨hcx, hcd, hcl⟩ := codeL_parts hF
  have hcx : ∀ y ∈ codeL ns, InstrOk ns.length y := hcx
  have hcl : (codeL ns).length ≤ 48 := hcl
  have hcd : Diff (codeL ns) := hcd
  have hos : idxs ns.length os = true := (formedB_parts hF).2.2.2.2.2.1
  have hll : (lastP ns.length (codeL ns) os).length = ns.length := lastP_len
  have hzc : inR (ns.length : Int) 0 1099511627776 = true := inR_t (by omega) (by omega)
  have hfl : fitsL ts := ⟨by have := (tabsB_parts (formedB_parts hF).2.2.1).1; simp only at this; omega, fun l hl => by have := ((tabsB_parts (formedB_parts hF).2.2.1).2 l hl).1; omega⟩
  have hfp : fitsP (pi, ts, ns, os) := smallP_fitsP (smallP_of hP)
  refine AWP_seq_k fun K1 hK1 => ?_
  refine AWP_region (G := G) (T := T_l11Last) T_l11Last_ok ?_
  simp only [go_sem]
  refine hK1 _ ?_
  refine AWP_seq_k fun K2 hK2 => ?_
  refine AWP_region (G := G) (T := T_l11Last) T_l11Last_ok ?_
  simp only [go_sem]
  repeat (with_reducible refine And.intro (by first | omega | exact ⟨rfl, by omega, by omega, by omega⟩ | exact hP) ?_)
  refine hK2 _ ?_
  refine AWP_seq_k fun K3 hK3 => ?_
  refine AWP_region (G := G) (T := T_l11Last) T_l11Last_ok ?_
  simp only [go_sem]
  repeat (with_reducible refine And.intro (by first | omega | exact ⟨rfl, by omega, by omega, by omega⟩ | exact ⟨hcx, hos, by omega, by omega⟩) ?_)
  refine hK3 _ ?_
  refine AWP_seq_k fun K4 hK4 => ?_
  refine AWP_region (G := G) (T := T_l11Last) T_l11Last_ok ?_
  simp (maxSteps := 2000000) only [List.nodup_nil, go_sem]
  repeat (with_reducible refine And.intro (by first | omega | exact ⟨rfl, by omega, by omega, by omega⟩ | exact ⟨by omega, by omega⟩) ?_)
  refine hK4 _ ?_
  refine AWP_seq_k fun K5 hK5 => ?_
  refine AWP_region (G := G) (T := T_l11Last) T_l11Last_ok ?_
  simp only [List.nodup_nil, go_sem]
  repeat (with_reducible refine And.intro (by first | omega | exact ⟨rfl, by omega, by omega, by omega⟩) ?_)
  refine hK5 _ ?_
  refine AWP_seq_k fun K6 hK6 => ?_
  refine AWP_region (G := G) (T := T_l11Last) T_l11Last_ok ?_
  simp only [go_sem]
  repeat (with_reducible refine And.intro (by first | omega | exact ⟨rfl, by omega, by omega, by omega⟩ | exact hfp) ?_)
  refine hK6 _ ?_
  refine AWP_seq_k fun K7 hK7 => ?_
  refine AWP_draw (G := G) (T := T_l11Last) T_l11Last_ok mixed
    [[], [0], [0, 1], [0, 1, 2], [], [4], [], [0, 1, 2, 3, 4, 5, 6], [], [0, 1, 2, 3, 4, 5, 6, 7, 8]]
    [[228, 660], [228, 660], [228, 660], [228, 660], [228, 660], [228, 660], [228], [228], [660], []]
    [[], [], [], [], [], [], [660], [], [228], []] (by kernel_rfl) (by kernel_rfl) (adrawR_ok (acc := []) ?_)
  simp (maxSteps := 2000000) only [List.nodup_cons, List.nodup_nil, List.not_mem_nil, not_false_eq_true, go_sem]
  repeat (with_reducible refine And.intro (by first | exact chk_leaf (by kernel_rfl) | omega | exact ⟨rfl, by omega, by omega, by omega⟩) ?_)
  refine hK7 _ ?_
  refine AWP_seq_k fun K8 hK8 => ?_
  refine AWP_seq_k fun K9 hK9 => ?_
  refine AWP_region (G := G) (T := T_l11Last) T_l11Last_ok ?_
  simp only [go_sem]
  refine hK9 _ ?_
  refine AWP_block ?_
  refine AWP_loop_k (ι := { s : Nat × List Int // s.1 ≤ (codeL ns).length ∧ LiveOk (lastP ns.length (codeL ns) os) (allocK (lastP ns.length (codeL ns) os) (codeL ns) ns.length s.1).1 s.2 s.1 ∧ (∀ x ∈ s.2, 0 ≤ x ∧ x < ns.length) ∧ s.2.length ≤ s.1 }) (fun k => ⟨(.c (.pt [] ((.prod (.int .i64) (.prod (.row 24 (.row 2 (.int .i64))) (.prod (.row 140 (.prod (.int .i64) (.prod (.int .i64) (.prod (.int .i64) (.row 2 (.int .i64)))))) (.row 2 (.int .i64)))))) (pi, ts, ns, os) 0) :: zz :: .c (.po 132 0) :: .c (.ow 9006) :: .c (.ow 9003) :: .c (.ow 9004) :: .c (.ow 9005) :: zz :: .c (.po 228 0) :: .c (.sc (.int .i64 (k.1.1))) :: zz :: zz :: zz :: zz :: zz :: zz :: zz :: zz :: zz :: zz :: zz :: zz :: zz :: zz :: zz :: zz :: zz :: zz :: zz :: zz :: zz :: zz :: zz :: zz :: zz :: zz :: zz :: zz :: zz :: zz :: zz :: zz :: zz :: zz :: zz :: zz :: zz :: zz :: zz :: zz :: zz :: zz :: zz :: zz :: zz :: zz :: zz :: zz :: zz :: zz :: zz :: zz :: zz :: zz :: zz :: zz :: zz :: zz :: zz :: zz :: zz :: zz :: zz :: zz :: zz :: zz :: zz :: zz :: zz :: zz :: zz :: zz :: zz :: zz :: zz :: zz :: zz :: zz :: zz :: zz :: zz :: zz :: zz :: zz :: zz :: zz :: zz :: zz :: zz :: zz :: zz :: zz :: zz :: zz :: zz :: zz :: zz :: zz :: zz :: zz :: zz :: zz :: zz :: zz :: zz :: zz :: zz :: zz :: zz :: zz :: zz :: zz :: zz :: zz :: zz :: zz :: zz :: []), [(132, .box [.sc (.int .i64 (0)), .sc (.int .i64 (0)), .sc (.slice none 0 0), .sc (.slice none 0 0), .sc (.slice none 0 0)]), (228, .box [.sc (.int .i64 (pi)), .sc (.int .i64 (((allocK (lastP ns.length (codeL ns) os) (codeL ns) ns.length k.1.1).1.length : Int))), .ow 9001, .ow 9002, .sc (.slice none 0 0)]), (9001, .tree 24 (.row 2 (.int .i64)) (ts) none), (9002, .tree 174 (.prod (.int .i64) (.prod (.int .i64) (.prod (.int .i64) (.prod (.int .i64) (.prod (.row 2 (.int .i64)) (.int .i64)))))) ((allocK (lastP ns.length (codeL ns) os) (codeL ns) ns.length k.1.1).2.2) none), (9003, .row 2 (.int .i64) ((lastP ns.length (codeL ns) os)) []), (9004, .row 2 (.int .i64) ((allocK (lastP ns.length (codeL ns) os) (codeL ns) ns.length k.1.1).2.1) []), (9005, .row 2 (.int .i64) (k.1.2) []), (9006, .tree 174 (.prod (.int .i64) (.prod (.int .i64) (.prod (.int .i64) (.prod (.int .i64) (.prod (.row 2 (.int .i64)) (.int .i64)))))) ((codeL ns)) none)]⟩) (fun k => (codeL ns).length - k.1.1) ⟨(0, []), by simp, liveOk_nil _, (fun x hx => by cases hx), Nat.le_refl _⟩ ?_ ?_
  ·
   refine Wk_to (by rfl) ?_
   simp (maxSteps := 2000000) only [go_sem]
   all_goals ((repeat' refine And.intro ?_ ?_) <;> first | rfl | exact List.length_replicate | (congr 1; done) | (simp; done))
  rintro ⟨⟨t, lv⟩, ht, hlv, hlr, hlc⟩ K10 hL10
  have ht : t ≤ (codeL ns).length := ht
  have hlv : LiveOk (lastP ns.length (codeL ns) os) (allocK (lastP ns.length (codeL ns) os) (codeL ns) ns.length t).1 lv t := hlv
  have hlr : ∀ x ∈ lv, 0 ≤ x ∧ x < ns.length := hlr
  have hlc : lv.length ≤ t := hlc
  have hA : HeldOk ns.length (codeL ns) t (allocK (lastP ns.length (codeL ns) os) (codeL ns) ns.length t) := allocK_ok hcx hcd t (by omega)
  have hAr := hA.regs
  have hAo := hA.out
  have hAs := hA.small
  have hxo : t < (codeL ns).length → InstrOk ns.length ((codeL ns).getD t ((0, 0, 0, 0, [], 0) : InstrD)) := fun h => hcx _ (getD_mem h)
  refine AWP_seq_k fun K11 hK11 => ?_
  refine AWP_seq_k fun K12 hK12 => ?_
  refine AWP_region (G := G) (T := T_l11Last) T_l11Last_ok ?_
  simp only [go_sem]
  refine hK12 _ ?_
  refine AWP_cond rfl ?_ ?_
  ·
   intro c0
   try simp only [decide_eq_true_eq, decide_eq_false_iff_not, Bool.not_eq_true', Bool.not_eq_false', ne_eq, Int.not_lt, Int.not_le] at c0
   obtain ⟨⟨hx1, hx2⟩, hx3, hx4⟩ := hxo (by omega)
   have hx3 : idxs ns.length ((codeL ns).getD t ((0, 0, 0, 0, [], 0) : InstrD)).2.2.2.2.1 = true := hx3
   have hx4 : ((codeL ns).getD t ((0, 0, 0, 0, [], 0) : InstrD)).2.2.2.2.1.length ≤ 3 := hx4
   have hmc : ((codeL ns).getD t ((0, 0, 0, 0, [], 0) : InstrD)).2.2.2.2.1.length ≤ 1000 ∧ idxs (allocK (lastP ns.length (codeL ns) os) (codeL ns) ns.length t).2.1.length ((codeL ns).getD t ((0, 0, 0, 0, [], 0) : InstrD)).2.2.2.2.1 = true := ⟨by omega, by rw [hAr]; exact hx3⟩
   have hml : (List.map (fun q => (allocK (lastP ns.length (codeL ns) os) (codeL ns) ns.length t).2.1.getD (Int.toNat q) 0) ((codeL ns).getD t ((0, 0, 0, 0, [], 0) : InstrD)).2.2.2.2.1).length = ((codeL ns).getD t ((0, 0, 0, 0, [], 0) : InstrD)).2.2.2.2.1.length := List.length_map _
   refine AWP_skip ?_
   simp only [go_sem]
   refine hK11 _ ?_
   refine AWP_seq_k fun K13 hK13 => ?_
   refine AWP_block ?_
   refine AWP_seq_k fun K14 hK14 => ?_
   refine AWP_region (G := G) (T := T_l11Last) T_l11Last_ok ?_
   simp (maxSteps := 2000000) only [go_sem]
   repeat (with_reducible refine And.intro (by first | omega | exact ⟨rfl, by omega, by omega, by omega⟩) ?_)
   refine hK14 _ ?_
   refine AWP_seq_k fun K15 hK15 => ?_
   refine AWP_region (G := G) (T := T_l11Last) T_l11Last_ok ?_
   simp (maxSteps := 2000000) only [List.nodup_nil, go_sem]
   repeat (with_reducible refine And.intro (by first | omega | exact ⟨rfl, by omega, by omega, by omega⟩ | exact hmc) ?_)
   refine hK15 _ ?_
   refine AWP_seq_k fun K16 hK16 => ?_
   refine AWP_region (G := G) (T := T_l11Last) T_l11Last_ok ?_
   simp only [List.nodup_nil, go_sem]
   repeat (with_reducible refine And.intro (by first | omega | exact ⟨rfl, by omega, by omega, by omega⟩) ?_)
   refine hK16 _ ?_
   refine AWP_seq_k fun K17 hK17 => ?_
   refine AWP_region (G := G) (T := T_l11Last) T_l11Last_ok ?_
   simp only [List.nodup_nil, go_sem]
   repeat (with_reducible refine And.intro (by first | omega | exact ⟨rfl, by omega, by omega, by omega⟩) ?_)
   refine hK17 _ ?_
   refine AWP_seq_k fun K18 hK18 => ?_
   refine AWP_seq_k fun K19 hK19 => ?_
   refine AWP_region (G := G) (T := T_l11Last) T_l11Last_ok ?_
   simp only [go_sem]
   refine hK19 _ ?_
   refine AWP_block ?_
   refine AWP_loop_k (ι := { m : Nat // m ≤ lv.length }) (fun k' => ⟨(.c (.pt [] ((.prod (.int .i64) (.prod (.row 24 (.row 2 (.int .i64))) (.prod (.row 140 (.prod (.int .i64) (.prod (.int .i64) (.prod (.int .i64) (.row 2 (.int .i64)))))) (.row 2 (.int .i64)))))) (pi, ts, ns, os) 0) :: zz :: .c (.po 132 0) :: .c (.ow 9006) :: .c (.ow 9003) :: .c (.ow 9004) :: .c (.ow 9005) :: zz :: .c (.po 228 0) :: .c (.sc (.int .i64 (t))) :: .c (.po 260 0) :: .c (.ow 9008) :: .c (.ow 9009) :: .c (.sc (.int .i64 (k'.1))) :: zz :: zz :: zz :: zz :: zz :: zz :: zz :: zz :: zz :: zz :: zz :: zz :: zz :: zz :: zz :: zz :: zz :: zz :: zz :: zz :: zz :: zz :: zz :: zz :: zz :: zz :: zz :: zz :: zz :: zz :: zz :: zz :: zz :: zz :: zz :: zz :: zz :: zz :: zz :: zz :: zz :: zz :: zz :: zz :: zz :: zz :: zz :: zz :: zz :: zz :: zz :: zz :: zz :: zz :: zz :: zz :: zz :: zz :: zz :: zz :: zz :: zz :: zz :: zz :: zz :: zz :: zz :: zz :: zz :: zz :: zz :: zz :: zz :: zz :: zz :: zz :: zz :: zz :: zz :: zz :: zz :: zz :: zz :: zz :: zz :: zz :: zz :: zz :: zz :: zz :: zz :: zz :: zz :: zz :: zz :: zz :: zz :: zz :: zz :: zz :: zz :: zz :: zz :: zz :: zz :: zz :: zz :: zz :: zz :: zz :: zz :: zz :: zz :: []), [(132, .box [.sc (.int .i64 (0)), .sc (.int .i64 (0)), .sc (.slice none 0 0), .sc (.slice none 0 0), .sc (.slice none 0 0)]), (228, .box [.sc (.int .i64 (pi)), .sc (.int .i64 (((allocK (lastP ns.length (codeL ns) os) (codeL ns) ns.length t).1.length : Int))), .ow 9001, .ow 9002, .sc (.slice none 0 0)]), (9001, .tree 24 (.row 2 (.int .i64)) (ts) none), (9002, .tree 174 (.prod (.int .i64) (.prod (.int .i64) (.prod (.int .i64) (.prod (.int .i64) (.prod (.row 2 (.int .i64)) (.int .i64)))))) ((allocK (lastP ns.length (codeL ns) os) (codeL ns) ns.length t).2.2) none), (9003, .row 2 (.int .i64) ((lastP ns.length (codeL ns) os)) []), (9004, .row 2 (.int .i64) ((allocK (lastP ns.length (codeL ns) os) (codeL ns) ns.length t).2.1) []), (9005, .row 2 (.int .i64) (lv) []), (9006, .tree 174 (.prod (.int .i64) (.prod (.int .i64) (.prod (.int .i64) (.prod (.int .i64) (.prod (.row 2 (.int .i64)) (.int .i64)))))) ((codeL ns)) none), (260, .box [.sc (.int .i64 (((codeL ns).getD t ((0, 0, 0, 0, [], 0) : InstrD)).1)), .sc (.int .i64 (((codeL ns).getD t ((0, 0, 0, 0, [], 0) : InstrD)).2.1)), .sc (.int .i64 (((codeL ns).getD t ((0, 0, 0, 0, [], 0) : InstrD)).2.2.1)), .sc (.int .i64 (((codeL ns).getD t ((0, 0, 0, 0, [], 0) : InstrD)).2.2.2.1)), .ow 9007, .sc (.int .i64 (((codeL ns).getD t ((0, 0, 0, 0, [], 0) : InstrD)).2.2.2.2.2))]), (9007, .row 2 (.int .i64) (mapR (allocK (lastP ns.length (codeL ns) os) (codeL ns) ns.length t).2.1 ((codeL ns).getD t ((0, 0, 0, 0, [], 0) : InstrD)).2.2.2.2.1) []), (9008, .row 2 (.int .i64) ((restL (lastP ns.length (codeL ns) os) (t : Int) (lv.take k'.1))) []), (9009, .row 2 (.int .i64) (((restL (lastP ns.length (codeL ns) os) (t : Int) (lv.take k'.1)).map fun q => (allocK (lastP ns.length (codeL ns) os) (codeL ns) ns.length t).2.1.getD q.toNat 0)) [])]⟩) (fun k' => lv.length - k'.1) ⟨0, by simp⟩ ?_ ?_
   ·
    refine Wk_to (by rfl) ?_
    simp (maxSteps := 2000000) only [go_sem]
    all_goals ((repeat' refine And.intro ?_ ?_) <;> first | rfl | exact List.length_replicate | (congr 1; done) | (simp; done))
   rintro ⟨m, hm⟩ K20 hL20
   have hlx : m < lv.length → 0 ≤ lv.getD m 0 ∧ lv.getD m 0 < ns.length := fun h => hlr _ (getD_mem h)
   have hrl : (restL (lastP ns.length (codeL ns) os) (t : Int) (lv.take m)).length ≤ m := Nat.le_trans (List.length_filter_le _ _) (by rw [List.length_take]; omega)
   have hul : ((restL (lastP ns.length (codeL ns) os) (t : Int) (lv.take m)).map fun q => (allocK (lastP ns.length (codeL ns) os) (codeL ns) ns.length t).2.1.getD q.toNat 0).length ≤ m := by rw [List.length_map]; exact hrl
   refine AWP_seq_k fun K21 hK21 => ?_
   refine AWP_seq_k fun K22 hK22 => ?_
   refine AWP_region (G := G) (T := T_l11Last) T_l11Last_ok ?_
   simp only [go_sem]
   refine hK22 _ ?_
   refine AWP_cond rfl ?_ ?_
   ·
    intro c1
    try simp only [decide_eq_true_eq, decide_eq_false_iff_not, Bool.not_eq_true', Bool.not_eq_false', ne_eq, Int.not_lt, Int.not_le] at c1
    obtain ⟨hlx1, hlx2⟩ := hlx (by omega)
    refine AWP_skip ?_
    simp only [go_sem]
    refine hK21 _ ?_
    refine AWP_seq_k fun K23 hK23 => ?_
    refine AWP_block ?_
    refine AWP_seq_k fun K24 hK24 => ?_
    refine AWP_region (G := G) (T := T_l11Last) T_l11Last_ok ?_
    simp (maxSteps := 2000000) only [go_sem]
    repeat (with_reducible refine And.intro (by first | omega | exact ⟨rfl, by omega, by omega, by omega⟩ | omega) ?_)
    refine hK24 _ ?_
    refine AWP_cond rfl ?_ ?_
    ·
     intro c2
     try simp only [decide_eq_true_eq, decide_eq_false_iff_not, Bool.not_eq_true', Bool.not_eq_false', ne_eq, Int.not_lt, Int.not_le] at c2
     refine AWP_seq_k fun K25 hK25 => ?_
     refine AWP_region (G := G) (T := T_l11Last) T_l11Last_ok ?_
     simp (maxSteps := 2000000) only [List.nodup_nil, go_sem]
     repeat (with_reducible refine And.intro (by first | omega | exact ⟨rfl, by omega, by omega, by omega⟩ | omega) ?_)
     refine hK25 _ ?_
     refine AWP_region (G := G) (T := T_l11Last) T_l11Last_ok ?_
     simp (maxSteps := 2000000) only [List.nodup_nil, go_sem]
     repeat (with_reducible refine And.intro (by first | omega | exact ⟨rfl, by omega, by omega, by omega⟩ | omega) ?_)
     refine hK23 _ ?_
     refine AWP_region (G := G) (T := T_l11Last) T_l11Last_ok ?_
     simp only [go_sem]
     refine hL20 ⟨m + 1, by omega⟩ _ (Wk_to (by rfl) ?_) ?_
     ·
      simp (maxSteps := 2000000) only [go_sem]
      all_goals ((repeat' refine And.intro ?_ ?_) <;> first | rfl | exact wk (by omega) | (rw [restL_t (by omega) (by assumption)]; done) | (rw [restL_t (by omega) (by assumption), List.map_append]; rfl) | (rw [restL_f (by omega) (by omega)]; done) | (rw [restL_f (by omega) (by omega)]; rfl))
     ·
      first | (simp only []; omega) | omega | (simp; omega)
    ·
     intro c2
     try simp only [decide_eq_true_eq, decide_eq_false_iff_not, Bool.not_eq_true', Bool.not_eq_false', ne_eq, Int.not_lt, Int.not_le] at c2
     refine AWP_skip ?_
     simp only [go_sem]
     refine hK23 _ ?_
     refine AWP_region (G := G) (T := T_l11Last) T_l11Last_ok ?_
     simp only [go_sem]
     refine hL20 ⟨m + 1, by omega⟩ _ (Wk_to (by rfl) ?_) ?_
     ·
      simp (maxSteps := 2000000) only [go_sem]
      all_goals ((repeat' refine And.intro ?_ ?_) <;> first | rfl | exact wk (by omega) | (rw [restL_t (by omega) (by assumption)]; done) | (rw [restL_t (by omega) (by assumption), List.map_append]; rfl) | (rw [restL_f (by omega) (by omega)]; done) | (rw [restL_f (by omega) (by omega)]; rfl))
     ·
      first | (simp only []; omega) | omega | (simp; omega)
   ·
    intro c1
    try simp only [decide_eq_true_eq, decide_eq_false_iff_not, Bool.not_eq_true', Bool.not_eq_false', ne_eq, Int.not_lt, Int.not_le] at c1
    have hmt : lv.take m = lv := List.take_of_length_le (by omega)
    have hrr : ∀ x ∈ (restL (lastP ns.length (codeL ns) os) (t : Int) lv), 0 ≤ x ∧ x < ns.length := fun x hx => hlr x (List.mem_filter.1 hx).1
    have hrc : (restL (lastP ns.length (codeL ns) os) (t : Int) lv).length ≤ t := Nat.le_trans (List.length_filter_le _ _) hlc
    refine AWP_exit ?_
    simp only [go_sem]
    refine hK18 _ ?_
    refine AWP_seq_k fun K26 hK26 => ?_
    refine AWP_region (G := G) (T := T_l11Last) T_l11Last_ok ?_
    simp only [go_sem]
    refine hK26 _ ?_
    refine AWP_seq_k fun K27 hK27 => ?_
    refine AWP_seq_k fun K28 hK28 => ?_
    refine AWP_region (G := G) (T := T_l11Last) T_l11Last_ok ?_
    simp only [go_sem]
    repeat (with_reducible refine And.intro (by first | omega | exact ⟨rfl, by omega, by omega, by omega⟩) ?_)
    refine hK28 _ ?_
    refine AWP_cond rfl ?_ ?_
    ·
     intro c3
     try simp only [decide_eq_true_eq, decide_eq_false_iff_not, Bool.not_eq_true', Bool.not_eq_false', ne_eq, Int.not_lt, Int.not_le] at c3
     refine AWP_seq_k fun K29 hK29 => ?_
     refine AWP_region (G := G) (T := T_l11Last) T_l11Last_ok ?_
     simp only [go_sem]
     refine hK29 _ ?_
     refine AWP_seq_k fun K30 hK30 => ?_
     refine AWP_block ?_
     refine AWP_loop_k (ι := { r : Nat // r ≤ (allocK (lastP ns.length (codeL ns) os) (codeL ns) ns.length t).1.length ∧ ∀ j, j < r → ((restL (lastP ns.length (codeL ns) os) (t : Int) lv).map fun q => (allocK (lastP ns.length (codeL ns) os) (codeL ns) ns.length t).2.1.getD q.toNat 0).contains (j : Int) = true }) (fun k' => ⟨(.c (.pt [] ((.prod (.int .i64) (.prod (.row 24 (.row 2 (.int .i64))) (.prod (.row 140 (.prod (.int .i64) (.prod (.int .i64) (.prod (.int .i64) (.row 2 (.int .i64)))))) (.row 2 (.int .i64)))))) (pi, ts, ns, os) 0) :: zz :: .c (.po 132 0) :: .c (.ow 9006) :: .c (.ow 9003) :: .c (.ow 9004) :: .c (.ow 9005) :: zz :: .c (.po 228 0) :: .c (.sc (.int .i64 (t))) :: .c (.po 260 0) :: zz :: .c (.ow 9009) :: zz :: .c (.sc (.int .i64 (k'.1))) :: zz :: zz :: zz :: zz :: zz :: zz :: zz :: zz :: zz :: zz :: zz :: zz :: zz :: zz :: zz :: zz :: zz :: zz :: zz :: zz :: zz :: zz :: zz :: zz :: zz :: zz :: zz :: zz :: zz :: zz :: zz :: zz :: zz :: zz :: zz :: zz :: zz :: zz :: zz :: zz :: zz :: zz :: zz :: zz :: zz :: zz :: zz :: zz :: zz :: zz :: zz :: zz :: zz :: zz :: zz :: zz :: zz :: zz :: zz :: zz :: zz :: zz :: zz :: zz :: zz :: zz :: zz :: zz :: zz :: zz :: zz :: zz :: zz :: zz :: zz :: zz :: zz :: zz :: zz :: zz :: zz :: zz :: zz :: zz :: zz :: zz :: zz :: zz :: zz :: zz :: zz :: zz :: zz :: zz :: zz :: zz :: zz :: zz :: zz :: zz :: zz :: zz :: zz :: zz :: zz :: zz :: zz :: zz :: zz :: zz :: zz :: zz :: []), [(132, .box [.sc (.int .i64 (0)), .sc (.int .i64 (0)), .sc (.slice none 0 0), .sc (.slice none 0 0), .sc (.slice none 0 0)]), (228, .box [.sc (.int .i64 (pi)), .sc (.int .i64 (((allocK (lastP ns.length (codeL ns) os) (codeL ns) ns.length t).1.length : Int))), .ow 9001, .ow 9002, .sc (.slice none 0 0)]), (9001, .tree 24 (.row 2 (.int .i64)) (ts) none), (9002, .tree 174 (.prod (.int .i64) (.prod (.int .i64) (.prod (.int .i64) (.prod (.int .i64) (.prod (.row 2 (.int .i64)) (.int .i64)))))) ((allocK (lastP ns.length (codeL ns) os) (codeL ns) ns.length t).2.2) none), (9003, .row 2 (.int .i64) ((lastP ns.length (codeL ns) os)) []), (9004, .row 2 (.int .i64) ((allocK (lastP ns.length (codeL ns) os) (codeL ns) ns.length t).2.1) []), (9005, .row 2 (.int .i64) ((restL (lastP ns.length (codeL ns) os) (t : Int) lv)) []), (9006, .tree 174 (.prod (.int .i64) (.prod (.int .i64) (.prod (.int .i64) (.prod (.int .i64) (.prod (.row 2 (.int .i64)) (.int .i64)))))) ((codeL ns)) none), (260, .box [.sc (.int .i64 (((codeL ns).getD t ((0, 0, 0, 0, [], 0) : InstrD)).1)), .sc (.int .i64 (((codeL ns).getD t ((0, 0, 0, 0, [], 0) : InstrD)).2.1)), .sc (.int .i64 (((codeL ns).getD t ((0, 0, 0, 0, [], 0) : InstrD)).2.2.1)), .sc (.int .i64 (((codeL ns).getD t ((0, 0, 0, 0, [], 0) : InstrD)).2.2.2.1)), .ow 9007, .sc (.int .i64 (((codeL ns).getD t ((0, 0, 0, 0, [], 0) : InstrD)).2.2.2.2.2))]), (9007, .row 2 (.int .i64) (mapR (allocK (lastP ns.length (codeL ns) os) (codeL ns) ns.length t).2.1 ((codeL ns).getD t ((0, 0, 0, 0, [], 0) : InstrD)).2.2.2.2.1) []), (9009, .row 2 (.int .i64) (((restL (lastP ns.length (codeL ns) os) (t : Int) lv).map fun q => (allocK (lastP ns.length (codeL ns) os) (codeL ns) ns.length t).2.1.getD q.toNat 0)) [])]⟩) (fun k' => (allocK (lastP ns.length (codeL ns) os) (codeL ns) ns.length t).1.length + 1 - k'.1) ⟨0, by simp, fun j hj => absurd hj (Nat.not_lt_zero _)⟩ ?_ ?_
     ·
      refine Wk_to (by rfl) ?_
      simp (maxSteps := 2000000) only [go_sem]
      all_goals ((repeat' refine And.intro ?_ ?_) <;> first | rfl | (rw [hmt]; done) | (rw [hmt]; rfl) | (congr 1; done) | (simp; done))
     rintro ⟨r, hr, hrp⟩ K31 hL31
     refine AWP_seq_k fun K32 hK32 => ?_
     refine AWP_seq_k fun K33 hK33 => ?_
     refine AWP_region (G := G) (T := T_l11Last) T_l11Last_ok ?_
     simp only [go_sem]
     repeat (with_reducible refine And.intro (by first | omega | exact ⟨rfl, by omega, by omega, by omega⟩) ?_)
     refine hK33 _ ?_
     refine AWP_cond rfl ?_ ?_
     ·
      intro c4
      try simp only [decide_eq_true_eq, decide_eq_false_iff_not, Bool.not_eq_true', Bool.not_eq_false', ne_eq, Int.not_lt, Int.not_le] at c4
      refine AWP_skip ?_
      simp only [go_sem]
      refine hK32 _ ?_
      refine AWP_block ?_
      refine AWP_region (G := G) (T := T_l11Last) T_l11Last_ok ?_
      simp only [go_sem]
      refine hL31 ⟨r + 1, by have := ((used_iff hA hlv r).1 (by assumption)).1; omega, fun j hj => by rcases Nat.lt_succ_iff_lt_or_eq.1 hj with h | h; exact hrp j h; subst h; assumption⟩ _ (Wk_to (by rfl) ?_) ?_
      ·
       simp (maxSteps := 2000000) only [go_sem]
       all_goals ((repeat' refine And.intro ?_ ?_) <;> first | rfl | exact wk (by omega))
      ·
       have := ((used_iff hA hlv r).1 (by assumption)).1; simp only []; omega
     ·
      intro c4
      try simp only [decide_eq_true_eq, decide_eq_false_iff_not, Bool.not_eq_true', Bool.not_eq_false', ne_eq, Int.not_lt, Int.not_le] at c4
      have hfree : freeR (lastP ns.length (codeL ns) os) t (allocK (lastP ns.length (codeL ns) os) (codeL ns) ns.length t).1 = r := used_free hA hlv hrp (by assumption)
      obtain ⟨hst1, hst2, hst3⟩ := allocK_f (last := (lastP ns.length (codeL ns) os)) (n := ns.length) (show ¬ ((codeL ns).getD t x0).1 = 18 from c3) hfree
      have hlv2 : LiveOk (lastP ns.length (codeL ns) os) (allocK (lastP ns.length (codeL ns) os) (codeL ns) ns.length (t + 1)).1 ((restL (lastP ns.length (codeL ns) os) (t : Int) lv) ++ [((codeL ns).getD t ((0, 0, 0, 0, [], 0) : InstrD)).2.2.2.1]) (t + 1) := by rw [hst1]; rw [← hfree]; exact hlv.next _
      have hlr2 : ∀ x ∈ (restL (lastP ns.length (codeL ns) os) (t : Int) lv) ++ [((codeL ns).getD t ((0, 0, 0, 0, [], 0) : InstrD)).2.2.2.1], 0 ≤ x ∧ x < ns.length := fun x hx => by
        rcases List.mem_append.1 hx with hx | hx
        · exact hrr x hx
        · rw [List.mem_singleton.1 hx]; exact ⟨hx1, hx2⟩
      have hlc2 : ((restL (lastP ns.length (codeL ns) os) (t : Int) lv) ++ [((codeL ns).getD t ((0, 0, 0, 0, [], 0) : InstrD)).2.2.2.1]).length ≤ t + 1 := by rw [List.length_append]; simp only [List.length_singleton]; omega
      have hwr : IntKind.i64.wrap ((r : Int) + 1) = r + 1 := wrapI (by have := hA.small; omega)
      have hmax : iMax ((allocK (lastP ns.length (codeL ns) os) (codeL ns) ns.length t).1.length : Int) ((r : Int) + 1) = ((allocK (lastP ns.length (codeL ns) os) (codeL ns) ns.length (t + 1)).1.length : Int) := by rw [hst1, setH_len]; unfold iMax; split <;> omega
      refine AWP_exit ?_
      simp only [go_sem]
      refine hK30 _ ?_
      refine AWP_seq_k fun K34 hK34 => ?_
      refine AWP_region (G := G) (T := T_l11Last) T_l11Last_ok ?_
      simp (maxSteps := 2000000) only [List.nodup_nil, go_sem]
      repeat (with_reducible refine And.intro (by first | omega | exact ⟨rfl, by omega, by omega, by omega⟩ | omega) ?_)
      refine hK34 _ ?_
      refine AWP_seq_k fun K35 hK35 => ?_
      refine AWP_region (G := G) (T := T_l11Last) T_l11Last_ok ?_
      simp (maxSteps := 2000000) only [List.nodup_nil, go_sem]
      repeat (with_reducible refine And.intro (by first | omega | exact ⟨rfl, by omega, by omega, by omega⟩ | omega) ?_)
      refine hK35 _ ?_
      refine AWP_seq_k fun K36 hK36 => ?_
      refine AWP_region (G := G) (T := T_l11Last) T_l11Last_ok ?_
      simp (maxSteps := 2000000) only [hwr, hmax, go_sem]
      repeat (with_reducible refine And.intro (by first | omega | exact ⟨rfl, by omega, by omega, by omega⟩ | omega) ?_)
      refine hK36 _ ?_
      refine AWP_region (G := G) (T := T_l11Last) T_l11Last_ok ?_
      simp only [go_sem]
      repeat (with_reducible refine And.intro (by first | omega | exact ⟨rfl, by omega, by omega, by omega⟩) ?_)
      refine hK27 _ ?_
      refine AWP_region (G := G) (T := T_l11Last) T_l11Last_ok ?_
      simp (maxSteps := 2000000) only [List.nodup_cons, List.nodup_nil, List.not_mem_nil, not_false_eq_true, go_sem]
      repeat (with_reducible refine And.intro (by first | omega | exact ⟨rfl, by omega, by omega, by omega⟩ | omega) ?_)
      refine hK13 _ ?_
      refine AWP_region (G := G) (T := T_l11Last) T_l11Last_ok ?_
      simp only [go_sem]
      first | (refine hL10 ⟨(t + 1, (restL (lastP ns.length (codeL ns) os) (t : Int) lv) ++ [((codeL ns).getD t ((0, 0, 0, 0, [], 0) : InstrD)).2.2.2.1]), by show t + 1 ≤ _; omega, hlv2, hlr2, hlc2⟩ _ (Wk_to (by rfl) ?_) ?_) | (refine hL10 ⟨(t + 1, (restL (lastP ns.length (codeL ns) os) (t : Int) lv)), by show t + 1 ≤ _; omega, hlv3, hlr3, hlc3⟩ _ (Wk_to (by rfl) ?_) ?_)
      ·
       simp (maxSteps := 2000000) only [go_sem]
       all_goals ((repeat' refine And.intro ?_ ?_) <;> first | rfl | exact wk (by omega) | (rw [hst1]; done) | (rw [hst1]; first | rfl | exact (setH_t (by omega)).symm | exact (setH_f (by omega)).symm) | (rw [hst2]; done) | (rw [hst2]; rfl) | (rw [hst3]; done) | (rw [hst3]; rfl) | (congr 1; first | (rw [hst3]; done) | (rw [hst3]; rfl)) | (congr 1; done))
      ·
       first | (simp only []; omega) | omega | (simp; omega)
    ·
     intro c3
     try simp only [decide_eq_true_eq, decide_eq_false_iff_not, Bool.not_eq_true', Bool.not_eq_false', ne_eq, Int.not_lt, Int.not_le] at c3
     obtain ⟨hst1, hst2, hst3⟩ := allocK_t (last := (lastP ns.length (codeL ns) os)) (n := ns.length) (show ((codeL ns).getD t x0).1 = 18 from c3)
     have hlv3 : LiveOk (lastP ns.length (codeL ns) os) (allocK (lastP ns.length (codeL ns) os) (codeL ns) ns.length (t + 1)).1 (restL (lastP ns.length (codeL ns) os) (t : Int) lv) (t + 1) := by rw [hst1]; exact hlv.store
     have hlr3 := hrr
     have hlc3 : (restL (lastP ns.length (codeL ns) os) (t : Int) lv).length ≤ t + 1 := by omega
     refine AWP_skip ?_
     simp only [go_sem]
     refine hK27 _ ?_
     refine AWP_region (G := G) (T := T_l11Last) T_l11Last_ok ?_
     simp (maxSteps := 2000000) only [List.nodup_cons, List.nodup_nil, List.not_mem_nil, not_false_eq_true, go_sem]
     repeat (with_reducible refine And.intro (by first | omega | exact ⟨rfl, by omega, by omega, by omega⟩ | omega) ?_)
     refine hK13 _ ?_
     refine AWP_region (G := G) (T := T_l11Last) T_l11Last_ok ?_
     simp only [go_sem]
     first | (refine hL10 ⟨(t + 1, (restL (lastP ns.length (codeL ns) os) (t : Int) lv) ++ [((codeL ns).getD t ((0, 0, 0, 0, [], 0) : InstrD)).2.2.2.1]), by show t + 1 ≤ _; omega, hlv2, hlr2, hlc2⟩ _ (Wk_to (by rfl) ?_) ?_) | (refine hL10 ⟨(t + 1, (restL (lastP ns.length (codeL ns) os) (t : Int) lv)), by show t + 1 ≤ _; omega, hlv3, hlr3, hlc3⟩ _ (Wk_to (by rfl) ?_) ?_)
     ·
      simp (maxSteps := 2000000) only [go_sem]
      all_goals ((repeat' refine And.intro ?_ ?_) <;> first | rfl | exact wk (by omega) | (rw [hst1]; done) | (rw [hst1]; first | rfl | exact (setH_t (by omega)).symm | exact (setH_f (by omega)).symm) | (rw [hst2]; done) | (rw [hst2]; rfl) | (rw [hst3]; done) | (rw [hst3]; rfl) | (congr 1; first | (rw [hst3]; done) | (rw [hst3]; rfl)) | (congr 1; done))
     ·
      first | (simp only []; omega) | omega | (simp; omega)
  ·
   intro c0
   try simp only [decide_eq_true_eq, decide_eq_false_iff_not, Bool.not_eq_true', Bool.not_eq_false', ne_eq, Int.not_lt, Int.not_le] at c0
   have hmo : os.length ≤ 1000 ∧ idxs (allocK (lastP ns.length (codeL ns) os) (codeL ns) ns.length t).2.1.length os = true := ⟨by omega, by rw [hAr]; exact hos⟩
   refine AWP_exit ?_
   simp only [go_sem]
   refine hK8 _ ?_
   refine AWP_seq_k fun K37 hK37 => ?_
   refine AWP_region (G := G) (T := T_l11Last) T_l11Last_ok ?_
   simp (maxSteps := 2000000) only [List.nodup_nil, go_sem]
   repeat (with_reducible refine And.intro (by first | omega | exact ⟨rfl, by omega, by omega, by omega⟩ | exact hmo) ?_)
   refine hK37 _ ?_
   refine AWP_seq_k fun K38 hK38 => ?_
   refine AWP_region (G := G) (T := T_l11Last) T_l11Last_ok ?_
   simp only [go_sem]
   repeat (with_reducible refine And.intro (by first | omega | exact ⟨rfl, by omega, by omega, by omega⟩) ?_)
   refine hK38 _ ?_
   refine AWP_ret ?_
   simp only [hres, go_sem]
   first
     | exact finOk_mk (by rfl) (by decide)
     | refine ⟨?_, finOk_mk (by rfl) (by decide)⟩
       have hk3 : t = (codeL ns).length := by omega
       clear hK1 hK2 hK3 hK4 hK5 hK6 hK7 hK8 hK9 hL10 hK11 hK12 hK37 hK38
       subst hk3
       rfl

theorem l11Make_fn : FnOk Try.prog 100 := fnOk_of Try.func100 rfl (by decide)

def T_l11Make : Tab := fun f => if f = 100 then some (.p K_l11Make) else T_l11Last f
theorem T_l11Make_ok : TabOk Try.prog T_l11Make := fun f k h => by
  unfold T_l11Make at h
  split at h
  · rename_i e; cases h; subst e; exact ⟨l11Make_ok, l11Make_fn⟩
  · exact T_l11Last_ok f k h
attribute [go_sem] T_l11Make K_l11Make


def K_specMakeP : Con := ⟨[.val ((.prod (.int .i64) (.prod (.row 24 (.row 2 (.int .i64))) (.prod (.row 140 (.prod (.int .i64) (.prod (.int .i64) (.prod (.int .i64) (.row 2 (.int .i64)))))) (.row 2 (.int .i64))))))], [⟨(.prod (.int .i64) (.prod (.int .i64) (.prod (.row 24 (.row 2 (.int .i64))) (.prod (.row 174 (.prod (.int .i64) (.prod (.int .i64) (.prod (.int .i64) (.prod (.int .i64) (.prod (.row 2 (.int .i64)) (.int .i64))))))) (.row 2 (.int .i64)))))), true⟩, ⟨.int .i64, true⟩], fun _ => True, fun x => progR x.1⟩
set_option maxRecDepth 100000 in
set_option maxHeartbeats 4000000 in
theorem specMakeP_ok : PureT Try.prog 51 K_specMakeP := by
  refine pure_of_body Try.func51 rfl ?_
  have hres : Try.f51.results.toList = [.cell 2 76, .tmp 3] := rfl
  rintro ⟨⟨(pi : Int), (ts : List (List Int)), (ns : List NodeD), (os : List Int)⟩, _⟩ hc hL
  simp only [K_specMakeP, lensOk, PK.lenOk, glensOk, GP.lenOk, flensOk, GO.lenOk, olensOk, Ty.lenOk, Ty.flat, Bool.and_true, Bool.true_and, Bool.and_false, Bool.false_and, true_and, and_true, implies_true, forall_const] at hL
  simp only [K_specMakeP, St.init, St.initG, Try.ntmps51, go_sem] 
  refine AWP_seq_k fun K1 hK1 => ?_
  refine AWP_region (G := G) (T := T_l11Make) T_l11Make_ok ?_
  simp only [go_sem]
  refine hK1 _ ?_
  refine AWP_seq_k fun K2 hK2 => ?_
  refine AWP_seq_k fun K3 hK3 => ?_
  refine AWP_region (G := G) (T := T_l11Make) T_l11Make_ok ?_
  simp only [go_sem]
  repeat (with_reducible refine And.intro (by first | omega | exact ⟨rfl, by omega, by omega, by omega⟩) ?_)
  refine hK3 _ ?_
  refine AWP_cond rfl ?_ ?_
  ·
   intro c0
   try simp only [decide_eq_true_eq, decide_eq_false_iff_not, Bool.not_eq_true', Bool.not_eq_false', ne_eq, Int.not_lt, Int.not_le] at c0
   refine AWP_seq_k fun K4 hK4 => ?_
   refine AWP_region (G := G) (T := T_l11Make) T_l11Make_ok ?_
   simp only [go_sem]
   repeat (with_reducible refine And.intro (by first | omega | exact ⟨rfl, by omega, by omega, by omega⟩) ?_)
   refine hK4 _ ?_
   refine AWP_ret ?_
   simp only [hres, go_sem]
   first
     | exact finOk_mk (by rfl) (by decide)
     | refine ⟨?_, finOk_mk (by rfl) (by decide)⟩
       first | (rw [progR_f c0]; exact ⟨rfl, rfl⟩) | (rw [progR_f c0])
  ·
   intro c0
   try simp only [decide_eq_true_eq, decide_eq_false_iff_not, Bool.not_eq_true', Bool.not_eq_false', ne_eq, Int.not_lt, Int.not_le] at c0
   refine AWP_skip ?_
   simp only [go_sem]
   refine hK2 _ ?_
   refine AWP_seq_k fun K5 hK5 => ?_
   refine AWP_region (G := G) (T := T_l11Make) T_l11Make_ok ?_
   simp only [go_sem]
   repeat (with_reducible refine And.intro (by first | omega | exact ⟨rfl, by omega, by omega, by omega⟩ | exact c0) ?_)
   refine hK5 _ ?_
   refine AWP_ret ?_
   simp only [hres, go_sem]
   first
     | exact finOk_mk (by rfl) (by decide)
     | refine ⟨?_, finOk_mk (by rfl) (by decide)⟩
       first | (rw [progR_t c0]; exact ⟨rfl, rfl⟩) | (rw [progR_t c0])

theorem specMakeP_fn : FnOk Try.prog 51 := fnOk_of Try.func51 rfl (by decide)

def T_specMakeP : Tab := fun f => if f = 51 then some (.p K_specMakeP) else T_l11Make f
theorem T_specMakeP_ok : TabOk Try.prog T_specMakeP := fun f k h => by
  unfold T_specMakeP at h
  split at h
  · rename_i e; cases h; subst e; exact ⟨specMakeP_ok, specMakeP_fn⟩
  · exact T_l11Make_ok f k h
attribute [go_sem] T_specMakeP K_specMakeP

end Go.Proofs.Ythglggjgjlmhlaa
