/-
  Contracts of functions: makeProgram, MakeProgram.
-/
import Derived.Test.YthglggjgjlmhlaaHp1
namespace Go.Proofs.Ythglggjgjlmhlaa
open Go.RowKit
set_option linter.unusedSimpArgs false
set_option linter.unusedVariables false

def K_makeProgram : Con := ⟨[.val ((.prod (.int .i64) (.prod (.row 24 (.row 2 (.int .i64))) (.prod (.row 140 (.prod (.int .i64) (.prod (.int .i64) (.prod (.int .i64) (.row 2 (.int .i64)))))) (.row 2 (.int .i64))))))], [⟨(.prod (.int .i64) (.prod (.int .i64) (.prod (.row 24 (.row 2 (.int .i64))) (.prod (.row 174 (.prod (.int .i64) (.prod (.int .i64) (.prod (.int .i64) (.prod (.int .i64) (.prod (.row 2 (.int .i64)) (.int .i64))))))) (.row 2 (.int .i64)))))), true⟩], fun x => patchB x.1 = true, fun x => progP x.1⟩
set_option maxRecDepth 100000 in
set_option maxHeartbeats 16000000 in
theorem makeProgram_ok : PureT Try.prog 101 K_makeProgram := by
  refine pure_of_body Try.func101 rfl ?_
  have hres : Try.f101.results.toList = [.cell 2 76] := rfl
  rintro ⟨⟨(pi : Int), (ts : List (List Int)), (ns : List NodeD), (os : List Int)⟩, _⟩ hc hL
  simp only [K_makeProgram, lensOk, PK.lenOk, glensOk, GP.lenOk, flensOk, GO.lenOk, olensOk, Ty.lenOk, Ty.flat, Bool.and_true, Bool.true_and, Bool.and_false, Bool.false_and, true_and, and_true, implies_true, forall_const] at hL
  obtain ⟨⟨lts, lts2⟩, ⟨lns, lns2⟩, los⟩ := hL
  simp only [K_makeProgram, St.init, St.initG, Try.ntmps101, go_sem] 
  have hP : patchB (pi, ts, ns, os) = true := hc
  have hF := (patchB_parts hP).1
  have hn24 : ns.length ≤ 24 := (formedB_parts hF).1
  have ho4 : os.length ≤ 4 := (formedB_parts hF).2.1
  obtain ⟨hcx, hcd, hcl⟩ := codeL_parts hF
  have hcx : ∀ y ∈ codeL ns, InstrOk ns.length y := hcx
  have hcl : (codeL ns).length ≤ 48 := hcl
  have hcd : Diff (codeL ns) := hcd
  have hos : idxs ns.length os = true := (formedB_parts hF).2.2.2.2.2.1
  have hll : (lastP ns.length (codeL ns) os).length = ns.length := lastP_len
  have hzc : inR (ns.length : Int) 0 1099511627776 = true := inR_t (by omega) (by omega)
  have hfl : fitsL ts := ⟨by have := (tabsB_parts (formedB_parts hF).2.2.1).1; simp only at this; omega, fun l hl => by have := ((tabsB_parts (formedB_parts hF).2.2.1).2 l hl).1; omega⟩
  refine AWP_seq_k fun K1 hK1 => ?_
  refine AWP_region (G := G) (T := T_lastReads) T_lastReads_ok ?_
  simp only [go_sem]
  refine hK1 _ ?_
  refine AWP_seq_k fun K2 hK2 => ?_
  refine AWP_draw (G := G) (T := T_lastReads) T_lastReads_ok mixed
    [[], [0], [], [2], [2, 3], [0, 1, 2, 3, 4], [], [0, 1, 2, 3, 4, 5, 6]]
    [[148, 340, 341, 342, 343, 344, 345, 346, 347, 348, 349, 350, 351, 352, 353, 354, 355], [148, 340, 341, 342, 343, 344, 345, 346, 347, 348, 349, 350, 351, 352, 353, 354, 355], [148], [148], [148], [148], [340, 341, 342, 343, 344, 345, 346, 347, 348, 349, 350, 351, 352, 353, 354, 355], []]
    [[], [], [], [], [340, 341, 342, 343, 344, 345, 346, 347, 348, 349, 350, 351, 352, 353, 354, 355], [], [148], []] (by kernel_rfl) (by kernel_rfl) (adrawR_ok (acc := []) ?_)
  simp (maxSteps := 2000000) only [go_sem]
  repeat (with_reducible refine And.intro (by first | exact chk_leaf (by kernel_rfl) | omega | exact ⟨rfl, by omega, by omega, by omega⟩ | exact hfl) ?_)
  refine hK2 _ ?_
  refine AWP_seq_k fun K3 hK3 => ?_
  refine AWP_region (G := G) (T := T_lastReads) T_lastReads_ok ?_
  simp only [go_sem]
  repeat (with_reducible refine And.intro (by first | omega | exact ⟨rfl, by omega, by omega, by omega⟩ | exact hP) ?_)
  refine hK3 _ ?_
  refine AWP_seq_k fun K4 hK4 => ?_
  refine AWP_draw (G := G) (T := T_lastReads) T_lastReads_ok mixed
    [[], [], [0, 1], [], [3], [0, 1, 2, 3, 4], [0, 1, 2, 3, 4, 5], [0, 1, 2, 3, 4, 5, 6], [0, 1, 2, 3, 4, 5, 6, 7]]
    [[], [], [], [436, 437, 438, 439, 440, 441, 442, 443, 444, 445, 446, 447, 448, 449, 450, 451], [436, 437, 438, 439, 440, 441, 442, 443, 444, 445, 446, 447, 448, 449, 450, 451], [], [], [], []]
    [[], [], [436, 437, 438, 439, 440, 441, 442, 443, 444, 445, 446, 447, 448, 449, 450, 451], [], [], [], [], [], []] (by kernel_rfl) (by kernel_rfl) (adrawR_ok (acc := []) ?_)
  simp (maxSteps := 2000000) only [go_sem]
  repeat (with_reducible refine And.intro (by first | exact chk_leaf (by kernel_rfl) | omega | exact ⟨rfl, by omega, by omega, by omega⟩ | exact ⟨hcx, hos, by omega, by omega⟩ | exact hzc) ?_)
  refine hK4 _ ?_
  refine AWP_seq_k fun K5 hK5 => ?_
  refine AWP_region (G := G) (T := T_lastReads) T_lastReads_ok ?_
  simp only [List.nodup_nil, go_sem]
  repeat (with_reducible refine And.intro (by first | omega | exact ⟨rfl, by omega, by omega, by omega⟩) ?_)
  refine hK5 _ ?_
  refine AWP_seq_k fun K6 hK6 => ?_
  refine AWP_seq_k fun K7 hK7 => ?_
  refine AWP_region (G := G) (T := T_lastReads) T_lastReads_ok ?_
  simp only [go_sem]
  refine hK7 _ ?_
  refine AWP_block ?_
  refine AWP_wk (Wk_nilBox _ 148 3 9002 174 ((.prod (.int .i64) (.prod (.int .i64) (.prod (.int .i64) (.prod (.int .i64) (.prod (.row 2 (.int .i64)) (.int .i64))))))) (by decide)) ?_
  simp (maxSteps := 2000000) only [go_sem]
  refine AWP_loop_k (ι := { t : Nat // t ≤ (codeL ns).length }) (fun k => ⟨[zz, .c (.po 116 0), .c (.po 132 0), .c (.po 148 0), zz, .c (.ow 9003), .c (.ow 9004), .c (.ow 9005), zz, zz, zz, zz, zz, zz, zz, zz, zz, zz, zz, zz, zz, zz, zz, zz, zz, zz, zz, .c (.ow 9006), .c (.sc (.int .i64 ((codeL ns).length))), .c (.sc (.int .i64 (k.1))), zz, zz, zz, zz, zz, zz, zz, zz, zz, zz, zz, zz, zz, zz, zz, zz, zz, zz, zz, zz, zz, zz, zz, zz, zz, zz, zz, zz, zz, zz, zz, zz, zz, zz, zz, zz, zz, zz, zz, zz, zz, zz, zz, zz, zz, zz, zz, zz, zz, zz, zz, zz, zz, zz, zz, zz, zz, zz, zz, zz, zz, zz, zz, zz], [(116, .box [.sc (.int .i64 (pi)), .rd [] 24 ((.row 2 (.int .i64))) (ts), .rd [] 140 ((.prod (.int .i64) (.prod (.int .i64) (.prod (.int .i64) (.row 2 (.int .i64)))))) (ns), .rd [] 2 (.int .i64) (os)]), (132, .box [.sc (.int .i64 (0)), .sc (.int .i64 (0)), .sc (.slice none 0 0), .sc (.slice none 0 0), .sc (.slice none 0 0)]), (148, .box [.sc (.int .i64 (pi)), .sc (.int .i64 (0)), .ow 9001, .ow 9002, .sc (.slice none 0 0)]), (9001, .tree 24 (.row 2 (.int .i64)) (ts) none), (9002, .tree 174 (.prod (.int .i64) (.prod (.int .i64) (.prod (.int .i64) (.prod (.int .i64) (.prod (.row 2 (.int .i64)) (.int .i64)))))) ((allocK (lastP ns.length (codeL ns) os) (codeL ns) ns.length k.1).2.2) none), (9003, .row 2 (.int .i64) ((lastP ns.length (codeL ns) os)) []), (9004, .row 2 (.int .i64) ((allocK (lastP ns.length (codeL ns) os) (codeL ns) ns.length k.1).2.1) []), (9005, .row 2 (.int .i64) ((allocK (lastP ns.length (codeL ns) os) (codeL ns) ns.length k.1).1) []), (9006, .tree 174 (.prod (.int .i64) (.prod (.int .i64) (.prod (.int .i64) (.prod (.int .i64) (.prod (.row 2 (.int .i64)) (.int .i64)))))) ((codeL ns)) none)]⟩) (fun k => (codeL ns).length - k.1) ⟨0, by simp⟩ ?_ ?_
  ·
   refine Wk_to (by rfl) ?_
   simp (maxSteps := 2000000) only [go_sem]
   all_goals ((repeat' refine And.intro ?_ ?_) <;> first | rfl | exact List.length_replicate | (congr 1; done) | (simp; done))
  rintro ⟨t, ht⟩ K8 hL8
  have hA : HeldOk ns.length (codeL ns) t (allocK (lastP ns.length (codeL ns) os) (codeL ns) ns.length t) := allocK_ok hcx hcd t (by omega)
  have hAr := hA.regs
  have hAo := hA.out
  have hAs := hA.small
  have hxo : t < (codeL ns).length → InstrOk ns.length ((codeL ns).getD t ((0, 0, 0, 0, [], 0) : InstrD)) := fun h => hcx _ (getD_mem h)
  refine AWP_seq_k fun K9 hK9 => ?_
  refine AWP_region (G := G) (T := T_lastReads) T_lastReads_ok ?_
  simp only [go_sem]
  refine hK9 _ ?_
  refine AWP_seq_k fun K10 hK10 => ?_
  refine AWP_cond rfl ?_ ?_
  ·
   intro c0
   try simp only [decide_eq_true_eq, decide_eq_false_iff_not, Bool.not_eq_true', Bool.not_eq_false', ne_eq, Int.not_lt, Int.not_le] at c0
   obtain ⟨⟨hx1, hx2⟩, hx3, hx4⟩ := hxo (by omega)
   have hx3 : idxs ns.length ((codeL ns).getD t ((0, 0, 0, 0, [], 0) : InstrD)).2.2.2.2.1 = true := hx3
   have hx4 : ((codeL ns).getD t ((0, 0, 0, 0, [], 0) : InstrD)).2.2.2.2.1.length ≤ 3 := hx4
   have hmc : ((codeL ns).getD t ((0, 0, 0, 0, [], 0) : InstrD)).2.2.2.2.1.length ≤ 1000 ∧ idxs (allocK (lastP ns.length (codeL ns) os) (codeL ns) ns.length t).2.1.length ((codeL ns).getD t ((0, 0, 0, 0, [], 0) : InstrD)).2.2.2.2.1 = true := ⟨by omega, by rw [hAr]; exact hx3⟩
   have hml : (List.map (fun q => (allocK (lastP ns.length (codeL ns) os) (codeL ns) ns.length t).2.1.getD (Int.toNat q) 0) ((codeL ns).getD t ((0, 0, 0, 0, [], 0) : InstrD)).2.2.2.2.1).length = ((codeL ns).getD t ((0, 0, 0, 0, [], 0) : InstrD)).2.2.2.2.1.length := List.length_map _
   refine AWP_skip ?_
   simp only [go_sem]
   refine hK10 _ ?_
   refine AWP_seq_k fun K11 hK11 => ?_
   refine AWP_block ?_
   refine AWP_seq_k fun K12 hK12 => ?_
   refine AWP_region (G := G) (T := T_lastReads) T_lastReads_ok ?_
   simp (maxSteps := 2000000) only [go_sem]
   repeat (with_reducible refine And.intro (by first | omega | exact ⟨rfl, by omega, by omega, by omega⟩) ?_)
   refine hK12 _ ?_
   refine AWP_seq_k fun K13 hK13 => ?_
   refine AWP_region (G := G) (T := T_lastReads) T_lastReads_ok ?_
   simp (maxSteps := 2000000) only [List.nodup_nil, go_sem]
   repeat (with_reducible refine And.intro (by first | omega | exact ⟨rfl, by omega, by omega, by omega⟩ | exact hmc) ?_)
   refine hK13 _ ?_
   refine AWP_seq_k fun K14 hK14 => ?_
   refine AWP_seq_k fun K15 hK15 => ?_
   refine AWP_region (G := G) (T := T_lastReads) T_lastReads_ok ?_
   simp only [go_sem]
   repeat (with_reducible refine And.intro (by first | omega | exact ⟨rfl, by omega, by omega, by omega⟩) ?_)
   refine hK15 _ ?_
   refine AWP_cond rfl ?_ ?_
   ·
    intro c1
    try simp only [decide_eq_true_eq, decide_eq_false_iff_not, Bool.not_eq_true', Bool.not_eq_false', ne_eq, Int.not_lt, Int.not_le] at c1
    refine AWP_seq_k fun K16 hK16 => ?_
    refine AWP_region (G := G) (T := T_lastReads) T_lastReads_ok ?_
    simp only [go_sem]
    refine hK16 _ ?_
    refine AWP_seq_k fun K17 hK17 => ?_
    refine AWP_block ?_
    refine AWP_loop_k (ι := { r : Nat // r ≤ (allocK (lastP ns.length (codeL ns) os) (codeL ns) ns.length t).1.length ∧ ∀ j, j < r → (t : Int) < (lastP ns.length (codeL ns) os).getD ((allocK (lastP ns.length (codeL ns) os) (codeL ns) ns.length t).1.getD j 0).toNat 0 }) (fun k' => ⟨[zz, .c (.po 116 0), .c (.po 132 0), .c (.po 148 0), zz, .c (.ow 9003), .c (.ow 9004), .c (.ow 9005), .c (.sc (.int .i64 (t))), .c (.po 244 0), .c (.sc (.int .i64 (k'.1))), zz, zz, zz, zz, zz, zz, zz, zz, zz, zz, zz, zz, zz, zz, zz, zz, .c (.ow 9006), .c (.sc (.int .i64 ((codeL ns).length))), .c (.sc (.int .i64 (t))), zz, zz, zz, zz, zz, zz, zz, zz, zz, zz, zz, zz, zz, zz, zz, zz, zz, zz, zz, zz, zz, zz, zz, zz, zz, zz, zz, zz, zz, zz, zz, zz, zz, zz, zz, zz, zz, zz, zz, zz, zz, zz, zz, zz, zz, zz, zz, zz, zz, zz, zz, zz, zz, zz, zz, zz, zz, zz, zz, zz, zz, zz, zz, zz], [(116, .box [.sc (.int .i64 (pi)), .rd [] 24 ((.row 2 (.int .i64))) (ts), .rd [] 140 ((.prod (.int .i64) (.prod (.int .i64) (.prod (.int .i64) (.row 2 (.int .i64)))))) (ns), .rd [] 2 (.int .i64) (os)]), (132, .box [.sc (.int .i64 (0)), .sc (.int .i64 (0)), .sc (.slice none 0 0), .sc (.slice none 0 0), .sc (.slice none 0 0)]), (148, .box [.sc (.int .i64 (pi)), .sc (.int .i64 (0)), .ow 9001, .ow 9002, .sc (.slice none 0 0)]), (9001, .tree 24 (.row 2 (.int .i64)) (ts) none), (9002, .tree 174 (.prod (.int .i64) (.prod (.int .i64) (.prod (.int .i64) (.prod (.int .i64) (.prod (.row 2 (.int .i64)) (.int .i64)))))) ((allocK (lastP ns.length (codeL ns) os) (codeL ns) ns.length t).2.2) none), (9003, .row 2 (.int .i64) ((lastP ns.length (codeL ns) os)) []), (9004, .row 2 (.int .i64) ((allocK (lastP ns.length (codeL ns) os) (codeL ns) ns.length t).2.1) []), (9005, .row 2 (.int .i64) ((allocK (lastP ns.length (codeL ns) os) (codeL ns) ns.length t).1) []), (9006, .tree 174 (.prod (.int .i64) (.prod (.int .i64) (.prod (.int .i64) (.prod (.int .i64) (.prod (.row 2 (.int .i64)) (.int .i64)))))) ((codeL ns)) none), (244, .box [.sc (.int .i64 (((codeL ns).getD t ((0, 0, 0, 0, [], 0) : InstrD)).1)), .sc (.int .i64 (((codeL ns).getD t ((0, 0, 0, 0, [], 0) : InstrD)).2.1)), .sc (.int .i64 (((codeL ns).getD t ((0, 0, 0, 0, [], 0) : InstrD)).2.2.1)), .sc (.int .i64 (((codeL ns).getD t ((0, 0, 0, 0, [], 0) : InstrD)).2.2.2.1)), .ow 9007, .sc (.int .i64 (((codeL ns).getD t ((0, 0, 0, 0, [], 0) : InstrD)).2.2.2.2.2))]), (9007, .row 2 (.int .i64) (mapR (allocK (lastP ns.length (codeL ns) os) (codeL ns) ns.length t).2.1 ((codeL ns).getD t ((0, 0, 0, 0, [], 0) : InstrD)).2.2.2.2.1) [])]⟩) (fun k' => (allocK (lastP ns.length (codeL ns) os) (codeL ns) ns.length t).1.length - k'.1) ⟨0, by simp, fun j hj => absurd hj (Nat.not_lt_zero _)⟩ ?_ ?_
    ·
     refine Wk_to (by rfl) ?_
     simp (maxSteps := 2000000) only [go_sem]
     all_goals ((repeat' refine And.intro ?_ ?_) <;> first | rfl | exact List.length_replicate | (congr 1; done) | (simp; done))
    rintro ⟨r, hr, hrp⟩ K18 hL18
    have hrg : r < (allocK (lastP ns.length (codeL ns) os) (codeL ns) ns.length t).1.length → 0 ≤ (allocK (lastP ns.length (codeL ns) os) (codeL ns) ns.length t).1.getD r 0 ∧ (allocK (lastP ns.length (codeL ns) os) (codeL ns) ns.length t).1.getD r 0 < ns.length := fun h => hA.rng r h
    refine AWP_seq_k fun K19 hK19 => ?_
    refine AWP_seq_k fun K20 hK20 => ?_
    refine AWP_region (G := G) (T := T_lastReads) T_lastReads_ok ?_
    simp (maxSteps := 2000000) only [go_sem]
    repeat' (first | (with_reducible refine And.intro (by first | omega | exact ⟨rfl, by omega, by omega, by omega⟩ | omega) ?_) | (with_reducible refine gcase_dt (fun g11 => ?_) (fun g11 => ?_)) | (with_reducible refine gcase_df (fun g11 => ?_) (fun g11 => ?_)) | (with_reducible refine gcase_ndt (fun g11 => ?_) (fun g11 => ?_)) | (with_reducible refine gcase_ndf (fun g11 => ?_) (fun g11 => ?_)) | (with_reducible refine gcase_nt (fun g11 => ?_) (fun g11 => ?_)) | (with_reducible refine gcase_nf (fun g11 => ?_) (fun g11 => ?_)) | (with_reducible refine gcase_mk (fun g11 => ?_) (fun g11 => ?_)))
    all_goals
     refine hK20 _ ?_
     refine AWP_cond rfl ?_ ?_
     ·
      intro c2
      try simp only [decide_eq_true_eq, decide_eq_false_iff_not, Bool.not_eq_true', Bool.not_eq_false', ne_eq, Int.not_lt, Int.not_le, Bool.true_eq_false, Bool.false_eq_true] at c2
      all_goals
       refine AWP_skip ?_
       simp only [go_sem]
       refine hK19 _ ?_
       refine AWP_block ?_
       refine AWP_region (G := G) (T := T_lastReads) T_lastReads_ok ?_
       simp only [go_sem]
       refine hL18 ⟨r + 1, by omega, fun j hj => by rcases Nat.lt_succ_iff_lt_or_eq.1 hj with h | h; exact hrp j h; subst h; omega⟩ _ (Wk_to (by rfl) ?_) ?_
       ·
        simp (maxSteps := 2000000) only [go_sem]
        all_goals ((repeat' refine And.intro ?_ ?_) <;> first | rfl | exact wk (by omega))
       ·
        first | (simp only []; omega) | omega | (simp; omega)
     ·
      intro c2
      try simp only [decide_eq_true_eq, decide_eq_false_iff_not, Bool.not_eq_true', Bool.not_eq_false', ne_eq, Int.not_lt, Int.not_le, Bool.true_eq_false, Bool.false_eq_true] at c2
      all_goals
       have hfree : freeR (lastP ns.length (codeL ns) os) t (allocK (lastP ns.length (codeL ns) os) (codeL ns) ns.length t).1 = r := freeR_eq hr hrp (fun h => by omega)
       obtain ⟨hst1, hst2, hst3⟩ := allocK_f (last := (lastP ns.length (codeL ns) os)) (n := ns.length) (show ¬ ((codeL ns).getD t x0).1 = 18 from c1) hfree
       refine AWP_exit ?_
       simp only [go_sem]
       refine hK17 _ ?_
       refine AWP_seq_k fun K21 hK21 => ?_
       refine AWP_seq_k fun K22 hK22 => ?_
       refine AWP_region (G := G) (T := T_lastReads) T_lastReads_ok ?_
       simp only [go_sem]
       repeat (with_reducible refine And.intro (by first | omega | exact ⟨rfl, by omega, by omega, by omega⟩) ?_)
       refine hK22 _ ?_
       refine AWP_cond rfl ?_ ?_
       ·
        intro c3
        try simp only [decide_eq_true_eq, decide_eq_false_iff_not, Bool.not_eq_true', Bool.not_eq_false', ne_eq, Int.not_lt, Int.not_le, Bool.true_eq_false, Bool.false_eq_true] at c3
        all_goals
         refine AWP_region (G := G) (T := T_lastReads) T_lastReads_ok ?_
         simp only [List.nodup_nil, go_sem]
         repeat (with_reducible refine And.intro (by first | omega | exact ⟨rfl, by omega, by omega, by omega⟩ | omega) ?_)
         refine hK21 _ ?_
         refine AWP_draw (G := G) (T := T_lastReads) T_lastReads_ok mixed
           [[], [], [], [], [3], [], [5], [], [], [0, 1, 5, 6], [0, 1, 5, 6, 9], [0, 1, 2, 3, 4, 5, 6, 7, 9, 10], [0, 1, 2, 3, 4, 5, 6, 7, 9, 10, 11], [0, 1, 2, 3, 4, 5, 6, 7, 8, 9, 10, 11, 12], [0, 1, 2, 3, 4, 5, 6, 7, 8, 9, 10, 11, 12, 13]]
           [[], [], [1140, 9005], [1140, 9005], [1140, 9005], [], [], [1140, 9005], [1140, 9004, 9005], [], [], [], [], [], []]
           [[], [], [], [], [], [], [], [], [], [], [1140, 9005], [], [9004], [], []] (by kernel_rfl) (by kernel_rfl) (adrawR_ok (acc := []) ?_)
         simp (maxSteps := 2000000) only [List.nodup_nil, List.length_append, List.length_singleton, List.length_cons, List.length_nil, go_sem]
         repeat (with_reducible refine And.intro (by first | exact chk_leaf (by kernel_rfl) | omega | exact ⟨rfl, by omega, by omega, by omega⟩ | omega) ?_)
         refine hK14 _ ?_
         refine AWP_region (G := G) (T := T_lastReads) T_lastReads_ok ?_
         simp (maxSteps := 2000000) only [List.nodup_cons, List.nodup_nil, List.not_mem_nil, not_false_eq_true, go_sem]
         repeat (with_reducible refine And.intro (by first | omega | exact ⟨rfl, by omega, by omega, by omega⟩ | omega) ?_)
         refine hK11 _ ?_
         refine AWP_region (G := G) (T := T_lastReads) T_lastReads_ok ?_
         simp only [go_sem]
         refine hL8 ⟨t + 1, by omega⟩ _ (Wk_to (by rfl) ?_) ?_
         ·
          simp (maxSteps := 2000000) only [go_sem]
          all_goals ((repeat' refine And.intro ?_ ?_) <;> first | rfl | exact wk (by omega) | (rw [hst1]; done) | (rw [hst1]; first | rfl | exact (setH_t (by omega)).symm | exact (setH_f (by omega)).symm) | (rw [hst2]; done) | (rw [hst2]; rfl) | (rw [hst3]; done) | (rw [hst3]; rfl) | (congr 1; first | (rw [hst3]; done) | (rw [hst3]; rfl)) | (congr 1; done))
         ·
          first | (simp only []; omega) | omega | (simp; omega)
       ·
        intro c3
        try simp only [decide_eq_true_eq, decide_eq_false_iff_not, Bool.not_eq_true', Bool.not_eq_false', ne_eq, Int.not_lt, Int.not_le, Bool.true_eq_false, Bool.false_eq_true] at c3
        all_goals
         refine AWP_skip ?_
         simp only [go_sem]
         refine hK21 _ ?_
         refine AWP_draw (G := G) (T := T_lastReads) T_lastReads_ok mixed
           [[], [], [], [], [3], [], [5], [], [], [0, 1, 5, 6], [0, 1, 5, 6, 9], [0, 1, 2, 3, 4, 5, 6, 7, 9, 10], [0, 1, 2, 3, 4, 5, 6, 7, 9, 10, 11], [0, 1, 2, 3, 4, 5, 6, 7, 8, 9, 10, 11, 12], [0, 1, 2, 3, 4, 5, 6, 7, 8, 9, 10, 11, 12, 13]]
           [[], [], [1140, 9005], [1140, 9005], [1140, 9005], [], [], [1140, 9005], [1140, 9004, 9005], [], [], [], [], [], []]
           [[], [], [], [], [], [], [], [], [], [], [1140, 9005], [], [9004], [], []] (by kernel_rfl) (by kernel_rfl) (adrawR_ok (acc := []) ?_)
         simp (maxSteps := 2000000) only [List.nodup_nil, List.length_append, List.length_singleton, List.length_cons, List.length_nil, go_sem]
         repeat (with_reducible refine And.intro (by first | exact chk_leaf (by kernel_rfl) | omega | exact ⟨rfl, by omega, by omega, by omega⟩ | omega) ?_)
         refine hK14 _ ?_
         refine AWP_region (G := G) (T := T_lastReads) T_lastReads_ok ?_
         simp (maxSteps := 2000000) only [List.nodup_cons, List.nodup_nil, List.not_mem_nil, not_false_eq_true, go_sem]
         repeat (with_reducible refine And.intro (by first | omega | exact ⟨rfl, by omega, by omega, by omega⟩ | omega) ?_)
         refine hK11 _ ?_
         refine AWP_region (G := G) (T := T_lastReads) T_lastReads_ok ?_
         simp only [go_sem]
         refine hL8 ⟨t + 1, by omega⟩ _ (Wk_to (by rfl) ?_) ?_
         ·
          simp (maxSteps := 2000000) only [go_sem]
          all_goals ((repeat' refine And.intro ?_ ?_) <;> first | rfl | exact wk (by omega) | (rw [hst1]; done) | (rw [hst1]; first | rfl | exact (setH_t (by omega)).symm | exact (setH_f (by omega)).symm) | (rw [hst2]; done) | (rw [hst2]; rfl) | (rw [hst3]; done) | (rw [hst3]; rfl) | (congr 1; first | (rw [hst3]; done) | (rw [hst3]; rfl)) | (congr 1; done))
         ·
          first | (simp only []; omega) | omega | (simp; omega)
   ·
    intro c1
    try simp only [decide_eq_true_eq, decide_eq_false_iff_not, Bool.not_eq_true', Bool.not_eq_false', ne_eq, Int.not_lt, Int.not_le] at c1
    obtain ⟨hst1, hst2, hst3⟩ := allocK_t (last := (lastP ns.length (codeL ns) os)) (n := ns.length) (show ((codeL ns).getD t x0).1 = 18 from c1)
    refine AWP_skip ?_
    simp only [go_sem]
    refine hK14 _ ?_
    refine AWP_region (G := G) (T := T_lastReads) T_lastReads_ok ?_
    simp (maxSteps := 2000000) only [List.nodup_cons, List.nodup_nil, List.not_mem_nil, not_false_eq_true, go_sem]
    repeat (with_reducible refine And.intro (by first | omega | exact ⟨rfl, by omega, by omega, by omega⟩ | omega) ?_)
    refine hK11 _ ?_
    refine AWP_region (G := G) (T := T_lastReads) T_lastReads_ok ?_
    simp only [go_sem]
    refine hL8 ⟨t + 1, by omega⟩ _ (Wk_to (by rfl) ?_) ?_
    ·
     simp (maxSteps := 2000000) only [go_sem]
     all_goals ((repeat' refine And.intro ?_ ?_) <;> first | rfl | exact wk (by omega) | (rw [hst1]; done) | (rw [hst1]; first | rfl | exact (setH_t (by omega)).symm | exact (setH_f (by omega)).symm) | (rw [hst2]; done) | (rw [hst2]; rfl) | (rw [hst3]; done) | (rw [hst3]; rfl) | (congr 1; first | (rw [hst3]; done) | (rw [hst3]; rfl)) | (congr 1; done))
    ·
     first | (simp only []; omega) | omega | (simp; omega)
  ·
   intro c0
   try simp only [decide_eq_true_eq, decide_eq_false_iff_not, Bool.not_eq_true', Bool.not_eq_false', ne_eq, Int.not_lt, Int.not_le] at c0
   have hmo : os.length ≤ 1000 ∧ idxs (allocK (lastP ns.length (codeL ns) os) (codeL ns) ns.length t).2.1.length os = true := ⟨by omega, by rw [hAr]; exact hos⟩
   refine AWP_exit ?_
   simp only [go_sem]
   refine hK6 _ ?_
   refine AWP_seq_k fun K23 hK23 => ?_
   refine AWP_region (G := G) (T := T_lastReads) T_lastReads_ok ?_
   simp only [go_sem]
   repeat (with_reducible refine And.intro (by first | omega | exact ⟨rfl, by omega, by omega, by omega⟩) ?_)
   refine hK23 _ ?_
   refine AWP_seq_k fun K24 hK24 => ?_
   refine AWP_region (G := G) (T := T_lastReads) T_lastReads_ok ?_
   simp (maxSteps := 2000000) only [List.nodup_nil, go_sem]
   repeat (with_reducible refine And.intro (by first | omega | exact ⟨rfl, by omega, by omega, by omega⟩ | exact hmo) ?_)
   refine hK24 _ ?_
   refine AWP_seq_k fun K25 hK25 => ?_
   refine AWP_region (G := G) (T := T_lastReads) T_lastReads_ok ?_
   simp only [go_sem]
   repeat (with_reducible refine And.intro (by first | omega | exact ⟨rfl, by omega, by omega, by omega⟩) ?_)
   refine hK25 _ ?_
   refine AWP_ret ?_
   simp only [hres, go_sem]
   first
     | exact finOk_mk (by rfl) (by decide)
     | refine ⟨?_, finOk_mk (by rfl) (by decide)⟩
       have hk3 : t = (codeL ns).length := by omega
       clear hK1 hK2 hK3 hK4 hK5 hK6 hK7 hL8 hK9 hK10 hK23 hK24 hK25
       subst hk3
       rfl

theorem makeProgram_fn : FnOk Try.prog 101 := fnOk_of Try.func101 rfl (by decide)

def T_makeProgram : Tab := fun f => if f = 101 then some (.p K_makeProgram) else T_lastReads f
theorem T_makeProgram_ok : TabOk Try.prog T_makeProgram := fun f k h => by
  unfold T_makeProgram at h
  split at h
  · rename_i e; cases h; subst e; exact ⟨makeProgram_ok, makeProgram_fn⟩
  · exact T_lastReads_ok f k h
attribute [go_sem] T_makeProgram K_makeProgram


def K_implMakeP : Con := ⟨[.val ((.prod (.int .i64) (.prod (.row 24 (.row 2 (.int .i64))) (.prod (.row 140 (.prod (.int .i64) (.prod (.int .i64) (.prod (.int .i64) (.row 2 (.int .i64)))))) (.row 2 (.int .i64))))))], [⟨(.prod (.int .i64) (.prod (.int .i64) (.prod (.row 24 (.row 2 (.int .i64))) (.prod (.row 174 (.prod (.int .i64) (.prod (.int .i64) (.prod (.int .i64) (.prod (.int .i64) (.prod (.row 2 (.int .i64)) (.int .i64))))))) (.row 2 (.int .i64)))))), true⟩, ⟨.int .i64, true⟩], fun _ => True, fun x => progR x.1⟩
set_option maxRecDepth 100000 in
set_option maxHeartbeats 4000000 in
theorem implMakeP_ok : PureT Try.prog 52 K_implMakeP := by
  refine pure_of_body Try.func52 rfl ?_
  have hres : Try.f52.results.toList = [.cell 2 76, .tmp 3] := rfl
  rintro ⟨⟨(pi : Int), (ts : List (List Int)), (ns : List NodeD), (os : List Int)⟩, _⟩ hc hL
  simp only [K_implMakeP, lensOk, PK.lenOk, glensOk, GP.lenOk, flensOk, GO.lenOk, olensOk, Ty.lenOk, Ty.flat, Bool.and_true, Bool.true_and, Bool.and_false, Bool.false_and, true_and, and_true, implies_true, forall_const] at hL
  simp only [K_implMakeP, St.init, St.initG, Try.ntmps52, go_sem] 
  refine AWP_seq_k fun K1 hK1 => ?_
  refine AWP_region (G := G) (T := T_makeProgram) T_makeProgram_ok ?_
  simp only [go_sem]
  refine hK1 _ ?_
  refine AWP_seq_k fun K2 hK2 => ?_
  refine AWP_seq_k fun K3 hK3 => ?_
  refine AWP_region (G := G) (T := T_makeProgram) T_makeProgram_ok ?_
  simp only [go_sem]
  repeat (with_reducible refine And.intro (by first | omega | exact ⟨rfl, by omega, by omega, by omega⟩) ?_)
  refine hK3 _ ?_
  refine AWP_cond rfl ?_ ?_
  ·
   intro c0
   try simp only [decide_eq_true_eq, decide_eq_false_iff_not, Bool.not_eq_true', Bool.not_eq_false', ne_eq, Int.not_lt, Int.not_le] at c0
   refine AWP_seq_k fun K4 hK4 => ?_
   refine AWP_region (G := G) (T := T_makeProgram) T_makeProgram_ok ?_
   simp only [go_sem]
   repeat (with_reducible refine And.intro (by first | omega | exact ⟨rfl, by omega, by omega, by omega⟩) ?_)
   refine hK4 _ ?_
   refine AWP_ret ?_
   simp only [hres, go_sem]
   first
     | exact finOk_mk (by rfl) (by decide)
     | refine ⟨?_, finOk_mk (by rfl) (by decide)⟩
       first | (rw [progR_f c0]; exact ⟨rfl, rfl⟩) | (rw [progR_f c0])
  ·
   intro c0
   try simp only [decide_eq_true_eq, decide_eq_false_iff_not, Bool.not_eq_true', Bool.not_eq_false', ne_eq, Int.not_lt, Int.not_le] at c0
   refine AWP_skip ?_
   simp only [go_sem]
   refine hK2 _ ?_
   refine AWP_seq_k fun K5 hK5 => ?_
   refine AWP_region (G := G) (T := T_makeProgram) T_makeProgram_ok ?_
   simp only [go_sem]
   repeat (with_reducible refine And.intro (by first | omega | exact ⟨rfl, by omega, by omega, by omega⟩ | exact c0) ?_)
   refine hK5 _ ?_
   refine AWP_ret ?_
   simp only [hres, go_sem]
   first
     | exact finOk_mk (by rfl) (by decide)
     | refine ⟨?_, finOk_mk (by rfl) (by decide)⟩
       first | (rw [progR_t c0]; exact ⟨rfl, rfl⟩) | (rw [progR_t c0])

theorem implMakeP_fn : FnOk Try.prog 52 := fnOk_of Try.func52 rfl (by decide)

def T_implMakeP : Tab := fun f => if f = 52 then some (.p K_implMakeP) else T_makeProgram f
theorem T_implMakeP_ok : TabOk Try.prog T_implMakeP := fun f k h => by
  unfold T_implMakeP at h
  split at h
  · rename_i e; cases h; subst e; exact ⟨implMakeP_ok, implMakeP_fn⟩
  · exact T_makeProgram_ok f k h
attribute [go_sem] T_implMakeP K_implMakeP

end Go.Proofs.Ythglggjgjlmhlaa
