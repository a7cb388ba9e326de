/-
  Contracts of functions: FnExactRenderBlock.
-/
import Derived.Test.YthglggjgjlmhlaaGreatHt7
import Derived.Test.YthglggjgjlmhlaaGreatHb20
import Derived.Test.YthglggjgjlmhlaaGreatHb21
import Derived.Test.YthglggjgjlmhlaaGreatGp
namespace Go.Proofs.YthglggjgjlmhlaaGreat
open Go.RowKit
set_option linter.unusedSimpArgs false
set_option linter.unusedVariables false

def T_mHx140 : Tab := fun f => match T_heldS f with
  | some k => some k
  | none => T_implRb f
theorem T_mHx140_ok : TabOk Tryz.prog T_mHx140 := fun f k h => by
  unfold T_mHx140 at h
  split at h
  · rename_i e; cases h; exact T_heldS_ok f _ e
  · exact T_implRb_ok f k h
attribute [go_sem] T_mHx140 T0


def T_mHx141 : Tab := fun f => match T_mHx140 f with
  | some k => some k
  | none => T_specRb f
theorem T_mHx141_ok : TabOk Tryz.prog T_mHx141 := fun f k h => by
  unfold T_mHx141 at h
  split at h
  · rename_i e; cases h; exact T_mHx140_ok f _ e
  · exact T_specRb_ok f k h
attribute [go_sem] T_mHx141 T0


def K_lawRb : Con := ⟨[.val ((.prod (.int .i64) (.prod (.row 24 (.row 2 (.int .i64))) (.prod (.row 71 (.prod (.int .i64) (.prod (.int .i64) (.prod (.int .i64) (.row 2 (.int .i64)))))) (.row 2 (.int .i64)))))), .one (.row 24 (.row 2 (.int .i64))), .val ((.row 24 (.row 2 (.int .i64)))), .val (.int .i64)], [⟨.bool, true⟩], fun _ => True, fun _ => true⟩
set_option maxRecDepth 100000 in
set_option maxHeartbeats 16000000 in
theorem lawRb_tail42 (pi : Int) (ts : List (List Int)) (ns : List NodeD) (os : List Int) (cc : List (List Int)) (ins : List (List Int)) (nn : Int) (U : List (List Int) × List (List Int) × Int) (hU : rbR (pi, ts, ns, os) cc ins nn = U) (hUb0 : cntA List.length U.1 ≤ 1000000) (hUb1 : cntA List.length U.2.1 ≤ 1000000) (f0 : fitsP (pi, ts, ns, os)) (f1 : fitsL cc) (f2 : fitsL ins) (hn1 : decide (1 + (ctP (0, ts, ns, os) : Int) + ((cntA List.length cc : Nat) : Int) + ((cntA List.length ins : Nat) : Int) < 0) = false) : ∀ c, Tryz.f3.body = some c → AWP Tryz.prog (tailAt 31 c) ⟨(zz :: zz :: .c (.rd [] 24 (.row 2 (.int .i64)) (ins)) :: .c (.sc (.int .i64 (nn))) :: .c (.po 164 0) :: .c (.po 180 0) :: zz :: zz :: zz :: zz :: .c (.ow 868) :: .c (.po 276 0) :: .c (.sc (.int .i64 (U.2.2))) :: zz :: zz :: zz :: .c (.ow 1108) :: .c (.po 372 0) :: zz :: zz :: .c (.sc (.int .i64 (1 + ((cntA List.length U.1 : Nat) : Int) + ((cntA List.length U.2.1 : Nat) : Int)))) :: zz :: zz :: zz :: zz :: zz :: zz :: zz :: zz :: zz :: zz :: zz :: zz :: zz :: zz :: zz :: zz :: zz :: zz :: zz :: zz :: zz :: zz :: zz :: zz :: zz :: zz :: zz :: zz :: zz :: zz :: zz :: zz :: zz :: zz :: zz :: zz :: zz :: zz :: zz :: zz :: zz :: zz :: zz :: zz :: zz :: zz :: zz :: zz :: zz :: zz :: zz :: zz :: zz :: zz :: zz :: zz :: zz :: zz :: zz :: zz :: zz :: zz :: zz :: zz :: zz :: zz :: zz :: zz :: zz :: zz :: zz :: zz :: zz :: zz :: zz :: zz :: zz :: zz :: zz :: zz :: zz :: zz :: zz :: zz :: zz :: zz :: zz :: zz :: zz :: zz :: zz :: zz :: zz :: zz :: zz :: zz :: zz :: zz :: zz :: zz :: zz :: zz :: zz :: zz :: zz :: zz :: zz :: zz :: zz :: zz :: zz :: zz :: zz :: zz :: zz :: zz :: zz :: zz :: zz :: zz :: zz :: zz :: zz :: zz :: zz :: zz :: zz :: zz :: zz :: zz :: zz :: zz :: zz :: zz :: zz :: zz :: zz :: zz :: zz :: zz :: zz :: zz :: zz :: zz :: zz :: zz :: zz :: zz :: zz :: zz :: zz :: zz :: zz :: zz :: zz :: zz :: zz :: zz :: zz :: zz :: zz :: zz :: zz :: []), [(164, .box [.sc (.int .i64 (pi)), .rd [] 24 ((.row 2 (.int .i64))) (ts), .rd [] 71 ((.prod (.int .i64) (.prod (.int .i64) (.prod (.int .i64) (.row 2 (.int .i64)))))) (ns), .rd [] 2 (.int .i64) (os)]), (180, .box [.rd [] 24 ((.row 2 (.int .i64))) (cc)]), (276, .box [.rd [] 24 ((.row 2 (.int .i64))) (U.2.1)]), (868, .tree 24 (.row 2 (.int .i64)) (U.1) none), (372, .box [.ow 1109]), (1108, .tree 24 (.row 2 (.int .i64)) (markLL 1 U.1) none), (1109, .tree 24 (.row 2 (.int .i64)) (markLL (1 + ((cntA List.length U.1 : Nat) : Int)) U.2.1) none)]⟩ (RetQ Tryz.prog Tryz.f3.results.toList [⟨.bool, true⟩] true) := by
  refine AWP_tail (code := _) (n := 31) rfl ?_
  simp only [tailAt]
  have hres : Tryz.f3.results.toList = [.tmp 8] := rfl
  have hUh0 : heldA markL List.length (1) (markLL (1) U.1) = 1 + ((cntA List.length U.1 : Nat) : Int) := heldA_mark (fun _ _ => markA_len) markL_idem
  have hUm0 : mkOk (1) (cntA List.length (markLL (1) U.1)) := by rw [markA_cnt (fun (_ : Int) (_ : List Int) => (markA_len : (markL _ _).length = _))]; exact ⟨by omega, by omega⟩
  have hUn0 : decide (1 + ((cntA List.length U.1 : Nat) : Int) < 0) = false := decide_eq_false (by omega)
  have hUh1 : heldA markL List.length (1 + ((cntA List.length U.1 : Nat) : Int)) (markLL (1 + ((cntA List.length U.1 : Nat) : Int)) U.2.1) = 1 + ((cntA List.length U.1 : Nat) : Int) + ((cntA List.length U.2.1 : Nat) : Int) := heldA_mark (fun _ _ => markA_len) markL_idem
  have hUm1 : mkOk (1 + ((cntA List.length U.1 : Nat) : Int)) (cntA List.length (markLL (1 + ((cntA List.length U.1 : Nat) : Int)) U.2.1)) := by rw [markA_cnt (fun (_ : Int) (_ : List Int) => (markA_len : (markL _ _).length = _))]; exact ⟨by omega, by omega⟩
  have hUn1 : decide (1 + ((cntA List.length U.1 : Nat) : Int) + ((cntA List.length U.2.1 : Nat) : Int) < 0) = false := decide_eq_false (by omega)
  refine AWP_seq_k fun K41 hK41 => ?_
  refine AWP_wk (Wk_keep _ [2, 3, 4, 5, 10, 11, 12, 16, 17, 20] [164, 180, 276, 372, 868, 869, 870, 871, 872, 873, 874, 875, 1108, 1109, 1110, 1111, 1112, 1113, 1114, 1115, 2180, 2181, 2182, 2183, 2184, 2185, 2186, 2187]) ?_
  simp (maxSteps := 2000000) only [go_sem]
  refine AWP_draw (G := G) (T := T_mHx141) T_mHx141_ok mixed
    [[], [0], [], [0, 1, 2], [], [0, 1, 2, 3, 4], [], [0, 1, 2, 3, 4, 5, 6], [0, 1, 2, 3, 4, 5, 6, 7], [0, 1, 2, 3, 4, 5, 6, 7, 8], [0, 1, 2, 3, 4, 5, 6, 7, 8], [0, 1, 2, 3, 4, 5, 6, 7, 8], [], [0, 1, 2, 3, 4, 5, 6, 7, 8, 9, 12], [0, 1, 2, 3, 4, 5, 6, 7, 8, 9, 10, 12, 13], [0, 1, 2, 3, 4, 5, 6, 7, 8, 9, 10, 11, 12, 13, 14]]
    [[468], [468], [468, 2436, 2437, 2438, 2439, 2440, 2441, 2442, 2443, 2444, 2445, 2446, 2447, 2448, 2449, 2450, 2451], [468], [30, 468, 2436, 2437, 2438, 2439, 2440, 2441, 2442, 2443, 2444, 2445, 2446, 2447, 2448, 2449, 2450, 2451, 2468, 2469, 2470, 2471, 2472, 2473, 2474, 2475, 2476, 2477, 2478, 2479, 2480, 2481, 2482, 2483], [468], [30, 468, 2436, 2437, 2438, 2439, 2440, 2441, 2442, 2443, 2444, 2445, 2446, 2447, 2448, 2449, 2450, 2451, 2468, 2469, 2470, 2471, 2472, 2473, 2474, 2475, 2476, 2477, 2478, 2479, 2480, 2481, 2482, 2483, 2500, 2501, 2502, 2503, 2504, 2505, 2506, 2507, 2508, 2509, 2510, 2511, 2512, 2513, 2514, 2515], [468], [468], [468], [468], [468], [30, 2436, 2437, 2438, 2439, 2440, 2441, 2442, 2443, 2444, 2445, 2446, 2447, 2448, 2449, 2450, 2451, 2468, 2469, 2470, 2471, 2472, 2473, 2474, 2475, 2476, 2477, 2478, 2479, 2480, 2481, 2482, 2483, 2500, 2501, 2502, 2503, 2504, 2505, 2506, 2507, 2508, 2509, 2510, 2511, 2512, 2513, 2514, 2515, 2532, 2533, 2534, 2535, 2536, 2537, 2538, 2539, 2540, 2541, 2542, 2543, 2544, 2545, 2546, 2547], [], [], []]
    [[], [2436, 2437, 2438, 2439, 2440, 2441, 2442, 2443, 2444, 2445, 2446, 2447, 2448, 2449, 2450, 2451], [], [30, 2468, 2469, 2470, 2471, 2472, 2473, 2474, 2475, 2476, 2477, 2478, 2479, 2480, 2481, 2482, 2483], [], [2500, 2501, 2502, 2503, 2504, 2505, 2506, 2507, 2508, 2509, 2510, 2511, 2512, 2513, 2514, 2515], [], [30, 2532, 2533, 2534, 2535, 2536, 2537, 2538, 2539, 2540, 2541, 2542, 2543, 2544, 2545, 2546, 2547], [], [], [], [], [468], [], [468], []] (by kernel_rfl) (by kernel_rfl) (adrawR_ok (acc := []) ?_)
  simp (maxSteps := 2000000) only [hU, eqD_rfl, hn1, hUh0, hUn0, hUh1, hUn1, go_sem]
  repeat (with_reducible refine And.intro (by first | exact chk_leaf (by kernel_rfl) | omega | exact ⟨rfl, by omega, by omega, by omega⟩ | assumption | exact ⟨by omega, by omega⟩ | (refine ⟨by omega, ?_⟩; simp only [ctP] at *; omega)) ?_)
  refine hK41 _ ?_
  refine AWP_seq_k fun K42 hK42 => ?_
  refine AWP_seq_k fun K43 hK43 => ?_
  refine AWP_wk (Wk_keep _ [10, 11, 12, 16, 17, 20, 22, 23, 24] [276, 372, 468, 868, 869, 870, 871, 872, 873, 874, 875, 1108, 1109, 1110, 1111, 1112, 1113, 1114, 1115, 2180, 2181, 2182, 2183, 2184, 2185, 2186, 2187, 2532, 2533, 2534, 2535, 2536, 2537, 2538, 2539]) ?_
  simp (maxSteps := 2000000) only [go_sem]
  refine AWP_region (G := G) (T := T_mHx141) T_mHx141_ok ?_
  simp (maxSteps := 2000000) only [hU, eqD_rfl, hn1, hUh0, hUn0, hUh1, hUn1, go_sem]
  repeat' (first | (with_reducible refine And.intro (by first | omega | exact ⟨rfl, by omega, by omega, by omega⟩ | assumption | exact ⟨by omega, by omega⟩ | (refine ⟨by omega, ?_⟩; simp only [ctP] at *; omega)) ?_) | (with_reducible refine gcase_dt (fun g43 => ?_) (fun g43 => ?_)) | (with_reducible refine gcase_df (fun g43 => ?_) (fun g43 => ?_)) | (with_reducible refine gcase_ndt (fun g43 => ?_) (fun g43 => ?_)) | (with_reducible refine gcase_ndf (fun g43 => ?_) (fun g43 => ?_)) | (with_reducible refine gcase_nt (fun g43 => ?_) (fun g43 => ?_)) | (with_reducible refine gcase_nf (fun g43 => ?_) (fun g43 => ?_)) | (with_reducible refine gcase_mk (fun g43 => ?_) (fun g43 => ?_)))
  all_goals
   refine hK43 _ ?_
   refine AWP_cond rfl ?_ ?_
   ·
    intro c11
    try simp only [decide_eq_true_eq, decide_eq_false_iff_not, Bool.not_eq_true', Bool.not_eq_false', ne_eq, Int.not_lt, Int.not_le, Bool.true_eq_false, Bool.false_eq_true] at c11
    all_goals
     all_goals first | (cases c11; done) | (simp at c11; done) | omega
   ·
    intro c11
    try simp only [decide_eq_true_eq, decide_eq_false_iff_not, Bool.not_eq_true', Bool.not_eq_false', ne_eq, Int.not_lt, Int.not_le, Bool.true_eq_false, Bool.false_eq_true] at c11
    all_goals
     refine AWP_skip ?_
     simp only [go_sem]
     refine hK42 _ ?_
     refine AWP_seq_k fun K44 hK44 => ?_
     refine AWP_region (G := G) (T := T_mHx141) T_mHx141_ok ?_
     simp only [hU, eqD_rfl, hn1, hUh0, hUn0, hUh1, hUn1, go_sem]
     repeat (with_reducible refine And.intro (by first | omega | exact ⟨rfl, by omega, by omega, by omega⟩ | assumption | exact ⟨by omega, by omega⟩ | (refine ⟨by omega, ?_⟩; simp only [ctP] at *; omega)) ?_)
     refine hK44 _ ?_
     refine AWP_seq_k fun K45 hK45 => ?_
     refine AWP_wk (Wk_keep _ [16, 17, 20, 21] [372, 1108, 1109, 1110, 1111, 1112, 1113, 1114, 1115, 2180, 2181, 2182, 2183, 2184, 2185, 2186, 2187]) ?_
     simp (maxSteps := 2000000) only [go_sem]
     refine AWP_region (G := G) (T := T_mHx141) T_mHx141_ok ?_
     simp only [hU, eqD_rfl, hn1, hUh0, hUn0, hUh1, hUn1, go_sem]
     repeat (with_reducible refine And.intro (by first | omega | exact ⟨rfl, by omega, by omega, by omega⟩ | assumption | exact ⟨by omega, by omega⟩ | (refine ⟨by omega, ?_⟩; simp only [ctP] at *; omega)) ?_)
     refine hK45 _ ?_
     refine AWP_seq_k fun K46 hK46 => ?_
     refine AWP_seq_k fun K47 hK47 => ?_
     refine AWP_region (G := G) (T := T_mHx141) T_mHx141_ok ?_
     simp only [hU, eqD_rfl, hn1, hUh0, hUn0, hUh1, hUn1, go_sem]
     repeat (with_reducible refine And.intro (by first | omega | exact ⟨rfl, by omega, by omega, by omega⟩ | assumption | exact ⟨by omega, by omega⟩ | (refine ⟨by omega, ?_⟩; simp only [ctP] at *; omega)) ?_)
     refine hK47 _ ?_
     refine AWP_cond rfl ?_ ?_
     ·
      intro c12
      try simp only [decide_eq_true_eq, decide_eq_false_iff_not, Bool.not_eq_true', Bool.not_eq_false', ne_eq, Int.not_lt, Int.not_le, Bool.true_eq_false, Bool.false_eq_true] at c12
      all_goals
       all_goals first | (cases c12; done) | (simp at c12; done) | omega
     ·
      intro c12
      try simp only [decide_eq_true_eq, decide_eq_false_iff_not, Bool.not_eq_true', Bool.not_eq_false', ne_eq, Int.not_lt, Int.not_le, Bool.true_eq_false, Bool.false_eq_true] at c12
      all_goals
       refine AWP_skip ?_
       simp only [go_sem]
       refine hK46 _ ?_
       refine AWP_seq_k fun K48 hK48 => ?_
       refine AWP_wk (Wk_keep _ [17, 20, 21] [372, 1108, 1109, 1110, 1111, 1112, 1113, 1114, 1115, 2180, 2181, 2182, 2183, 2184, 2185, 2186, 2187, 2868, 2869, 2870, 2871, 2872, 2873, 2874, 2875]) ?_
       simp (maxSteps := 2000000) only [go_sem]
       refine AWP_region (G := G) (T := T_mHx141) T_mHx141_ok ?_
       simp only [hU, eqD_rfl, hn1, hUh0, hUn0, hUh1, hUn1, go_sem]
       repeat (with_reducible refine And.intro (by first | omega | exact ⟨rfl, by omega, by omega, by omega⟩ | assumption | exact ⟨by omega, by omega⟩ | (refine ⟨by omega, ?_⟩; simp only [ctP] at *; omega)) ?_)
       refine hK48 _ ?_
       refine AWP_seq_k fun K49 hK49 => ?_
       refine AWP_seq_k fun K50 hK50 => ?_
       refine AWP_region (G := G) (T := T_mHx141) T_mHx141_ok ?_
       simp only [hU, eqD_rfl, hn1, hUh0, hUn0, hUh1, hUn1, go_sem]
       repeat (with_reducible refine And.intro (by first | omega | exact ⟨rfl, by omega, by omega, by omega⟩ | assumption | exact ⟨by omega, by omega⟩ | (refine ⟨by omega, ?_⟩; simp only [ctP] at *; omega)) ?_)
       refine hK50 _ ?_
       refine AWP_cond rfl ?_ ?_
       ·
        intro c13
        try simp only [decide_eq_true_eq, decide_eq_false_iff_not, Bool.not_eq_true', Bool.not_eq_false', ne_eq, Int.not_lt, Int.not_le, Bool.true_eq_false, Bool.false_eq_true] at c13
        all_goals
         all_goals first | (cases c13; done) | (simp at c13; done) | omega
       ·
        intro c13
        try simp only [decide_eq_true_eq, decide_eq_false_iff_not, Bool.not_eq_true', Bool.not_eq_false', ne_eq, Int.not_lt, Int.not_le, Bool.true_eq_false, Bool.false_eq_true] at c13
        all_goals
         refine AWP_skip ?_
         simp only [go_sem]
         refine hK49 _ ?_
         refine AWP_seq_k fun K51 hK51 => ?_
         refine AWP_seq_k fun K52 hK52 => ?_
         refine AWP_region (G := G) (T := T_mHx141) T_mHx141_ok ?_
         simp only [hU, eqD_rfl, hn1, hUh0, hUn0, hUh1, hUn1, go_sem]
         repeat (with_reducible refine And.intro (by first | omega | exact ⟨rfl, by omega, by omega, by omega⟩ | assumption | exact ⟨by omega, by omega⟩ | (refine ⟨by omega, ?_⟩; simp only [ctP] at *; omega)) ?_)
         refine hK52 _ ?_
         refine AWP_cond rfl ?_ ?_
         ·
          intro c14
          try simp only [decide_eq_true_eq, decide_eq_false_iff_not, Bool.not_eq_true', Bool.not_eq_false', ne_eq, Int.not_lt, Int.not_le, Bool.true_eq_false, Bool.false_eq_true] at c14
          all_goals
           all_goals first | (cases c14; done) | (simp at c14; done) | omega
         ·
          intro c14
          try simp only [decide_eq_true_eq, decide_eq_false_iff_not, Bool.not_eq_true', Bool.not_eq_false', ne_eq, Int.not_lt, Int.not_le, Bool.true_eq_false, Bool.false_eq_true] at c14
          all_goals
           refine AWP_skip ?_
           simp only [go_sem]
           refine hK51 _ ?_
           refine AWP_seq_k fun K53 hK53 => ?_
           refine AWP_region (G := G) (T := T_mHx141) T_mHx141_ok ?_
           simp only [hU, eqD_rfl, hn1, hUh0, hUn0, hUh1, hUn1, go_sem]
           repeat (with_reducible refine And.intro (by first | omega | exact ⟨rfl, by omega, by omega, by omega⟩ | assumption | exact ⟨by omega, by omega⟩ | (refine ⟨by omega, ?_⟩; simp only [ctP] at *; omega)) ?_)
           refine hK53 _ ?_
           refine AWP_ret ?_
           simp only [hres, go_sem]
           first
             | exact finOk_mk (by rfl) (by decide)
             | refine ⟨?_, finOk_mk (by rfl) (by decide)⟩
               rfl
set_option maxRecDepth 100000 in
set_option maxHeartbeats 16000000 in
theorem lawRb_tail30 (pi : Int) (ts : List (List Int)) (ns : List NodeD) (os : List Int) (cc : List (List Int)) (ins : List (List Int)) (nn : Int) (U : List (List Int) × List (List Int) × Int) (hU : rbR (pi, ts, ns, os) cc ins nn = U) (hUb0 : cntA List.length U.1 ≤ 1000000) (hUb1 : cntA List.length U.2.1 ≤ 1000000) (f0 : fitsP (pi, ts, ns, os)) (f1 : fitsL cc) (f2 : fitsL ins) (hn1 : decide (1 + (ctP (0, ts, ns, os) : Int) + ((cntA List.length cc : Nat) : Int) + ((cntA List.length ins : Nat) : Int) < 0) = false) : ∀ c, Tryz.f3.body = some c → AWP Tryz.prog (tailAt 22 c) ⟨(zz :: zz :: .c (.rd [] 24 (.row 2 (.int .i64)) (ins)) :: .c (.sc (.int .i64 (nn))) :: .c (.po 164 0) :: .c (.po 180 0) :: zz :: zz :: zz :: zz :: .c (.ow 868) :: .c (.po 276 0) :: .c (.sc (.int .i64 (U.2.2))) :: zz :: zz :: zz :: .c (.ow 1108) :: .c (.po 372 0) :: zz :: zz :: zz :: zz :: zz :: zz :: zz :: zz :: zz :: zz :: zz :: zz :: zz :: zz :: zz :: zz :: zz :: zz :: zz :: zz :: zz :: zz :: zz :: zz :: zz :: zz :: zz :: zz :: zz :: zz :: zz :: zz :: zz :: zz :: zz :: zz :: zz :: zz :: zz :: zz :: zz :: zz :: zz :: zz :: zz :: zz :: zz :: zz :: zz :: zz :: zz :: zz :: zz :: zz :: zz :: zz :: zz :: zz :: zz :: zz :: zz :: zz :: zz :: zz :: zz :: zz :: zz :: zz :: zz :: zz :: zz :: zz :: zz :: zz :: zz :: zz :: zz :: zz :: zz :: zz :: zz :: zz :: zz :: zz :: zz :: zz :: zz :: zz :: zz :: zz :: zz :: zz :: zz :: zz :: zz :: zz :: zz :: zz :: zz :: zz :: zz :: zz :: zz :: zz :: zz :: zz :: zz :: zz :: zz :: zz :: zz :: zz :: zz :: zz :: zz :: zz :: zz :: zz :: zz :: zz :: zz :: zz :: zz :: zz :: zz :: zz :: zz :: zz :: zz :: zz :: zz :: zz :: zz :: zz :: zz :: zz :: zz :: zz :: zz :: zz :: zz :: zz :: zz :: zz :: zz :: zz :: zz :: zz :: zz :: zz :: zz :: zz :: zz :: zz :: zz :: zz :: zz :: zz :: zz :: zz :: zz :: zz :: zz :: zz :: zz :: zz :: []), [(164, .box [.sc (.int .i64 (pi)), .rd [] 24 ((.row 2 (.int .i64))) (ts), .rd [] 71 ((.prod (.int .i64) (.prod (.int .i64) (.prod (.int .i64) (.row 2 (.int .i64)))))) (ns), .rd [] 2 (.int .i64) (os)]), (180, .box [.rd [] 24 ((.row 2 (.int .i64))) (cc)]), (276, .box [.rd [] 24 ((.row 2 (.int .i64))) (U.2.1)]), (868, .tree 24 (.row 2 (.int .i64)) (U.1) none), (372, .box [.ow 1109]), (1108, .tree 24 (.row 2 (.int .i64)) (U.1) none), (1109, .tree 24 (.row 2 (.int .i64)) (U.2.1) none)]⟩ (RetQ Tryz.prog Tryz.f3.results.toList [⟨.bool, true⟩] true) := by
  refine AWP_tail (code := _) (n := 22) rfl ?_
  simp only [tailAt]
  have hres : Tryz.f3.results.toList = [.tmp 8] := rfl
  have hUh0 : heldA markL List.length (1) (markLL (1) U.1) = 1 + ((cntA List.length U.1 : Nat) : Int) := heldA_mark (fun _ _ => markA_len) markL_idem
  have hUm0 : mkOk (1) (cntA List.length (markLL (1) U.1)) := by rw [markA_cnt (fun (_ : Int) (_ : List Int) => (markA_len : (markL _ _).length = _))]; exact ⟨by omega, by omega⟩
  have hUn0 : decide (1 + ((cntA List.length U.1 : Nat) : Int) < 0) = false := decide_eq_false (by omega)
  have hUh1 : heldA markL List.length (1 + ((cntA List.length U.1 : Nat) : Int)) (markLL (1 + ((cntA List.length U.1 : Nat) : Int)) U.2.1) = 1 + ((cntA List.length U.1 : Nat) : Int) + ((cntA List.length U.2.1 : Nat) : Int) := heldA_mark (fun _ _ => markA_len) markL_idem
  have hUm1 : mkOk (1 + ((cntA List.length U.1 : Nat) : Int)) (cntA List.length (markLL (1 + ((cntA List.length U.1 : Nat) : Int)) U.2.1)) := by rw [markA_cnt (fun (_ : Int) (_ : List Int) => (markA_len : (markL _ _).length = _))]; exact ⟨by omega, by omega⟩
  have hUn1 : decide (1 + ((cntA List.length U.1 : Nat) : Int) + ((cntA List.length U.2.1 : Nat) : Int) < 0) = false := decide_eq_false (by omega)
  refine AWP_seq_k fun K31 hK31 => ?_
  refine AWP_region (G := G) (T := T_mHx141) T_mHx141_ok ?_
  simp only [hU, eqD_rfl, hn1, hUh0, hUn0, hUh1, hUn1, go_sem]
  repeat (with_reducible refine And.intro (by first | omega | exact ⟨rfl, by omega, by omega, by omega⟩ | assumption | exact ⟨by omega, by omega⟩ | (refine ⟨by omega, ?_⟩; simp only [ctP] at *; omega)) ?_)
  refine hK31 _ ?_
  refine AWP_seq_k fun K32 hK32 => ?_
  refine AWP_wk (Wk_keep _ [2, 3, 4, 5, 10, 11, 12, 16, 17, 20] [164, 180, 276, 372, 868, 869, 870, 871, 872, 873, 874, 875, 1108, 1109, 1110, 1111, 1112, 1113, 1114, 1115]) ?_
  simp (maxSteps := 2000000) only [go_sem]
  refine AWP_region (G := G) (T := T_mHx141) T_mHx141_ok ?_
  simp only [hU, eqD_rfl, hn1, hUh0, hUn0, hUh1, hUn1, go_sem]
  repeat (with_reducible refine And.intro (by first | omega | exact ⟨rfl, by omega, by omega, by omega⟩ | assumption | exact ⟨by omega, by omega⟩ | (refine ⟨by omega, ?_⟩; simp only [ctP] at *; omega)) ?_)
  refine hK32 _ ?_
  refine AWP_seq_k fun K33 hK33 => ?_
  refine AWP_wk (Wk_keep _ [2, 3, 4, 5, 10, 11, 12, 16, 17, 20] [164, 180, 276, 372, 868, 869, 870, 871, 872, 873, 874, 875, 1108, 1109, 1110, 1111, 1112, 1113, 1114, 1115, 2132, 2133, 2134, 2135, 2136, 2137, 2138, 2139]) ?_
  simp (maxSteps := 2000000) only [go_sem]
  refine AWP_region (G := G) (T := T_mHx141) T_mHx141_ok ?_
  simp only [hU, eqD_rfl, hn1, hUh0, hUn0, hUh1, hUn1, go_sem]
  repeat (with_reducible refine And.intro (by first | omega | exact ⟨rfl, by omega, by omega, by omega⟩ | assumption | exact ⟨by omega, by omega⟩ | (refine ⟨by omega, ?_⟩; simp only [ctP] at *; omega)) ?_)
  refine hK33 _ ?_
  refine AWP_seq_k fun K34 hK34 => ?_
  refine AWP_region (G := G) (T := T_mHx141) T_mHx141_ok ?_
  simp only [hU, eqD_rfl, hn1, hUh0, hUn0, hUh1, hUn1, go_sem]
  repeat (with_reducible refine And.intro (by first | omega | exact ⟨rfl, by omega, by omega, by omega⟩ | assumption | exact ⟨by omega, by omega⟩ | (refine ⟨by omega, ?_⟩; simp only [ctP] at *; omega)) ?_)
  refine hK34 _ ?_
  refine AWP_seq_k fun K35 hK35 => ?_
  refine AWP_wk (Wk_keep _ [2, 3, 4, 5, 10, 11, 12, 16, 17, 20, 21] [164, 180, 276, 372, 868, 869, 870, 871, 872, 873, 874, 875, 1108, 1109, 1110, 1111, 1112, 1113, 1114, 1115, 2180, 2181, 2182, 2183, 2184, 2185, 2186, 2187]) ?_
  simp (maxSteps := 2000000) only [go_sem]
  refine AWP_region (G := G) (T := T_mHx141) T_mHx141_ok ?_
  simp only [hU, eqD_rfl, hn1, hUh0, hUn0, hUh1, hUn1, go_sem]
  repeat (with_reducible refine And.intro (by first | omega | exact ⟨rfl, by omega, by omega, by omega⟩ | assumption | exact ⟨by omega, by omega⟩ | (refine ⟨by omega, ?_⟩; simp only [ctP] at *; omega)) ?_)
  refine hK35 _ ?_
  refine AWP_seq_k fun K36 hK36 => ?_
  refine AWP_seq_k fun K37 hK37 => ?_
  refine AWP_region (G := G) (T := T_mHx141) T_mHx141_ok ?_
  simp only [hU, eqD_rfl, hn1, hUh0, hUn0, hUh1, hUn1, go_sem]
  repeat (with_reducible refine And.intro (by first | omega | exact ⟨rfl, by omega, by omega, by omega⟩ | assumption | exact ⟨by omega, by omega⟩ | (refine ⟨by omega, ?_⟩; simp only [ctP] at *; omega)) ?_)
  refine hK37 _ ?_
  refine AWP_cond rfl ?_ ?_
  ·
   intro c8
   try simp only [decide_eq_true_eq, decide_eq_false_iff_not, Bool.not_eq_true', Bool.not_eq_false', ne_eq, Int.not_lt, Int.not_le] at c8
   all_goals first | (cases c8; done) | (simp at c8; done) | omega
  ·
   intro c8
   try simp only [decide_eq_true_eq, decide_eq_false_iff_not, Bool.not_eq_true', Bool.not_eq_false', ne_eq, Int.not_lt, Int.not_le] at c8
   refine AWP_skip ?_
   simp only [go_sem]
   refine hK36 _ ?_
   refine AWP_seq_k fun K38 hK38 => ?_
   refine AWP_wk (Wk_keep _ [2, 3, 4, 5, 10, 11, 12, 16, 17, 20, 21] [164, 180, 276, 372, 868, 869, 870, 871, 872, 873, 874, 875, 1108, 1109, 1110, 1111, 1112, 1113, 1114, 1115, 2180, 2181, 2182, 2183, 2184, 2185, 2186, 2187, 2228, 2229, 2230, 2231, 2232, 2233, 2234, 2235]) ?_
   simp (maxSteps := 2000000) only [go_sem]
   refine AWP_region (G := G) (T := T_mHx141) T_mHx141_ok ?_
   simp only [hU, eqD_rfl, hn1, hUh0, hUn0, hUh1, hUn1, go_sem]
   repeat (with_reducible refine And.intro (by first | omega | exact ⟨rfl, by omega, by omega, by omega⟩ | assumption | exact ⟨by omega, by omega⟩ | (refine ⟨by omega, ?_⟩; simp only [ctP] at *; omega)) ?_)
   refine hK38 _ ?_
   refine AWP_seq_k fun K39 hK39 => ?_
   refine AWP_seq_k fun K40 hK40 => ?_
   refine AWP_region (G := G) (T := T_mHx141) T_mHx141_ok ?_
   simp only [hU, eqD_rfl, hn1, hUh0, hUn0, hUh1, hUn1, go_sem]
   repeat (with_reducible refine And.intro (by first | omega | exact ⟨rfl, by omega, by omega, by omega⟩ | assumption | exact ⟨by omega, by omega⟩ | (refine ⟨by omega, ?_⟩; simp only [ctP] at *; omega)) ?_)
   refine hK40 _ ?_
   refine AWP_cond rfl ?_ ?_
   ·
    intro c9
    try simp only [decide_eq_true_eq, decide_eq_false_iff_not, Bool.not_eq_true', Bool.not_eq_false', ne_eq, Int.not_lt, Int.not_le] at c9
    all_goals first | (cases c9; done) | (simp at c9; done) | omega
   ·
    intro c9
    try simp only [decide_eq_true_eq, decide_eq_false_iff_not, Bool.not_eq_true', Bool.not_eq_false', ne_eq, Int.not_lt, Int.not_le] at c9
    refine AWP_skip ?_
    simp only [go_sem]
    refine hK39 _ ?_
    refine AWP_seq_j True ⟨(zz :: zz :: .c (.rd [] 24 (.row 2 (.int .i64)) (ins)) :: .c (.sc (.int .i64 (nn))) :: .c (.po 164 0) :: .c (.po 180 0) :: zz :: zz :: zz :: zz :: .c (.ow 868) :: .c (.po 276 0) :: .c (.sc (.int .i64 (U.2.2))) :: zz :: zz :: zz :: .c (.ow 1108) :: .c (.po 372 0) :: zz :: zz :: .c (.sc (.int .i64 (1 + ((cntA List.length U.1 : Nat) : Int) + ((cntA List.length U.2.1 : Nat) : Int)))) :: zz :: zz :: zz :: zz :: zz :: zz :: zz :: zz :: zz :: zz :: zz :: zz :: zz :: zz :: zz :: zz :: zz :: zz :: zz :: zz :: zz :: zz :: zz :: zz :: zz :: zz :: zz :: zz :: zz :: zz :: zz :: zz :: zz :: zz :: zz :: zz :: zz :: zz :: zz :: zz :: zz :: zz :: zz :: zz :: zz :: zz :: zz :: zz :: zz :: zz :: zz :: zz :: zz :: zz :: zz :: zz :: zz :: zz :: zz :: zz :: zz :: zz :: zz :: zz :: zz :: zz :: zz :: zz :: zz :: zz :: zz :: zz :: zz :: zz :: zz :: zz :: zz :: zz :: zz :: zz :: zz :: zz :: zz :: zz :: zz :: zz :: zz :: zz :: zz :: zz :: zz :: zz :: zz :: zz :: zz :: zz :: zz :: zz :: zz :: zz :: zz :: zz :: zz :: zz :: zz :: zz :: zz :: zz :: zz :: zz :: zz :: zz :: zz :: zz :: zz :: zz :: zz :: zz :: zz :: zz :: zz :: zz :: zz :: zz :: zz :: zz :: zz :: zz :: zz :: zz :: zz :: zz :: zz :: zz :: zz :: zz :: zz :: zz :: zz :: zz :: zz :: zz :: zz :: zz :: zz :: zz :: zz :: zz :: zz :: zz :: zz :: zz :: zz :: zz :: zz :: zz :: zz :: zz :: zz :: zz :: zz :: zz :: zz :: []), [(164, .box [.sc (.int .i64 (pi)), .rd [] 24 ((.row 2 (.int .i64))) (ts), .rd [] 71 ((.prod (.int .i64) (.prod (.int .i64) (.prod (.int .i64) (.row 2 (.int .i64)))))) (ns), .rd [] 2 (.int .i64) (os)]), (180, .box [.rd [] 24 ((.row 2 (.int .i64))) (cc)]), (276, .box [.rd [] 24 ((.row 2 (.int .i64))) (U.2.1)]), (868, .tree 24 (.row 2 (.int .i64)) (U.1) none), (372, .box [.ow 1109]), (1108, .tree 24 (.row 2 (.int .i64)) (markLL 1 U.1) none), (1109, .tree 24 (.row 2 (.int .i64)) (markLL (1 + ((cntA List.length U.1 : Nat) : Int)) U.2.1) none)]⟩ ?_ fun K54 hK54 => ?_
    · exact fun _ => lawRb_tail42 pi ts ns os cc ins nn U hU hUb0 hUb1 f0 f1 f2 hn1 _ rfl
    refine AWP_seq_k fun K55 hK55 => ?_
    refine AWP_region (G := G) (T := T_mHx141) T_mHx141_ok ?_
    simp only [hU, eqD_rfl, hn1, hUh0, hUn0, hUh1, hUn1, go_sem]
    repeat (with_reducible refine And.intro (by first | omega | exact ⟨rfl, by omega, by omega, by omega⟩ | assumption | exact ⟨by omega, by omega⟩ | (refine ⟨by omega, ?_⟩; simp only [ctP] at *; omega)) ?_)
    refine hK55 _ ?_
    refine AWP_cond rfl ?_ ?_
    ·
     intro c10
     try simp only [decide_eq_true_eq, decide_eq_false_iff_not, Bool.not_eq_true', Bool.not_eq_false', ne_eq, Int.not_lt, Int.not_le] at c10
     all_goals first | (cases c10; done) | (simp at c10; done) | omega
    ·
     intro c10
     try simp only [decide_eq_true_eq, decide_eq_false_iff_not, Bool.not_eq_true', Bool.not_eq_false', ne_eq, Int.not_lt, Int.not_le] at c10
     refine AWP_skip ?_
     simp only [go_sem]
     refine hK54 _ (Wk_to (by rfl) ?_) trivial
     simp (maxSteps := 2000000) only [go_sem]
     all_goals (first | rfl | ((repeat' refine And.intro ?_ ?_) <;> first | rfl | exact wk (by omega) | simp))
set_option maxRecDepth 100000 in
set_option maxHeartbeats 16000000 in
theorem lawRb_tail16 (pi : Int) (ts : List (List Int)) (ns : List NodeD) (os : List Int) (cc : List (List Int)) (ins : List (List Int)) (nn : Int) (U : List (List Int) × List (List Int) × Int) (hU : rbR (pi, ts, ns, os) cc ins nn = U) (hUb0 : cntA List.length U.1 ≤ 1000000) (hUb1 : cntA List.length U.2.1 ≤ 1000000) (f0 : fitsP (pi, ts, ns, os)) (f1 : fitsL cc) (f2 : fitsL ins) (hn1 : decide (1 + (ctP (0, ts, ns, os) : Int) + ((cntA List.length cc : Nat) : Int) + ((cntA List.length ins : Nat) : Int) < 0) = false) (hq0 : ctP (0, ts, ns, os) ≤ 4000000) (hq1 : cntA List.length cc ≤ 4000000) (hq2 : cntA List.length ins ≤ 4000000) : ∀ c, Tryz.f3.body = some c → AWP Tryz.prog (tailAt 13 c) ⟨(zz :: zz :: .c (.rd [] 24 (.row 2 (.int .i64)) (ins)) :: .c (.sc (.int .i64 (nn))) :: .c (.po 164 0) :: .c (.po 180 0) :: zz :: zz :: zz :: zz :: .c (.ow 868) :: .c (.po 276 0) :: .c (.sc (.int .i64 (U.2.2))) :: .c (.po 308 0) :: .c (.po 324 0) :: .c (.ow 1012) :: .c (.ow 1108) :: .c (.po 372 0) :: .c (.sc (.int .i64 (U.2.2))) :: zz :: zz :: zz :: zz :: zz :: zz :: zz :: zz :: zz :: zz :: zz :: zz :: zz :: zz :: zz :: zz :: zz :: zz :: zz :: zz :: zz :: zz :: zz :: zz :: zz :: zz :: zz :: zz :: zz :: zz :: zz :: zz :: zz :: zz :: zz :: zz :: zz :: zz :: zz :: zz :: zz :: zz :: zz :: zz :: zz :: zz :: zz :: zz :: zz :: zz :: zz :: zz :: zz :: zz :: zz :: zz :: zz :: zz :: zz :: zz :: zz :: zz :: zz :: zz :: zz :: zz :: zz :: zz :: zz :: zz :: zz :: zz :: zz :: zz :: zz :: zz :: zz :: zz :: zz :: zz :: zz :: zz :: zz :: zz :: zz :: zz :: zz :: zz :: zz :: zz :: zz :: zz :: zz :: zz :: zz :: zz :: zz :: zz :: zz :: zz :: zz :: zz :: zz :: zz :: zz :: zz :: zz :: zz :: zz :: zz :: zz :: zz :: zz :: zz :: zz :: zz :: zz :: zz :: zz :: zz :: zz :: zz :: zz :: zz :: zz :: zz :: zz :: zz :: zz :: zz :: zz :: zz :: zz :: zz :: zz :: zz :: zz :: zz :: zz :: zz :: zz :: zz :: zz :: zz :: zz :: zz :: zz :: zz :: zz :: zz :: zz :: zz :: zz :: zz :: zz :: zz :: zz :: zz :: zz :: zz :: zz :: zz :: zz :: zz :: zz :: []), [(164, .box [.sc (.int .i64 (pi)), .rd [] 24 ((.row 2 (.int .i64))) (ts), .rd [] 71 ((.prod (.int .i64) (.prod (.int .i64) (.prod (.int .i64) (.row 2 (.int .i64)))))) (ns), .rd [] 2 (.int .i64) (os)]), (180, .box [.rd [] 24 ((.row 2 (.int .i64))) (cc)]), (276, .box [.rd [] 24 ((.row 2 (.int .i64))) (U.2.1)]), (868, .tree 24 (.row 2 (.int .i64)) (U.1) none), (372, .box [.ow 1109]), (1108, .tree 24 (.row 2 (.int .i64)) (U.1) none), (1109, .tree 24 (.row 2 (.int .i64)) (U.2.1) none), (308, .box [.sc (.int .i64 (pi)), .ow 948, .ow 949, .ow 950]), (948, .tree 24 (.row 2 (.int .i64)) (ts) none), (949, .tree 75 ((.prod (.int .i64) (.prod (.int .i64) (.prod (.int .i64) (.row 2 (.int .i64)))))) (ns) none), (950, .row 2 (.int .i64) (os) []), (324, .box [.ow 980]), (980, .tree 24 (.row 2 (.int .i64)) (cc) none), (1012, .tree 24 (.row 2 (.int .i64)) (ins) none)]⟩ (RetQ Tryz.prog Tryz.f3.results.toList [⟨.bool, true⟩] true) := by
  refine AWP_tail (code := _) (n := 13) rfl ?_
  simp only [tailAt]
  have hres : Tryz.f3.results.toList = [.tmp 8] := rfl
  have hUh0 : heldA markL List.length (1) (markLL (1) U.1) = 1 + ((cntA List.length U.1 : Nat) : Int) := heldA_mark (fun _ _ => markA_len) markL_idem
  have hUm0 : mkOk (1) (cntA List.length (markLL (1) U.1)) := by rw [markA_cnt (fun (_ : Int) (_ : List Int) => (markA_len : (markL _ _).length = _))]; exact ⟨by omega, by omega⟩
  have hUn0 : decide (1 + ((cntA List.length U.1 : Nat) : Int) < 0) = false := decide_eq_false (by omega)
  have hUh1 : heldA markL List.length (1 + ((cntA List.length U.1 : Nat) : Int)) (markLL (1 + ((cntA List.length U.1 : Nat) : Int)) U.2.1) = 1 + ((cntA List.length U.1 : Nat) : Int) + ((cntA List.length U.2.1 : Nat) : Int) := heldA_mark (fun _ _ => markA_len) markL_idem
  have hUm1 : mkOk (1 + ((cntA List.length U.1 : Nat) : Int)) (cntA List.length (markLL (1 + ((cntA List.length U.1 : Nat) : Int)) U.2.1)) := by rw [markA_cnt (fun (_ : Int) (_ : List Int) => (markA_len : (markL _ _).length = _))]; exact ⟨by omega, by omega⟩
  have hUn1 : decide (1 + ((cntA List.length U.1 : Nat) : Int) + ((cntA List.length U.2.1 : Nat) : Int) < 0) = false := decide_eq_false (by omega)
  refine AWP_seq_k fun K19 hK19 => ?_
  refine AWP_seq_k fun K20 hK20 => ?_
  refine AWP_wk (Wk_keep _ [2, 3, 4, 5, 10, 11, 12, 13, 14, 15, 16, 17, 18] [164, 180, 276, 308, 324, 372, 868, 869, 870, 871, 872, 873, 874, 875, 948, 949, 950, 951, 952, 953, 954, 955, 980, 981, 982, 983, 984, 985, 986, 987, 1012, 1013, 1014, 1015, 1016, 1017, 1018, 1019, 1108, 1109, 1110, 1111, 1112, 1113, 1114, 1115]) ?_
  simp (maxSteps := 2000000) only [go_sem]
  refine AWP_region (G := G) (T := T_mHx141) T_mHx141_ok ?_
  simp (maxSteps := 2000000) only [hU, eqD_rfl, hn1, hUh0, hUn0, hUh1, hUn1, go_sem]
  repeat' (first | (with_reducible refine And.intro (by first | omega | exact ⟨rfl, by omega, by omega, by omega⟩ | assumption | exact ⟨by omega, by omega⟩ | (refine ⟨by omega, ?_⟩; simp only [ctP] at *; omega)) ?_) | (with_reducible refine gcase_dt (fun g16 => ?_) (fun g16 => ?_)) | (with_reducible refine gcase_df (fun g16 => ?_) (fun g16 => ?_)) | (with_reducible refine gcase_ndt (fun g16 => ?_) (fun g16 => ?_)) | (with_reducible refine gcase_ndf (fun g16 => ?_) (fun g16 => ?_)) | (with_reducible refine gcase_nt (fun g16 => ?_) (fun g16 => ?_)) | (with_reducible refine gcase_nf (fun g16 => ?_) (fun g16 => ?_)) | (with_reducible refine gcase_mk (fun g16 => ?_) (fun g16 => ?_)))
  all_goals
   refine hK20 _ ?_
   refine AWP_cond rfl ?_ ?_
   ·
    intro c3
    try simp only [decide_eq_true_eq, decide_eq_false_iff_not, Bool.not_eq_true', Bool.not_eq_false', ne_eq, Int.not_lt, Int.not_le, Bool.true_eq_false, Bool.false_eq_true] at c3
    all_goals
     all_goals first | (cases c3; done) | (simp at c3; done) | omega
   ·
    intro c3
    try simp only [decide_eq_true_eq, decide_eq_false_iff_not, Bool.not_eq_true', Bool.not_eq_false', ne_eq, Int.not_lt, Int.not_le, Bool.true_eq_false, Bool.false_eq_true] at c3
    all_goals
     refine AWP_skip ?_
     simp only [go_sem]
     refine hK19 _ ?_
     refine AWP_seq_k fun K21 hK21 => ?_
     refine AWP_seq_k fun K22 hK22 => ?_
     refine AWP_wk (Wk_keep _ [2, 3, 4, 5, 10, 11, 12, 13, 14, 15, 16, 17, 18] [164, 180, 276, 308, 324, 372, 868, 869, 870, 871, 872, 873, 874, 875, 948, 949, 950, 951, 952, 953, 954, 955, 980, 981, 982, 983, 984, 985, 986, 987, 1012, 1013, 1014, 1015, 1016, 1017, 1018, 1019, 1108, 1109, 1110, 1111, 1112, 1113, 1114, 1115]) ?_
     simp (maxSteps := 2000000) only [go_sem]
     refine AWP_draw (G := G) (T := T_mHx141) T_mHx141_ok mixed
       [[], [], [1], [0, 1, 2], [0, 1, 2, 3]]
       [[1444, 1445, 1446, 1447, 1448, 1449, 1450, 1451, 1452, 1453, 1454, 1455, 1456, 1457, 1458, 1459], [], [], [], []]
       [[], [], [1444, 1445, 1446, 1447, 1448, 1449, 1450, 1451, 1452, 1453, 1454, 1455, 1456, 1457, 1458, 1459], [], []] (by kernel_rfl) (by kernel_rfl) (adrawR_ok (acc := []) ?_)
     simp (maxSteps := 2000000) only [hU, eqD_rfl, hn1, hUh0, hUn0, hUh1, hUn1, go_sem]
     repeat (with_reducible refine And.intro (by first | exact chk_leaf (by kernel_rfl) | omega | exact ⟨rfl, by omega, by omega, by omega⟩ | assumption | exact ⟨by omega, by omega⟩ | (refine ⟨by omega, ?_⟩; simp only [ctP] at *; omega)) ?_)
     refine hK22 _ ?_
     refine AWP_cond rfl ?_ ?_
     ·
      intro c4
      try simp only [decide_eq_true_eq, decide_eq_false_iff_not, Bool.not_eq_true', Bool.not_eq_false', ne_eq, Int.not_lt, Int.not_le, Bool.true_eq_false, Bool.false_eq_true] at c4
      all_goals
       all_goals first | (cases c4; done) | (simp at c4; done) | omega
     ·
      intro c4
      try simp only [decide_eq_true_eq, decide_eq_false_iff_not, Bool.not_eq_true', Bool.not_eq_false', ne_eq, Int.not_lt, Int.not_le, Bool.true_eq_false, Bool.false_eq_true] at c4
      all_goals
       refine AWP_skip ?_
       simp only [go_sem]
       refine hK21 _ ?_
       refine AWP_seq_k fun K23 hK23 => ?_
       refine AWP_seq_k fun K24 hK24 => ?_
       refine AWP_wk (Wk_keep _ [2, 3, 4, 5, 10, 11, 12, 13, 14, 15, 16, 17, 18] [164, 180, 276, 308, 324, 372, 868, 869, 870, 871, 872, 873, 874, 875, 948, 949, 950, 951, 952, 953, 954, 955, 980, 981, 982, 983, 984, 985, 986, 987, 1012, 1013, 1014, 1015, 1016, 1017, 1018, 1019, 1108, 1109, 1110, 1111, 1112, 1113, 1114, 1115]) ?_
       simp (maxSteps := 2000000) only [go_sem]
       refine AWP_draw (G := G) (T := T_mHx141) T_mHx141_ok mixed
         [[], [], [1], [0, 1, 2], [0, 1, 2, 3]]
         [[30, 1524, 1525, 1526, 1527, 1528, 1529, 1530, 1531, 1532, 1533, 1534, 1535, 1536, 1537, 1538, 1539], [], [], [], []]
         [[], [], [30, 1524, 1525, 1526, 1527, 1528, 1529, 1530, 1531, 1532, 1533, 1534, 1535, 1536, 1537, 1538, 1539], [], []] (by kernel_rfl) (by kernel_rfl) (adrawR_ok (acc := []) ?_)
       simp (maxSteps := 2000000) only [hU, eqD_rfl, hn1, hUh0, hUn0, hUh1, hUn1, go_sem]
       repeat (with_reducible refine And.intro (by first | exact chk_leaf (by kernel_rfl) | omega | exact ⟨rfl, by omega, by omega, by omega⟩ | assumption | exact ⟨by omega, by omega⟩ | (refine ⟨by omega, ?_⟩; simp only [ctP] at *; omega)) ?_)
       refine hK24 _ ?_
       refine AWP_cond rfl ?_ ?_
       ·
        intro c5
        try simp only [decide_eq_true_eq, decide_eq_false_iff_not, Bool.not_eq_true', Bool.not_eq_false', ne_eq, Int.not_lt, Int.not_le, Bool.true_eq_false, Bool.false_eq_true] at c5
        all_goals
         all_goals first | (cases c5; done) | (simp at c5; done) | omega
       ·
        intro c5
        try simp only [decide_eq_true_eq, decide_eq_false_iff_not, Bool.not_eq_true', Bool.not_eq_false', ne_eq, Int.not_lt, Int.not_le, Bool.true_eq_false, Bool.false_eq_true] at c5
        all_goals
         refine AWP_skip ?_
         simp only [go_sem]
         refine hK23 _ ?_
         refine AWP_seq_k fun K25 hK25 => ?_
         refine AWP_seq_k fun K26 hK26 => ?_
         refine AWP_wk (Wk_keep _ [2, 3, 4, 5, 10, 11, 12, 13, 14, 15, 16, 17, 18] [164, 180, 276, 308, 324, 372, 868, 869, 870, 871, 872, 873, 874, 875, 948, 949, 950, 951, 952, 953, 954, 955, 980, 981, 982, 983, 984, 985, 986, 987, 1012, 1013, 1014, 1015, 1016, 1017, 1018, 1019, 1108, 1109, 1110, 1111, 1112, 1113, 1114, 1115]) ?_
         simp (maxSteps := 2000000) only [go_sem]
         refine AWP_region (G := G) (T := T_mHx141) T_mHx141_ok ?_
         simp (maxSteps := 2000000) only [hU, eqD_rfl, hn1, hUh0, hUn0, hUh1, hUn1, go_sem]
         repeat (with_reducible refine And.intro (by first | omega | exact ⟨rfl, by omega, by omega, by omega⟩ | assumption | exact ⟨by omega, by omega⟩ | (refine ⟨by omega, ?_⟩; simp only [ctP] at *; omega)) ?_)
         refine hK26 _ ?_
         refine AWP_cond rfl ?_ ?_
         ·
          intro c6
          try simp only [decide_eq_true_eq, decide_eq_false_iff_not, Bool.not_eq_true', Bool.not_eq_false', ne_eq, Int.not_lt, Int.not_le, Bool.true_eq_false, Bool.false_eq_true] at c6
          all_goals
           all_goals first | (cases c6; done) | (simp at c6; done) | omega
         ·
          intro c6
          try simp only [decide_eq_true_eq, decide_eq_false_iff_not, Bool.not_eq_true', Bool.not_eq_false', ne_eq, Int.not_lt, Int.not_le, Bool.true_eq_false, Bool.false_eq_true] at c6
          all_goals
           refine AWP_skip ?_
           simp only [go_sem]
           refine hK25 _ ?_
           refine AWP_seq_k fun K27 hK27 => ?_
           refine AWP_region (G := G) (T := T_mHx141) T_mHx141_ok ?_
           simp only [hU, eqD_rfl, hn1, hUh0, hUn0, hUh1, hUn1, go_sem]
           repeat (with_reducible refine And.intro (by first | omega | exact ⟨rfl, by omega, by omega, by omega⟩ | assumption | exact ⟨by omega, by omega⟩ | (refine ⟨by omega, ?_⟩; simp only [ctP] at *; omega)) ?_)
           refine hK27 _ ?_
           refine AWP_seq_k fun K28 hK28 => ?_
           refine AWP_wk (Wk_keep _ [2, 3, 4, 5, 10, 11, 12, 13, 14, 15, 16, 17, 18, 19] [164, 180, 276, 308, 324, 372, 868, 869, 870, 871, 872, 873, 874, 875, 948, 949, 950, 951, 952, 953, 954, 955, 980, 981, 982, 983, 984, 985, 986, 987, 1012, 1013, 1014, 1015, 1016, 1017, 1018, 1019, 1108, 1109, 1110, 1111, 1112, 1113, 1114, 1115]) ?_
           simp (maxSteps := 2000000) only [go_sem]
           refine AWP_region (G := G) (T := T_mHx141) T_mHx141_ok ?_
           simp only [hU, eqD_rfl, hn1, hUh0, hUn0, hUh1, hUn1, go_sem]
           repeat (with_reducible refine And.intro (by first | omega | exact ⟨rfl, by omega, by omega, by omega⟩ | assumption | exact ⟨by omega, by omega⟩ | (refine ⟨by omega, ?_⟩; simp only [ctP] at *; omega)) ?_)
           refine hK28 _ ?_
           refine AWP_seq_k fun K29 hK29 => ?_
           refine AWP_wk (Wk_keep _ [2, 3, 4, 5, 10, 11, 12, 14, 15, 16, 17, 18, 19] [164, 180, 276, 324, 372, 868, 869, 870, 871, 872, 873, 874, 875, 980, 981, 982, 983, 984, 985, 986, 987, 1012, 1013, 1014, 1015, 1016, 1017, 1018, 1019, 1108, 1109, 1110, 1111, 1112, 1113, 1114, 1115, 1684, 1685, 1686, 1687, 1688, 1689, 1690, 1691]) ?_
           simp (maxSteps := 2000000) only [go_sem]
           refine AWP_region (G := G) (T := T_mHx141) T_mHx141_ok ?_
           simp only [hU, eqD_rfl, hn1, hUh0, hUn0, hUh1, hUn1, go_sem]
           repeat (with_reducible refine And.intro (by first | omega | exact ⟨rfl, by omega, by omega, by omega⟩ | assumption | exact ⟨by omega, by omega⟩ | (refine ⟨by omega, ?_⟩; simp only [ctP] at *; omega)) ?_)
           refine hK29 _ ?_
           refine AWP_seq_k fun K30 hK30 => ?_
           refine AWP_wk (Wk_keep _ [2, 3, 4, 5, 10, 11, 12, 15, 16, 17, 18, 19] [164, 180, 276, 372, 868, 869, 870, 871, 872, 873, 874, 875, 1012, 1013, 1014, 1015, 1016, 1017, 1018, 1019, 1108, 1109, 1110, 1111, 1112, 1113, 1114, 1115, 1732, 1733, 1734, 1735, 1736, 1737, 1738, 1739]) ?_
           simp (maxSteps := 2000000) only [go_sem]
           refine AWP_region (G := G) (T := T_mHx141) T_mHx141_ok ?_
           simp only [hU, eqD_rfl, hn1, hUh0, hUn0, hUh1, hUn1, go_sem]
           repeat (with_reducible refine And.intro (by first | omega | exact ⟨rfl, by omega, by omega, by omega⟩ | assumption | exact ⟨by omega, by omega⟩ | (refine ⟨by omega, ?_⟩; simp only [ctP] at *; omega)) ?_)
           refine hK30 _ ?_
           refine AWP_seq_j True ⟨(zz :: zz :: .c (.rd [] 24 (.row 2 (.int .i64)) (ins)) :: .c (.sc (.int .i64 (nn))) :: .c (.po 164 0) :: .c (.po 180 0) :: zz :: zz :: zz :: zz :: .c (.ow 868) :: .c (.po 276 0) :: .c (.sc (.int .i64 (U.2.2))) :: zz :: zz :: zz :: .c (.ow 1108) :: .c (.po 372 0) :: zz :: zz :: zz :: zz :: zz :: zz :: zz :: zz :: zz :: zz :: zz :: zz :: zz :: zz :: zz :: zz :: zz :: zz :: zz :: zz :: zz :: zz :: zz :: zz :: zz :: zz :: zz :: zz :: zz :: zz :: zz :: zz :: zz :: zz :: zz :: zz :: zz :: zz :: zz :: zz :: zz :: zz :: zz :: zz :: zz :: zz :: zz :: zz :: zz :: zz :: zz :: zz :: zz :: zz :: zz :: zz :: zz :: zz :: zz :: zz :: zz :: zz :: zz :: zz :: zz :: zz :: zz :: zz :: zz :: zz :: zz :: zz :: zz :: zz :: zz :: zz :: zz :: zz :: zz :: zz :: zz :: zz :: zz :: zz :: zz :: zz :: zz :: zz :: zz :: zz :: zz :: zz :: zz :: zz :: zz :: zz :: zz :: zz :: zz :: zz :: zz :: zz :: zz :: zz :: zz :: zz :: zz :: zz :: zz :: zz :: zz :: zz :: zz :: zz :: zz :: zz :: zz :: zz :: zz :: zz :: zz :: zz :: zz :: zz :: zz :: zz :: zz :: zz :: zz :: zz :: zz :: zz :: zz :: zz :: zz :: zz :: zz :: zz :: zz :: zz :: zz :: zz :: zz :: zz :: zz :: zz :: zz :: zz :: zz :: zz :: zz :: zz :: zz :: zz :: zz :: zz :: zz :: zz :: zz :: zz :: zz :: zz :: zz :: zz :: zz :: zz :: []), [(164, .box [.sc (.int .i64 (pi)), .rd [] 24 ((.row 2 (.int .i64))) (ts), .rd [] 71 ((.prod (.int .i64) (.prod (.int .i64) (.prod (.int .i64) (.row 2 (.int .i64)))))) (ns), .rd [] 2 (.int .i64) (os)]), (180, .box [.rd [] 24 ((.row 2 (.int .i64))) (cc)]), (276, .box [.rd [] 24 ((.row 2 (.int .i64))) (U.2.1)]), (868, .tree 24 (.row 2 (.int .i64)) (U.1) none), (372, .box [.ow 1109]), (1108, .tree 24 (.row 2 (.int .i64)) (U.1) none), (1109, .tree 24 (.row 2 (.int .i64)) (U.2.1) none)]⟩ ?_ fun K56 hK56 => ?_
           · exact fun _ => lawRb_tail30 pi ts ns os cc ins nn U hU hUb0 hUb1 f0 f1 f2 hn1 _ rfl
           refine AWP_seq_k fun K57 hK57 => ?_
           refine AWP_wk (Wk_keep _ [2, 3, 4, 5, 10, 11, 12, 16, 17, 18, 19] [164, 180, 276, 372, 868, 869, 870, 871, 872, 873, 874, 875, 1108, 1109, 1110, 1111, 1112, 1113, 1114, 1115, 1780, 1781, 1782, 1783, 1784, 1785, 1786, 1787]) ?_
           simp (maxSteps := 2000000) only [go_sem]
           refine AWP_region (G := G) (T := T_mHx141) T_mHx141_ok ?_
           simp (maxSteps := 2000000) only [hU, eqD_rfl, hn1, hUh0, hUn0, hUh1, hUn1, go_sem]
           repeat' (first | (with_reducible refine And.intro (by first | omega | exact ⟨rfl, by omega, by omega, by omega⟩ | assumption | exact ⟨by omega, by omega⟩ | (refine ⟨by omega, ?_⟩; simp only [ctP] at *; omega)) ?_) | (with_reducible refine gcase_dt (fun g28 => ?_) (fun g28 => ?_)) | (with_reducible refine gcase_df (fun g28 => ?_) (fun g28 => ?_)) | (with_reducible refine gcase_ndt (fun g28 => ?_) (fun g28 => ?_)) | (with_reducible refine gcase_ndf (fun g28 => ?_) (fun g28 => ?_)) | (with_reducible refine gcase_nt (fun g28 => ?_) (fun g28 => ?_)) | (with_reducible refine gcase_nf (fun g28 => ?_) (fun g28 => ?_)) | (with_reducible refine gcase_mk (fun g28 => ?_) (fun g28 => ?_)))
           all_goals
            refine hK57 _ ?_
            refine AWP_cond rfl ?_ ?_
            ·
             intro c7
             try simp only [decide_eq_true_eq, decide_eq_false_iff_not, Bool.not_eq_true', Bool.not_eq_false', ne_eq, Int.not_lt, Int.not_le, Bool.true_eq_false, Bool.false_eq_true] at c7
             all_goals
              all_goals first | (cases c7; done) | (simp at c7; done) | omega
            ·
             intro c7
             try simp only [decide_eq_true_eq, decide_eq_false_iff_not, Bool.not_eq_true', Bool.not_eq_false', ne_eq, Int.not_lt, Int.not_le, Bool.true_eq_false, Bool.false_eq_true] at c7
             all_goals
              refine AWP_skip ?_
              simp only [go_sem]
              refine hK56 _ (Wk_to (by rfl) ?_) trivial
              simp (maxSteps := 2000000) only [go_sem]
              all_goals (first | rfl | ((repeat' refine And.intro ?_ ?_) <;> first | rfl | exact wk (by omega) | simp))
set_option maxRecDepth 100000 in
set_option maxHeartbeats 16000000 in
theorem lawRb_ok : PureT Tryz.prog 3 K_lawRb := by
  refine pure_of_body Tryz.func3 rfl ?_
  have hres : Tryz.f3.results.toList = [.tmp 8] := rfl
  rintro ⟨⟨(pi : Int), (ts : List (List Int)), (ns : List NodeD), (os : List Int)⟩, (cc : List (List Int)), (ins : List (List Int)), (nn : Int), _⟩ hc hL
  simp only [K_lawRb, lensOk, PK.lenOk, glensOk, GP.lenOk, flensOk, GO.lenOk, olensOk, Ty.lenOk, Ty.flat, Bool.and_true, Bool.true_and, Bool.and_false, Bool.false_and, true_and, and_true, implies_true, forall_const] at hL
  simp only [K_lawRb, St.init, St.initG, Tryz.ntmps3, go_sem] 
  obtain ⟨U, hU⟩ : ∃ U, rbR (pi, ts, ns, os) cc ins nn = U := ⟨_, rfl⟩
  have hUb : cntA List.length U.1 ≤ 1000000 ∧ cntA List.length U.2.1 ≤ 1000000 := by rw [← hU]; exact rbR_bd _ _ _ _
  obtain ⟨hUb0, hUb1⟩ := hUb
  have hUh0 : heldA markL List.length (1) (markLL (1) U.1) = 1 + ((cntA List.length U.1 : Nat) : Int) := heldA_mark (fun _ _ => markA_len) markL_idem
  have hUm0 : mkOk (1) (cntA List.length (markLL (1) U.1)) := by rw [markA_cnt (fun (_ : Int) (_ : List Int) => (markA_len : (markL _ _).length = _))]; exact ⟨by omega, by omega⟩
  have hUn0 : decide (1 + ((cntA List.length U.1 : Nat) : Int) < 0) = false := decide_eq_false (by omega)
  have hUh1 : heldA markL List.length (1 + ((cntA List.length U.1 : Nat) : Int)) (markLL (1 + ((cntA List.length U.1 : Nat) : Int)) U.2.1) = 1 + ((cntA List.length U.1 : Nat) : Int) + ((cntA List.length U.2.1 : Nat) : Int) := heldA_mark (fun _ _ => markA_len) markL_idem
  have hUm1 : mkOk (1 + ((cntA List.length U.1 : Nat) : Int)) (cntA List.length (markLL (1 + ((cntA List.length U.1 : Nat) : Int)) U.2.1)) := by rw [markA_cnt (fun (_ : Int) (_ : List Int) => (markA_len : (markL _ _).length = _))]; exact ⟨by omega, by omega⟩
  have hUn1 : decide (1 + ((cntA List.length U.1 : Nat) : Int) + ((cntA List.length U.2.1 : Nat) : Int) < 0) = false := decide_eq_false (by omega)
  refine AWP_seq_k fun K1 hK1 => ?_
  refine AWP_wk (Wk_keep _ [0, 1, 2, 3] []) ?_
  simp (maxSteps := 2000000) only [go_sem]
  refine AWP_region (G := G) (T := T_mHx141) T_mHx141_ok ?_
  simp only [go_sem]
  repeat (with_reducible refine And.intro (by first | omega | exact ⟨rfl, by omega, by omega, by omega⟩ | assumption | exact ⟨by omega, by omega⟩ | (refine ⟨by omega, ?_⟩; simp only [ctP] at *; omega)) ?_)
  refine hK1 _ ?_
  refine AWP_seq_k fun K2 hK2 => ?_
  refine AWP_region (G := G) (T := T_mHx141) T_mHx141_ok ?_
  simp only [go_sem]
  repeat (with_reducible refine And.intro (by first | omega | exact ⟨rfl, by omega, by omega, by omega⟩ | assumption | exact ⟨by omega, by omega⟩ | (refine ⟨by omega, ?_⟩; simp only [ctP] at *; omega)) ?_)
  refine hK2 _ ?_
  refine AWP_seq_k fun K3 hK3 => ?_
  refine AWP_wk (Wk_keep _ [2, 3, 4, 5, 9] [164, 180]) ?_
  simp (maxSteps := 2000000) only [go_sem]
  refine AWP_region (G := G) (T := T_mHx141) T_mHx141_ok ?_
  simp only [go_sem]
  repeat (with_reducible refine And.intro (by first | omega | exact ⟨rfl, by omega, by omega, by omega⟩ | assumption | exact ⟨by omega, by omega⟩ | (refine ⟨by omega, ?_⟩; simp only [ctP] at *; omega)) ?_)
  refine hK3 _ ?_
  refine AWP_seq_k fun K4 hK4 => ?_
  refine AWP_seq_k fun K5 hK5 => ?_
  refine AWP_region (G := G) (T := T_mHx141) T_mHx141_ok ?_
  simp only [go_sem]
  repeat (with_reducible refine And.intro (by first | omega | exact ⟨rfl, by omega, by omega, by omega⟩ | assumption | exact ⟨by omega, by omega⟩ | (refine ⟨by omega, ?_⟩; simp only [ctP] at *; omega)) ?_)
  refine hK5 _ ?_
  refine AWP_cond rfl ?_ ?_
  ·
   intro c0
   try simp only [decide_eq_true_eq, decide_eq_false_iff_not, Bool.not_eq_true', Bool.not_eq_false', ne_eq, Int.not_lt, Int.not_le] at c0
   refine AWP_seq_k fun K6 hK6 => ?_
   refine AWP_region (G := G) (T := T_mHx141) T_mHx141_ok ?_
   simp only [go_sem]
   repeat (with_reducible refine And.intro (by first | omega | exact ⟨rfl, by omega, by omega, by omega⟩ | assumption | exact ⟨by omega, by omega⟩ | (refine ⟨by omega, ?_⟩; simp only [ctP] at *; omega)) ?_)
   refine hK6 _ ?_
   refine AWP_ret ?_
   simp only [hres, go_sem]
   first
     | exact finOk_mk (by rfl) (by decide)
     | refine ⟨?_, finOk_mk (by rfl) (by decide)⟩
       rfl
  ·
   intro c0
   try simp only [decide_eq_true_eq, decide_eq_false_iff_not, Bool.not_eq_true', Bool.not_eq_false', ne_eq, Int.not_lt, Int.not_le] at c0
   obtain ⟨e0, e0'⟩ := szR_ge' c0
   have f0 : fitsP (pi, ts, ns, os) := fitsP_sz (by omega)
   have g0 := ctP_le (pi, ts, ns, os)
   have hz0 : ctP (0, ts, ns, os) = ctP (pi, ts, ns, os) := rfl
   refine AWP_skip ?_
   simp only [go_sem]
   refine hK4 _ ?_
   refine AWP_seq_k fun K7 hK7 => ?_
   refine AWP_wk (Wk_keep _ [2, 3, 4, 5, 9] [164, 180, 532, 533, 534, 535, 536, 537, 538, 539]) ?_
   simp (maxSteps := 2000000) only [go_sem]
   refine AWP_region (G := G) (T := T_mHx141) T_mHx141_ok ?_
   simp only [go_sem]
   repeat (with_reducible refine And.intro (by first | omega | exact ⟨rfl, by omega, by omega, by omega⟩ | assumption | exact ⟨by omega, by omega⟩ | (refine ⟨by omega, ?_⟩; simp only [ctP] at *; omega)) ?_)
   refine hK7 _ ?_
   refine AWP_seq_k fun K8 hK8 => ?_
   refine AWP_seq_k fun K9 hK9 => ?_
   refine AWP_region (G := G) (T := T_mHx141) T_mHx141_ok ?_
   simp only [go_sem]
   repeat (with_reducible refine And.intro (by first | omega | exact ⟨rfl, by omega, by omega, by omega⟩ | assumption | exact ⟨by omega, by omega⟩ | (refine ⟨by omega, ?_⟩; simp only [ctP] at *; omega)) ?_)
   refine hK9 _ ?_
   refine AWP_cond rfl ?_ ?_
   ·
    intro c1
    try simp only [decide_eq_true_eq, decide_eq_false_iff_not, Bool.not_eq_true', Bool.not_eq_false', ne_eq, Int.not_lt, Int.not_le] at c1
    refine AWP_seq_k fun K10 hK10 => ?_
    refine AWP_region (G := G) (T := T_mHx141) T_mHx141_ok ?_
    simp only [go_sem]
    repeat (with_reducible refine And.intro (by first | omega | exact ⟨rfl, by omega, by omega, by omega⟩ | assumption | exact ⟨by omega, by omega⟩ | (refine ⟨by omega, ?_⟩; simp only [ctP] at *; omega)) ?_)
    refine hK10 _ ?_
    refine AWP_ret ?_
    simp only [hres, go_sem]
    first
      | exact finOk_mk (by rfl) (by decide)
      | refine ⟨?_, finOk_mk (by rfl) (by decide)⟩
        rfl
   ·
    intro c1
    try simp only [decide_eq_true_eq, decide_eq_false_iff_not, Bool.not_eq_true', Bool.not_eq_false', ne_eq, Int.not_lt, Int.not_le] at c1
    obtain ⟨e1, e1'⟩ := szR_ge' c1
    have f1 : fitsL cc := fitsL_sz (by omega)
    have g1 := cnt_sz cc
    refine AWP_skip ?_
    simp only [go_sem]
    refine hK8 _ ?_
    refine AWP_seq_k fun K11 hK11 => ?_
    refine AWP_wk (Wk_keep _ [2, 3, 4, 5, 9] [164, 180, 612, 613, 614, 615, 616, 617, 618, 619]) ?_
    simp (maxSteps := 2000000) only [go_sem]
    refine AWP_region (G := G) (T := T_mHx141) T_mHx141_ok ?_
    simp only [go_sem]
    repeat (with_reducible refine And.intro (by first | omega | exact ⟨rfl, by omega, by omega, by omega⟩ | assumption | exact ⟨by omega, by omega⟩ | (refine ⟨by omega, ?_⟩; simp only [ctP] at *; omega)) ?_)
    refine hK11 _ ?_
    refine AWP_seq_k fun K12 hK12 => ?_
    refine AWP_seq_k fun K13 hK13 => ?_
    refine AWP_region (G := G) (T := T_mHx141) T_mHx141_ok ?_
    simp only [go_sem]
    repeat (with_reducible refine And.intro (by first | omega | exact ⟨rfl, by omega, by omega, by omega⟩ | assumption | exact ⟨by omega, by omega⟩ | (refine ⟨by omega, ?_⟩; simp only [ctP] at *; omega)) ?_)
    refine hK13 _ ?_
    refine AWP_cond rfl ?_ ?_
    ·
     intro c2
     try simp only [decide_eq_true_eq, decide_eq_false_iff_not, Bool.not_eq_true', Bool.not_eq_false', ne_eq, Int.not_lt, Int.not_le] at c2
     refine AWP_seq_k fun K14 hK14 => ?_
     refine AWP_region (G := G) (T := T_mHx141) T_mHx141_ok ?_
     simp only [go_sem]
     repeat (with_reducible refine And.intro (by first | omega | exact ⟨rfl, by omega, by omega, by omega⟩ | assumption | exact ⟨by omega, by omega⟩ | (refine ⟨by omega, ?_⟩; simp only [ctP] at *; omega)) ?_)
     refine hK14 _ ?_
     refine AWP_ret ?_
     simp only [hres, go_sem]
     first
       | exact finOk_mk (by rfl) (by decide)
       | refine ⟨?_, finOk_mk (by rfl) (by decide)⟩
         rfl
    ·
     intro c2
     try simp only [decide_eq_true_eq, decide_eq_false_iff_not, Bool.not_eq_true', Bool.not_eq_false', ne_eq, Int.not_lt, Int.not_le] at c2
     obtain ⟨e2, e2'⟩ := szR_ge' c2
     have f2 : fitsL ins := fitsL_sz (by omega)
     have g2 := cnt_sz ins
     have hn1 : decide (1 + (ctP (0, ts, ns, os) : Int) + ((cntA List.length cc : Nat) : Int) + ((cntA List.length ins : Nat) : Int) < 0) = false := decide_eq_false (by omega)
     refine AWP_skip ?_
     simp only [go_sem]
     refine hK12 _ ?_
     refine AWP_seq_k fun K15 hK15 => ?_
     refine AWP_wk (Wk_keep _ [2, 3, 4, 5] [164, 180]) ?_
     simp (maxSteps := 2000000) only [go_sem]
     refine AWP_draw (G := G) (T := T_mHx141) T_mHx141_ok mixed
       [[], [0], [], [0, 1, 2], [], [0, 1, 2, 3, 4], [], [0, 1, 2, 3, 4, 5, 6], [0, 1, 2, 3, 4, 5, 6, 7], [0, 1, 2, 3, 4, 5, 6, 7, 8], [0, 1, 2, 3, 4, 5, 6, 7, 8], [0, 1, 2, 3, 4, 5, 6, 7, 8], [], [0, 1, 2, 3, 4, 5, 6, 7, 8, 9, 12], [0, 1, 2, 3, 4, 5, 6, 7, 8, 9, 10, 12, 13], [0, 1, 2, 3, 4, 5, 6, 7, 8, 9, 10, 11, 12, 13, 14]]
       [[276], [276], [276, 772, 773, 774, 775, 776, 777, 778, 779, 780, 781, 782, 783, 784, 785, 786, 787], [276], [30, 276, 772, 773, 774, 775, 776, 777, 778, 779, 780, 781, 782, 783, 784, 785, 786, 787, 804, 805, 806, 807, 808, 809, 810, 811, 812, 813, 814, 815, 816, 817, 818, 819], [276], [30, 276, 772, 773, 774, 775, 776, 777, 778, 779, 780, 781, 782, 783, 784, 785, 786, 787, 804, 805, 806, 807, 808, 809, 810, 811, 812, 813, 814, 815, 816, 817, 818, 819, 836, 837, 838, 839, 840, 841, 842, 843, 844, 845, 846, 847, 848, 849, 850, 851], [276], [276], [276], [276], [276], [30, 772, 773, 774, 775, 776, 777, 778, 779, 780, 781, 782, 783, 784, 785, 786, 787, 804, 805, 806, 807, 808, 809, 810, 811, 812, 813, 814, 815, 816, 817, 818, 819, 836, 837, 838, 839, 840, 841, 842, 843, 844, 845, 846, 847, 848, 849, 850, 851, 868, 869, 870, 871, 872, 873, 874, 875, 876, 877, 878, 879, 880, 881, 882, 883], [], [], []]
       [[], [772, 773, 774, 775, 776, 777, 778, 779, 780, 781, 782, 783, 784, 785, 786, 787], [], [30, 804, 805, 806, 807, 808, 809, 810, 811, 812, 813, 814, 815, 816, 817, 818, 819], [], [836, 837, 838, 839, 840, 841, 842, 843, 844, 845, 846, 847, 848, 849, 850, 851], [], [30, 868, 869, 870, 871, 872, 873, 874, 875, 876, 877, 878, 879, 880, 881, 882, 883], [], [], [], [], [276], [], [276], []] (by kernel_rfl) (by kernel_rfl) (adrawR_ok (acc := []) ?_)
     simp (maxSteps := 2000000) only [hU, eqD_rfl, hn1, hUh0, hUn0, hUh1, hUn1, go_sem]
     repeat (with_reducible refine And.intro (by first | exact chk_leaf (by kernel_rfl) | omega | exact ⟨rfl, by omega, by omega, by omega⟩ | assumption | exact ⟨by omega, by omega⟩ | (refine ⟨by omega, ?_⟩; simp only [ctP] at *; omega)) ?_)
     refine hK15 _ ?_
     refine AWP_seq_k fun K16 hK16 => ?_
     refine AWP_wk (Wk_keep _ [2, 3, 4, 5, 10, 11, 12] [164, 180, 276, 868, 869, 870, 871, 872, 873, 874, 875]) ?_
     simp (maxSteps := 2000000) only [go_sem]
     refine AWP_region (G := G) (T := T_mHx141) T_mHx141_ok ?_
     simp only [hU, eqD_rfl, hn1, hUh0, hUn0, hUh1, hUn1, go_sem]
     repeat (with_reducible refine And.intro (by first | omega | exact ⟨rfl, by omega, by omega, by omega⟩ | assumption | exact ⟨by omega, by omega⟩ | (refine ⟨by omega, ?_⟩; simp only [ctP] at *; omega)) ?_)
     refine hK16 _ ?_
     refine AWP_seq_k fun K17 hK17 => ?_
     refine AWP_wk (Wk_keep _ [2, 3, 4, 5, 10, 11, 12, 13] [164, 180, 276, 308, 868, 869, 870, 871, 872, 873, 874, 875, 948, 949, 950, 951, 952, 953, 954, 955]) ?_
     simp (maxSteps := 2000000) only [go_sem]
     refine AWP_region (G := G) (T := T_mHx141) T_mHx141_ok ?_
     simp only [hU, eqD_rfl, hn1, hUh0, hUn0, hUh1, hUn1, go_sem]
     repeat (with_reducible refine And.intro (by first | omega | exact ⟨rfl, by omega, by omega, by omega⟩ | assumption | exact ⟨by omega, by omega⟩ | (refine ⟨by omega, ?_⟩; simp only [ctP] at *; omega)) ?_)
     refine hK17 _ ?_
     refine AWP_seq_k fun K18 hK18 => ?_
     refine AWP_wk (Wk_keep _ [2, 3, 4, 5, 10, 11, 12, 13, 14] [164, 180, 276, 308, 324, 868, 869, 870, 871, 872, 873, 874, 875, 948, 949, 950, 951, 952, 953, 954, 955, 980, 981, 982, 983, 984, 985, 986, 987]) ?_
     simp (maxSteps := 2000000) only [go_sem]
     refine AWP_region (G := G) (T := T_mHx141) T_mHx141_ok ?_
     simp only [hU, eqD_rfl, hn1, hUh0, hUn0, hUh1, hUn1, go_sem]
     repeat (with_reducible refine And.intro (by first | omega | exact ⟨rfl, by omega, by omega, by omega⟩ | assumption | exact ⟨by omega, by omega⟩ | (refine ⟨by omega, ?_⟩; simp only [ctP] at *; omega)) ?_)
     refine hK18 _ ?_
     refine AWP_seq_j True ⟨(zz :: zz :: .c (.rd [] 24 (.row 2 (.int .i64)) (ins)) :: .c (.sc (.int .i64 (nn))) :: .c (.po 164 0) :: .c (.po 180 0) :: zz :: zz :: zz :: zz :: .c (.ow 868) :: .c (.po 276 0) :: .c (.sc (.int .i64 (U.2.2))) :: .c (.po 308 0) :: .c (.po 324 0) :: .c (.ow 1012) :: .c (.ow 1108) :: .c (.po 372 0) :: .c (.sc (.int .i64 (U.2.2))) :: zz :: zz :: zz :: zz :: zz :: zz :: zz :: zz :: zz :: zz :: zz :: zz :: zz :: zz :: zz :: zz :: zz :: zz :: zz :: zz :: zz :: zz :: zz :: zz :: zz :: zz :: zz :: zz :: zz :: zz :: zz :: zz :: zz :: zz :: zz :: zz :: zz :: zz :: zz :: zz :: zz :: zz :: zz :: zz :: zz :: zz :: zz :: zz :: zz :: zz :: zz :: zz :: zz :: zz :: zz :: zz :: zz :: zz :: zz :: zz :: zz :: zz :: zz :: zz :: zz :: zz :: zz :: zz :: zz :: zz :: zz :: zz :: zz :: zz :: zz :: zz :: zz :: zz :: zz :: zz :: zz :: zz :: zz :: zz :: zz :: zz :: zz :: zz :: zz :: zz :: zz :: zz :: zz :: zz :: zz :: zz :: zz :: zz :: zz :: zz :: zz :: zz :: zz :: zz :: zz :: zz :: zz :: zz :: zz :: zz :: zz :: zz :: zz :: zz :: zz :: zz :: zz :: zz :: zz :: zz :: zz :: zz :: zz :: zz :: zz :: zz :: zz :: zz :: zz :: zz :: zz :: zz :: zz :: zz :: zz :: zz :: zz :: zz :: zz :: zz :: zz :: zz :: zz :: zz :: zz :: zz :: zz :: zz :: zz :: zz :: zz :: zz :: zz :: zz :: zz :: zz :: zz :: zz :: zz :: zz :: zz :: zz :: zz :: zz :: zz :: []), [(164, .box [.sc (.int .i64 (pi)), .rd [] 24 ((.row 2 (.int .i64))) (ts), .rd [] 71 ((.prod (.int .i64) (.prod (.int .i64) (.prod (.int .i64) (.row 2 (.int .i64)))))) (ns), .rd [] 2 (.int .i64) (os)]), (180, .box [.rd [] 24 ((.row 2 (.int .i64))) (cc)]), (276, .box [.rd [] 24 ((.row 2 (.int .i64))) (U.2.1)]), (868, .tree 24 (.row 2 (.int .i64)) (U.1) none), (372, .box [.ow 1109]), (1108, .tree 24 (.row 2 (.int .i64)) (U.1) none), (1109, .tree 24 (.row 2 (.int .i64)) (U.2.1) none), (308, .box [.sc (.int .i64 (pi)), .ow 948, .ow 949, .ow 950]), (948, .tree 24 (.row 2 (.int .i64)) (ts) none), (949, .tree 75 ((.prod (.int .i64) (.prod (.int .i64) (.prod (.int .i64) (.row 2 (.int .i64)))))) (ns) none), (950, .row 2 (.int .i64) (os) []), (324, .box [.ow 980]), (980, .tree 24 (.row 2 (.int .i64)) (cc) none), (1012, .tree 24 (.row 2 (.int .i64)) (ins) none)]⟩ ?_ fun K58 hK58 => ?_
     · exact fun _ => lawRb_tail16 pi ts ns os cc ins nn U hU hUb0 hUb1 f0 f1 f2 hn1 (by omega) (by omega) (by omega) _ rfl
     refine AWP_wk (Wk_keep _ [2, 3, 4, 5, 10, 11, 12, 13, 14, 15] [164, 180, 276, 308, 324, 868, 869, 870, 871, 872, 873, 874, 875, 948, 949, 950, 951, 952, 953, 954, 955, 980, 981, 982, 983, 984, 985, 986, 987, 1012, 1013, 1014, 1015, 1016, 1017, 1018, 1019]) ?_
     simp (maxSteps := 2000000) only [go_sem]
     refine AWP_region (G := G) (T := T_mHx141) T_mHx141_ok ?_
     simp (maxSteps := 2000000) only [hU, eqD_rfl, hn1, hUh0, hUn0, hUh1, hUn1, go_sem]
     repeat (with_reducible refine And.intro (by first | omega | exact ⟨rfl, by omega, by omega, by omega⟩ | assumption | exact ⟨by omega, by omega⟩ | (refine ⟨by omega, ?_⟩; simp only [ctP] at *; omega)) ?_)
     refine hK58 _ (Wk_to (by rfl) ?_) trivial
     simp (maxSteps := 2000000) only [go_sem]
     all_goals (first | rfl | ((repeat' refine And.intro ?_ ?_) <;> first | rfl | exact wk (by omega) | simp))

theorem lawRb_fn : FnOk Tryz.prog 3 := fnOk_of Tryz.func3 rfl (by decide)

def T_lawRb : Tab := fun f => if f = 3 then some (.p K_lawRb) else T_mHx141 f
theorem T_lawRb_ok : TabOk Tryz.prog T_lawRb := fun f k h => by
  unfold T_lawRb at h
  split at h
  · rename_i e; cases h; subst e; exact ⟨lawRb_ok, lawRb_fn⟩
  · exact T_mHx141_ok f k h
attribute [go_sem] T_lawRb K_lawRb

end Go.Proofs.YthglggjgjlmhlaaGreat
