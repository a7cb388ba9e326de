/-
  Contracts of functions: FnExactStepPatch.
-/
import Derived.Test.YthglggjgjlmhlaaHt7
import Derived.Test.YthglggjgjlmhlaaHt3
import Derived.Test.YthglggjgjlmhlaaHt6
import Derived.Test.YthglggjgjlmhlaaMg3
namespace Go.Proofs.Ythglggjgjlmhlaa
open Go.RowKit
set_option linter.unusedSimpArgs false
set_option linter.unusedVariables false

def T_mHx20 : Tab := fun f => match T_heldS f with
  | some k => some k
  | none => T_implStep f
theorem T_mHx20_ok : TabOk Try.prog T_mHx20 := fun f k h => by
  unfold T_mHx20 at h
  split at h
  · rename_i e; cases h; exact T_heldS_ok f _ e
  · exact T_implStep_ok f k h
attribute [go_sem] T_mHx20 T0


def T_mHx21 : Tab := fun f => match T_mHx20 f with
  | some k => some k
  | none => T_specStep f
theorem T_mHx21_ok : TabOk Try.prog T_mHx21 := fun f k h => by
  unfold T_mHx21 at h
  split at h
  · rename_i e; cases h; exact T_mHx20_ok f _ e
  · exact T_specStep_ok f k h
attribute [go_sem] T_mHx21 T0


def K_lawStep : Con := ⟨[.val ((.prod (.int .i64) (.prod (.row 24 (.row 2 (.int .i64))) (.prod (.row 136 (.prod (.int .i64) (.prod (.int .i64) (.prod (.int .i64) (.row 2 (.int .i64)))))) (.row 2 (.int .i64)))))), .one (.row 24 (.row 2 (.int .i64))), .val ((.row 2 (.int .i64)))], [⟨.bool, true⟩], fun _ => True, fun _ => true⟩
set_option maxRecDepth 100000 in
set_option maxHeartbeats 16000000 in
theorem lawStep_tail41 (pi : Int) (ts : List (List Int)) (ns : List NodeD) (os : List Int) (cc : List (List Int)) (ff : List Int) (U : List Int × List (List Int) × Int) (hU : stepR (pi, ts, ns, os) cc ff = U) (hUo : U.1.length ≤ 1000000) (hUc : cntA List.length U.2.1 ≤ 1000000) (f1 : fitsP (pi, ts, ns, os)) (f2 : fitsL cc) (f3 : ff.length ≤ 1099511627776) : ∀ c, Try.f3.body = some c → AWP Try.prog (tailAt 30 c) ⟨[.c .bot, .c .bot, .c (.rd [] 2 (.int .i64) (ff)), .c (.po 148 0), .c (.po 164 0), .c .bot, .c .bot, .c .bot, .c (.ow 788), .c (.po 244 0), .c (.sc (.int .i64 (U.2.2))), .c .bot, .c .bot, .c .bot, .c (.ow 1012), .c (.po 340 0), .c (.sc (.int .i64 (U.2.2))), .c .bot, .c (.sc (.int .i64 (1 + (U.1.length : Int) + (cntA List.length U.2.1 : Nat)))), .c .bot, .c .bot, .c .bot, .c .bot, .c .bot, .c .bot, .c .bot, .c .bot, .c .bot, .c .bot, .c .bot, .c .bot, .c .bot, .c .bot, .c .bot, .c .bot, .c .bot, .c .bot, .c .bot, .c .bot, .c .bot, .c .bot, .c .bot, .c .bot, .c .bot, .c .bot, .c .bot, .c .bot, .c .bot, .c .bot, .c .bot, .c .bot, .c .bot, .c .bot, .c .bot, .c .bot, .c .bot, .c .bot, .c .bot, .c .bot, .c .bot, .c .bot, .c .bot, .c .bot, .c .bot, .c .bot, .c .bot, .c .bot, .c .bot, .c .bot, .c .bot, .c .bot, .c .bot, .c .bot, .c .bot, .c .bot, .c .bot, .c .bot, .c .bot, .c .bot, .c .bot, .c .bot, .c .bot, .c .bot, .c .bot, .c .bot, .c .bot, .c .bot, .c .bot, .c .bot, .c .bot, .c .bot, .c .bot, .c .bot, .c .bot, .c .bot, .c .bot, .c .bot, .c .bot, .c .bot, .c .bot, .c .bot, .c .bot, .c .bot, .c .bot, .c .bot, .c .bot, .c .bot, .c .bot, .c .bot, .c .bot, .c .bot, .c .bot, .c .bot, .c .bot, .c .bot, .c .bot, .c .bot, .c .bot, .c .bot, .c .bot, .c .bot, .c .bot, .c .bot, .c .bot, .c .bot, .c .bot, .c .bot, .c .bot, .c .bot, .c .bot, .c .bot, .c .bot, .c .bot, .c .bot, .c .bot, .c .bot, .c .bot, .c .bot, .c .bot, .c .bot, .c .bot, .c .bot, .c .bot, .c .bot, .c .bot, .c .bot, .c .bot, .c .bot, .c .bot, .c .bot, .c .bot, .c .bot, .c .bot, .c .bot, .c .bot, .c .bot, .c .bot, .c .bot, .c .bot, .c .bot, .c .bot, .c .bot, .c .bot, .c .bot, .c .bot, .c .bot, .c .bot, .c .bot, .c .bot, .c .bot, .c .bot, .c .bot, .c .bot, .c .bot, .c .bot, .c .bot, .c .bot], [(148, .box [.sc (.int .i64 (pi)), .rd [] 24 ((.row 2 (.int .i64))) (ts), .rd [] 136 ((.prod (.int .i64) (.prod (.int .i64) (.prod (.int .i64) (.row 2 (.int .i64)))))) (ns), .rd [] 2 (.int .i64) (os)]), (164, .box [.rd [] 24 ((.row 2 (.int .i64))) (cc)]), (244, .box [.ow 789]), (788, .row 2 (.int .i64) (U.1) []), (789, .tree 24 (.row 2 (.int .i64)) (U.2.1) none), (340, .box [.ow 1013]), (1012, .row 2 (.int .i64) (markL 1 U.1) []), (1013, .tree 24 (.row 2 (.int .i64)) (markLL (1 + (U.1.length : Int)) U.2.1) none)]⟩ (RetQ Try.prog Try.f3.results.toList [⟨.bool, true⟩] true) := by
  refine AWP_tail (code := _) (n := 30) rfl ?_
  simp only [tailAt]
  have hres : Try.f3.results.toList = [.tmp 6] := rfl
  have hUh1 : heldA mkI ctI 1 (markL 1 U.1) = 1 + (U.1.length : Int) := by rw [show heldA mkI ctI 1 (markL 1 U.1) = 1 + ((cntA ctI U.1 : Nat) : Int) from heldA_mark (fun _ _ => rfl) (fun _ _ => rfl), cntI]
  have hUh2 : heldA markL List.length (1 + (U.1.length : Int)) (markLL (1 + (U.1.length : Int)) U.2.1) = 1 + (U.1.length : Int) + (cntA List.length U.2.1 : Nat) := heldA_mark (fun _ _ => markA_len) markL_idem
  have hUm1 : mkOk 1 (cntA ctI (markL 1 U.1)) := by rw [cntI, markA_len]; exact ⟨by omega, by omega⟩
  have hUm2 : mkOk (1 + (U.1.length : Int)) (cntA List.length (markLL (1 + (U.1.length : Int)) U.2.1)) := by rw [markA_cnt (fun (_ : Int) (_ : List Int) => (markA_len : (markL _ _).length = _))]; exact ⟨by omega, by omega⟩
  have hUn1 : decide (1 + (U.1.length : Int) < 0) = false := decide_eq_false (by omega)
  have hUn2 : decide (1 + (U.1.length : Int) + ((cntA List.length U.2.1 : Nat) : Int) < 0) = false := decide_eq_false (by omega)
  refine AWP_seq_k fun K41 hK41 => ?_
  refine AWP_draw (G := G) (T := T_mHx21) T_mHx21_ok mixed
    [[], [0], [], [0, 1, 2], [], [0, 1, 2, 3, 4], [0, 1, 2, 3, 4, 5], [0, 1, 2, 3, 4, 5, 6], [0, 1, 2, 3, 4, 5, 6, 7], [0, 1, 2, 3, 4, 5, 6, 7], [0, 1, 2, 3, 4, 5, 6, 7], [], [0, 1, 2, 3, 4, 5, 6, 7, 8, 11], [0, 1, 2, 3, 4, 5, 6, 7, 8, 9, 11, 12], [0, 1, 2, 3, 4, 5, 6, 7, 8, 9, 10, 11, 12, 13]]
    [[436], [436], [436, 2340, 2341, 2342, 2343, 2344, 2345, 2346, 2347, 2348, 2349, 2350, 2351, 2352, 2353, 2354, 2355], [436], [30, 436, 2340, 2341, 2342, 2343, 2344, 2345, 2346, 2347, 2348, 2349, 2350, 2351, 2352, 2353, 2354, 2355, 2372, 2373, 2374, 2375, 2376, 2377, 2378, 2379, 2380, 2381, 2382, 2383, 2384, 2385, 2386, 2387], [436], [436], [436], [436], [436], [436], [30, 2340, 2341, 2342, 2343, 2344, 2345, 2346, 2347, 2348, 2349, 2350, 2351, 2352, 2353, 2354, 2355, 2372, 2373, 2374, 2375, 2376, 2377, 2378, 2379, 2380, 2381, 2382, 2383, 2384, 2385, 2386, 2387, 2404, 2405, 2406, 2407, 2408, 2409, 2410, 2411, 2412, 2413, 2414, 2415, 2416, 2417, 2418, 2419, 2420, 2421, 2422, 2423, 2424, 2425, 2426, 2427, 2428, 2429, 2430, 2431, 2432, 2433, 2434, 2435], [], [], []]
    [[], [2340, 2341, 2342, 2343, 2344, 2345, 2346, 2347, 2348, 2349, 2350, 2351, 2352, 2353, 2354, 2355], [], [30, 2372, 2373, 2374, 2375, 2376, 2377, 2378, 2379, 2380, 2381, 2382, 2383, 2384, 2385, 2386, 2387], [], [2404, 2405, 2406, 2407, 2408, 2409, 2410, 2411, 2412, 2413, 2414, 2415, 2416, 2417, 2418, 2419], [30, 2420, 2421, 2422, 2423, 2424, 2425, 2426, 2427, 2428, 2429, 2430, 2431, 2432, 2433, 2434, 2435], [], [], [], [], [436], [], [436], []] (by kernel_rfl) (by kernel_rfl) (adrawR_ok (acc := []) ?_)
  simp (maxSteps := 2000000) only [hU, eqD_rfl, hUh1, hUh2, hUn1, hUn2, go_sem]
  repeat (with_reducible refine And.intro (by first | exact chk_leaf (by kernel_rfl) | omega | exact ⟨rfl, by omega, by omega, by omega⟩ | assumption | exact ⟨by omega, by omega⟩) ?_)
  refine hK41 _ ?_
  refine AWP_seq_k fun K42 hK42 => ?_
  refine AWP_seq_k fun K43 hK43 => ?_
  refine AWP_wk (Wk_keep _ [0, 1, 2, 3, 4, 5, 6, 7, 8, 9, 10, 11, 12, 13, 14, 15, 16, 17, 18, 19, 20, 21, 22] [148, 164, 244, 788, 789, 276, 868, 869, 870, 292, 900, 932, 340, 1012, 1013, 436, 2420, 2421]) ?_
  simp (maxSteps := 2000000) only [go_sem]
  refine AWP_region (G := G) (T := T_mHx21) T_mHx21_ok ?_
  simp (maxSteps := 2000000) only [hU, eqD_rfl, hUh1, hUh2, hUn1, hUn2, go_sem]
  repeat' (first | (with_reducible refine And.intro (by first | omega | exact ⟨rfl, by omega, by omega, by omega⟩ | assumption | exact ⟨by omega, by omega⟩) ?_) | (with_reducible refine gcase_dt (fun g42 => ?_) (fun g42 => ?_)) | (with_reducible refine gcase_df (fun g42 => ?_) (fun g42 => ?_)) | (with_reducible refine gcase_ndt (fun g42 => ?_) (fun g42 => ?_)) | (with_reducible refine gcase_ndf (fun g42 => ?_) (fun g42 => ?_)) | (with_reducible refine gcase_nt (fun g42 => ?_) (fun g42 => ?_)) | (with_reducible refine gcase_nf (fun g42 => ?_) (fun g42 => ?_)) | (with_reducible refine gcase_mk (fun g42 => ?_) (fun g42 => ?_)))
  all_goals
    refine hK43 _ ?_
    refine AWP_cond rfl ?_ ?_
    · intro c11
      try simp only [decide_eq_true_eq, decide_eq_false_iff_not, Bool.not_eq_true', Bool.not_eq_false', ne_eq, Int.not_lt, Int.not_le, Bool.true_eq_false, Bool.false_eq_true] at c11
      all_goals
        all_goals first | (cases c11; done) | (simp at c11; done) | omega
    · intro c11
      try simp only [decide_eq_true_eq, decide_eq_false_iff_not, Bool.not_eq_true', Bool.not_eq_false', ne_eq, Int.not_lt, Int.not_le, Bool.true_eq_false, Bool.false_eq_true] at c11
      all_goals
        refine AWP_skip ?_
        simp (maxSteps := 2000000) only [go_sem]
        refine hK42 _ ?_
        refine AWP_seq_k fun K44 hK44 => ?_
        refine AWP_wk (Wk_keep _ [0, 1, 2, 3, 4, 5, 6, 7, 8, 9, 10, 11, 12, 13, 14, 15, 16, 17, 18, 19, 20, 21, 22] [148, 164, 244, 788, 789, 276, 868, 869, 870, 292, 900, 932, 340, 1012, 1013]) ?_
        simp (maxSteps := 2000000) only [go_sem]
        refine AWP_region (G := G) (T := T_mHx21) T_mHx21_ok ?_
        simp (maxSteps := 2000000) only [hU, eqD_rfl, hUh1, hUh2, hUn1, hUn2, go_sem]
        repeat (with_reducible refine And.intro (by first | omega | exact ⟨rfl, by omega, by omega, by omega⟩ | assumption | exact ⟨by omega, by omega⟩) ?_)
        refine hK44 _ ?_
        refine AWP_seq_k fun K45 hK45 => ?_
        refine AWP_region (G := G) (T := T_mHx21) T_mHx21_ok ?_
        simp (maxSteps := 2000000) only [hU, eqD_rfl, hUh1, hUh2, hUn1, hUn2, go_sem]
        repeat (with_reducible refine And.intro (by first | omega | exact ⟨rfl, by omega, by omega, by omega⟩ | assumption | exact ⟨by omega, by omega⟩) ?_)
        refine hK45 _ ?_
        refine AWP_seq_k fun K46 hK46 => ?_
        refine AWP_seq_k fun K47 hK47 => ?_
        refine AWP_region (G := G) (T := T_mHx21) T_mHx21_ok ?_
        simp (maxSteps := 2000000) only [hU, eqD_rfl, hUh1, hUh2, hUn1, hUn2, go_sem]
        repeat (with_reducible refine And.intro (by first | omega | exact ⟨rfl, by omega, by omega, by omega⟩ | assumption | exact ⟨by omega, by omega⟩) ?_)
        refine hK47 _ ?_
        refine AWP_cond rfl ?_ ?_
        · intro c12
          try simp only [decide_eq_true_eq, decide_eq_false_iff_not, Bool.not_eq_true', Bool.not_eq_false', ne_eq, Int.not_lt, Int.not_le, Bool.true_eq_false, Bool.false_eq_true] at c12
          all_goals
            all_goals first | (cases c12; done) | (simp at c12; done) | omega
        · intro c12
          try simp only [decide_eq_true_eq, decide_eq_false_iff_not, Bool.not_eq_true', Bool.not_eq_false', ne_eq, Int.not_lt, Int.not_le, Bool.true_eq_false, Bool.false_eq_true] at c12
          all_goals
            refine AWP_skip ?_
            simp (maxSteps := 2000000) only [go_sem]
            refine hK46 _ ?_
            refine AWP_seq_k fun K48 hK48 => ?_
            refine AWP_wk (Wk_keep _ [0, 1, 2, 3, 4, 5, 6, 7, 8, 9, 10, 11, 12, 13, 14, 15, 16, 17, 18, 19, 20, 21, 22] [148, 164, 244, 788, 789, 276, 868, 869, 870, 292, 900, 932, 340, 1012, 1013]) ?_
            simp (maxSteps := 2000000) only [go_sem]
            refine AWP_region (G := G) (T := T_mHx21) T_mHx21_ok ?_
            simp (maxSteps := 2000000) only [hU, eqD_rfl, hUh1, hUh2, hUn1, hUn2, go_sem]
            repeat (with_reducible refine And.intro (by first | omega | exact ⟨rfl, by omega, by omega, by omega⟩ | assumption | exact ⟨by omega, by omega⟩) ?_)
            refine hK48 _ ?_
            refine AWP_seq_k fun K49 hK49 => ?_
            refine AWP_seq_k fun K50 hK50 => ?_
            refine AWP_region (G := G) (T := T_mHx21) T_mHx21_ok ?_
            simp (maxSteps := 2000000) only [hU, eqD_rfl, hUh1, hUh2, hUn1, hUn2, go_sem]
            repeat (with_reducible refine And.intro (by first | omega | exact ⟨rfl, by omega, by omega, by omega⟩ | assumption | exact ⟨by omega, by omega⟩) ?_)
            refine hK50 _ ?_
            refine AWP_cond rfl ?_ ?_
            · intro c13
              try simp only [decide_eq_true_eq, decide_eq_false_iff_not, Bool.not_eq_true', Bool.not_eq_false', ne_eq, Int.not_lt, Int.not_le, Bool.true_eq_false, Bool.false_eq_true] at c13
              all_goals
                all_goals first | (cases c13; done) | (simp at c13; done) | omega
            · intro c13
              try simp only [decide_eq_true_eq, decide_eq_false_iff_not, Bool.not_eq_true', Bool.not_eq_false', ne_eq, Int.not_lt, Int.not_le, Bool.true_eq_false, Bool.false_eq_true] at c13
              all_goals
                refine AWP_skip ?_
                simp (maxSteps := 2000000) only [go_sem]
                refine hK49 _ ?_
                refine AWP_seq_k fun K51 hK51 => ?_
                refine AWP_seq_k fun K52 hK52 => ?_
                refine AWP_wk (Wk_keep _ [0, 1, 2, 3, 4, 5, 6, 7, 8, 9, 10, 11, 12, 13, 14, 15, 16, 17, 18, 19, 20, 21, 22] []) ?_
                simp (maxSteps := 2000000) only [go_sem]
                refine AWP_region (G := G) (T := T_mHx21) T_mHx21_ok ?_
                simp (maxSteps := 2000000) only [hU, eqD_rfl, hUh1, hUh2, hUn1, hUn2, go_sem]
                repeat (with_reducible refine And.intro (by first | omega | exact ⟨rfl, by omega, by omega, by omega⟩ | assumption | exact ⟨by omega, by omega⟩) ?_)
                refine hK52 _ ?_
                refine AWP_cond rfl ?_ ?_
                · intro c14
                  try simp only [decide_eq_true_eq, decide_eq_false_iff_not, Bool.not_eq_true', Bool.not_eq_false', ne_eq, Int.not_lt, Int.not_le, Bool.true_eq_false, Bool.false_eq_true] at c14
                  all_goals
                    all_goals first | (cases c14; done) | (simp at c14; done) | omega
                · intro c14
                  try simp only [decide_eq_true_eq, decide_eq_false_iff_not, Bool.not_eq_true', Bool.not_eq_false', ne_eq, Int.not_lt, Int.not_le, Bool.true_eq_false, Bool.false_eq_true] at c14
                  all_goals
                    refine AWP_skip ?_
                    simp (maxSteps := 2000000) only [go_sem]
                    refine hK51 _ ?_
                    refine AWP_seq_k fun K53 hK53 => ?_
                    refine AWP_region (G := G) (T := T_mHx21) T_mHx21_ok ?_
                    simp (maxSteps := 2000000) only [hU, eqD_rfl, hUh1, hUh2, hUn1, hUn2, go_sem]
                    repeat (with_reducible refine And.intro (by first | omega | exact ⟨rfl, by omega, by omega, by omega⟩ | assumption | exact ⟨by omega, by omega⟩) ?_)
                    refine hK53 _ ?_
                    refine AWP_ret ?_
                    simp (maxSteps := 2000000) only [hres, go_sem]
                    first
                      | exact finOk_mk (by rfl) (by decide)
                      | refine ⟨?_, finOk_mk (by rfl) (by decide)⟩
                        rfl
set_option maxRecDepth 100000 in
set_option maxHeartbeats 16000000 in
theorem lawStep_tail29 (pi : Int) (ts : List (List Int)) (ns : List NodeD) (os : List Int) (cc : List (List Int)) (ff : List Int) (U : List Int × List (List Int) × Int) (hU : stepR (pi, ts, ns, os) cc ff = U) (hUo : U.1.length ≤ 1000000) (hUc : cntA List.length U.2.1 ≤ 1000000) (f1 : fitsP (pi, ts, ns, os)) (f2 : fitsL cc) (f3 : ff.length ≤ 1099511627776) : ∀ c, Try.f3.body = some c → AWP Try.prog (tailAt 21 c) ⟨[.c .bot, .c .bot, .c (.rd [] 2 (.int .i64) (ff)), .c (.po 148 0), .c (.po 164 0), .c .bot, .c .bot, .c .bot, .c (.ow 788), .c (.po 244 0), .c (.sc (.int .i64 (U.2.2))), .c .bot, .c .bot, .c .bot, .c (.ow 1012), .c (.po 340 0), .c (.sc (.int .i64 (U.2.2))), .c .bot, .c .bot, .c .bot, .c .bot, .c .bot, .c .bot, .c .bot, .c .bot, .c .bot, .c .bot, .c .bot, .c .bot, .c .bot, .c .bot, .c .bot, .c .bot, .c .bot, .c .bot, .c .bot, .c .bot, .c .bot, .c .bot, .c .bot, .c .bot, .c .bot, .c .bot, .c .bot, .c .bot, .c .bot, .c .bot, .c .bot, .c .bot, .c .bot, .c .bot, .c .bot, .c .bot, .c .bot, .c .bot, .c .bot, .c .bot, .c .bot, .c .bot, .c .bot, .c .bot, .c .bot, .c .bot, .c .bot, .c .bot, .c .bot, .c .bot, .c .bot, .c .bot, .c .bot, .c .bot, .c .bot, .c .bot, .c .bot, .c .bot, .c .bot, .c .bot, .c .bot, .c .bot, .c .bot, .c .bot, .c .bot, .c .bot, .c .bot, .c .bot, .c .bot, .c .bot, .c .bot, .c .bot, .c .bot, .c .bot, .c .bot, .c .bot, .c .bot, .c .bot, .c .bot, .c .bot, .c .bot, .c .bot, .c .bot, .c .bot, .c .bot, .c .bot, .c .bot, .c .bot, .c .bot, .c .bot, .c .bot, .c .bot, .c .bot, .c .bot, .c .bot, .c .bot, .c .bot, .c .bot, .c .bot, .c .bot, .c .bot, .c .bot, .c .bot, .c .bot, .c .bot, .c .bot, .c .bot, .c .bot, .c .bot, .c .bot, .c .bot, .c .bot, .c .bot, .c .bot, .c .bot, .c .bot, .c .bot, .c .bot, .c .bot, .c .bot, .c .bot, .c .bot, .c .bot, .c .bot, .c .bot, .c .bot, .c .bot, .c .bot, .c .bot, .c .bot, .c .bot, .c .bot, .c .bot, .c .bot, .c .bot, .c .bot, .c .bot, .c .bot, .c .bot, .c .bot, .c .bot, .c .bot, .c .bot, .c .bot, .c .bot, .c .bot, .c .bot, .c .bot, .c .bot, .c .bot, .c .bot, .c .bot, .c .bot, .c .bot, .c .bot, .c .bot, .c .bot, .c .bot, .c .bot, .c .bot], [(148, .box [.sc (.int .i64 (pi)), .rd [] 24 ((.row 2 (.int .i64))) (ts), .rd [] 136 ((.prod (.int .i64) (.prod (.int .i64) (.prod (.int .i64) (.row 2 (.int .i64)))))) (ns), .rd [] 2 (.int .i64) (os)]), (164, .box [.rd [] 24 ((.row 2 (.int .i64))) (cc)]), (244, .box [.ow 789]), (788, .row 2 (.int .i64) (U.1) []), (789, .tree 24 (.row 2 (.int .i64)) (U.2.1) none), (340, .box [.ow 1013]), (1012, .row 2 (.int .i64) (U.1) []), (1013, .tree 24 (.row 2 (.int .i64)) (U.2.1) none)]⟩ (RetQ Try.prog Try.f3.results.toList [⟨.bool, true⟩] true) := by
  refine AWP_tail (code := _) (n := 21) rfl ?_
  simp only [tailAt]
  have hres : Try.f3.results.toList = [.tmp 6] := rfl
  have hUh1 : heldA mkI ctI 1 (markL 1 U.1) = 1 + (U.1.length : Int) := by rw [show heldA mkI ctI 1 (markL 1 U.1) = 1 + ((cntA ctI U.1 : Nat) : Int) from heldA_mark (fun _ _ => rfl) (fun _ _ => rfl), cntI]
  have hUh2 : heldA markL List.length (1 + (U.1.length : Int)) (markLL (1 + (U.1.length : Int)) U.2.1) = 1 + (U.1.length : Int) + (cntA List.length U.2.1 : Nat) := heldA_mark (fun _ _ => markA_len) markL_idem
  have hUm1 : mkOk 1 (cntA ctI (markL 1 U.1)) := by rw [cntI, markA_len]; exact ⟨by omega, by omega⟩
  have hUm2 : mkOk (1 + (U.1.length : Int)) (cntA List.length (markLL (1 + (U.1.length : Int)) U.2.1)) := by rw [markA_cnt (fun (_ : Int) (_ : List Int) => (markA_len : (markL _ _).length = _))]; exact ⟨by omega, by omega⟩
  have hUn1 : decide (1 + (U.1.length : Int) < 0) = false := decide_eq_false (by omega)
  have hUn2 : decide (1 + (U.1.length : Int) + ((cntA List.length U.2.1 : Nat) : Int) < 0) = false := decide_eq_false (by omega)
  refine AWP_seq_k fun K31 hK31 => ?_
  refine AWP_region (G := G) (T := T_mHx21) T_mHx21_ok ?_
  simp (maxSteps := 2000000) only [hU, eqD_rfl, hUh1, hUh2, hUn1, hUn2, go_sem]
  repeat (with_reducible refine And.intro (by first | omega | exact ⟨rfl, by omega, by omega, by omega⟩ | assumption | exact ⟨by omega, by omega⟩) ?_)
  refine hK31 _ ?_
  refine AWP_seq_k fun K32 hK32 => ?_
  refine AWP_region (G := G) (T := T_mHx21) T_mHx21_ok ?_
  simp (maxSteps := 2000000) only [hU, eqD_rfl, hUh1, hUh2, hUn1, hUn2, go_sem]
  repeat (with_reducible refine And.intro (by first | omega | exact ⟨rfl, by omega, by omega, by omega⟩ | assumption | exact ⟨by omega, by omega⟩) ?_)
  refine hK32 _ ?_
  refine AWP_seq_k fun K33 hK33 => ?_
  refine AWP_region (G := G) (T := T_mHx21) T_mHx21_ok ?_
  simp (maxSteps := 2000000) only [hU, eqD_rfl, hUh1, hUh2, hUn1, hUn2, go_sem]
  repeat (with_reducible refine And.intro (by first | omega | exact ⟨rfl, by omega, by omega, by omega⟩ | assumption | exact ⟨by omega, by omega⟩) ?_)
  refine hK33 _ ?_
  refine AWP_seq_k fun K34 hK34 => ?_
  refine AWP_region (G := G) (T := T_mHx21) T_mHx21_ok ?_
  simp (maxSteps := 2000000) only [hU, eqD_rfl, hUh1, hUh2, hUn1, hUn2, go_sem]
  repeat (with_reducible refine And.intro (by first | omega | exact ⟨rfl, by omega, by omega, by omega⟩ | assumption | exact ⟨by omega, by omega⟩) ?_)
  refine hK34 _ ?_
  refine AWP_seq_k fun K35 hK35 => ?_
  refine AWP_wk (Wk_keep _ [0, 1, 2, 3, 4, 5, 6, 7, 8, 9, 10, 11, 12, 13, 14, 15, 16, 17, 18, 19, 20, 21, 22] [148, 164, 244, 788, 789, 276, 868, 869, 870, 292, 900, 932, 340, 1012, 1013]) ?_
  simp (maxSteps := 2000000) only [go_sem]
  refine AWP_region (G := G) (T := T_mHx21) T_mHx21_ok ?_
  simp (maxSteps := 2000000) only [hU, eqD_rfl, hUh1, hUh2, hUn1, hUn2, go_sem]
  repeat (with_reducible refine And.intro (by first | omega | exact ⟨rfl, by omega, by omega, by omega⟩ | assumption | exact ⟨by omega, by omega⟩) ?_)
  refine hK35 _ ?_
  refine AWP_seq_k fun K36 hK36 => ?_
  refine AWP_seq_k fun K37 hK37 => ?_
  refine AWP_region (G := G) (T := T_mHx21) T_mHx21_ok ?_
  simp (maxSteps := 2000000) only [hU, eqD_rfl, hUh1, hUh2, hUn1, hUn2, go_sem]
  repeat (with_reducible refine And.intro (by first | omega | exact ⟨rfl, by omega, by omega, by omega⟩ | assumption | exact ⟨by omega, by omega⟩) ?_)
  refine hK37 _ ?_
  refine AWP_cond rfl ?_ ?_
  · intro c8
    try simp only [decide_eq_true_eq, decide_eq_false_iff_not, Bool.not_eq_true', Bool.not_eq_false', ne_eq, Int.not_lt, Int.not_le] at c8
    all_goals first | (cases c8; done) | (simp at c8; done) | omega
  · intro c8
    try simp only [decide_eq_true_eq, decide_eq_false_iff_not, Bool.not_eq_true', Bool.not_eq_false', ne_eq, Int.not_lt, Int.not_le] at c8
    refine AWP_skip ?_
    simp (maxSteps := 2000000) only [go_sem]
    refine hK36 _ ?_
    refine AWP_seq_k fun K38 hK38 => ?_
    refine AWP_wk (Wk_keep _ [0, 1, 2, 3, 4, 5, 6, 7, 8, 9, 10, 11, 12, 13, 14, 15, 16, 17, 18, 19, 20, 21, 22] [148, 164, 244, 788, 789, 276, 868, 869, 870, 292, 900, 932, 340, 1012, 1013]) ?_
    simp (maxSteps := 2000000) only [go_sem]
    refine AWP_region (G := G) (T := T_mHx21) T_mHx21_ok ?_
    simp (maxSteps := 2000000) only [hU, eqD_rfl, hUh1, hUh2, hUn1, hUn2, go_sem]
    repeat (with_reducible refine And.intro (by first | omega | exact ⟨rfl, by omega, by omega, by omega⟩ | assumption | exact ⟨by omega, by omega⟩) ?_)
    refine hK38 _ ?_
    refine AWP_seq_k fun K39 hK39 => ?_
    refine AWP_seq_k fun K40 hK40 => ?_
    refine AWP_region (G := G) (T := T_mHx21) T_mHx21_ok ?_
    simp (maxSteps := 2000000) only [hU, eqD_rfl, hUh1, hUh2, hUn1, hUn2, go_sem]
    repeat (with_reducible refine And.intro (by first | omega | exact ⟨rfl, by omega, by omega, by omega⟩ | assumption | exact ⟨by omega, by omega⟩) ?_)
    refine hK40 _ ?_
    refine AWP_cond rfl ?_ ?_
    · intro c9
      try simp only [decide_eq_true_eq, decide_eq_false_iff_not, Bool.not_eq_true', Bool.not_eq_false', ne_eq, Int.not_lt, Int.not_le] at c9
      all_goals first | (cases c9; done) | (simp at c9; done) | omega
    · intro c9
      try simp only [decide_eq_true_eq, decide_eq_false_iff_not, Bool.not_eq_true', Bool.not_eq_false', ne_eq, Int.not_lt, Int.not_le] at c9
      refine AWP_skip ?_
      simp (maxSteps := 2000000) only [go_sem]
      refine hK39 _ ?_
      refine AWP_seq_j True ⟨[.c .bot, .c .bot, .c (.rd [] 2 (.int .i64) (ff)), .c (.po 148 0), .c (.po 164 0), .c .bot, .c .bot, .c .bot, .c (.ow 788), .c (.po 244 0), .c (.sc (.int .i64 (U.2.2))), .c .bot, .c .bot, .c .bot, .c (.ow 1012), .c (.po 340 0), .c (.sc (.int .i64 (U.2.2))), .c .bot, .c (.sc (.int .i64 (1 + (U.1.length : Int) + (cntA List.length U.2.1 : Nat)))), .c .bot, .c .bot, .c .bot, .c .bot, .c .bot, .c .bot, .c .bot, .c .bot, .c .bot, .c .bot, .c .bot, .c .bot, .c .bot, .c .bot, .c .bot, .c .bot, .c .bot, .c .bot, .c .bot, .c .bot, .c .bot, .c .bot, .c .bot, .c .bot, .c .bot, .c .bot, .c .bot, .c .bot, .c .bot, .c .bot, .c .bot, .c .bot, .c .bot, .c .bot, .c .bot, .c .bot, .c .bot, .c .bot, .c .bot, .c .bot, .c .bot, .c .bot, .c .bot, .c .bot, .c .bot, .c .bot, .c .bot, .c .bot, .c .bot, .c .bot, .c .bot, .c .bot, .c .bot, .c .bot, .c .bot, .c .bot, .c .bot, .c .bot, .c .bot, .c .bot, .c .bot, .c .bot, .c .bot, .c .bot, .c .bot, .c .bot, .c .bot, .c .bot, .c .bot, .c .bot, .c .bot, .c .bot, .c .bot, .c .bot, .c .bot, .c .bot, .c .bot, .c .bot, .c .bot, .c .bot, .c .bot, .c .bot, .c .bot, .c .bot, .c .bot, .c .bot, .c .bot, .c .bot, .c .bot, .c .bot, .c .bot, .c .bot, .c .bot, .c .bot, .c .bot, .c .bot, .c .bot, .c .bot, .c .bot, .c .bot, .c .bot, .c .bot, .c .bot, .c .bot, .c .bot, .c .bot, .c .bot, .c .bot, .c .bot, .c .bot, .c .bot, .c .bot, .c .bot, .c .bot, .c .bot, .c .bot, .c .bot, .c .bot, .c .bot, .c .bot, .c .bot, .c .bot, .c .bot, .c .bot, .c .bot, .c .bot, .c .bot, .c .bot, .c .bot, .c .bot, .c .bot, .c .bot, .c .bot, .c .bot, .c .bot, .c .bot, .c .bot, .c .bot, .c .bot, .c .bot, .c .bot, .c .bot, .c .bot, .c .bot, .c .bot, .c .bot, .c .bot, .c .bot, .c .bot, .c .bot, .c .bot, .c .bot, .c .bot, .c .bot, .c .bot, .c .bot, .c .bot, .c .bot], [(148, .box [.sc (.int .i64 (pi)), .rd [] 24 ((.row 2 (.int .i64))) (ts), .rd [] 136 ((.prod (.int .i64) (.prod (.int .i64) (.prod (.int .i64) (.row 2 (.int .i64)))))) (ns), .rd [] 2 (.int .i64) (os)]), (164, .box [.rd [] 24 ((.row 2 (.int .i64))) (cc)]), (244, .box [.ow 789]), (788, .row 2 (.int .i64) (U.1) []), (789, .tree 24 (.row 2 (.int .i64)) (U.2.1) none), (340, .box [.ow 1013]), (1012, .row 2 (.int .i64) (markL 1 U.1) []), (1013, .tree 24 (.row 2 (.int .i64)) (markLL (1 + (U.1.length : Int)) U.2.1) none)]⟩ ?_ fun K54 hK54 => ?_
      · intro _
        exact lawStep_tail41 pi ts ns os cc ff U hU hUo hUc f1 f2 f3 _ rfl
      refine AWP_seq_k fun K55 hK55 => ?_
      refine AWP_wk (Wk_keep _ [0, 1, 2, 3, 4, 5, 6, 7, 8, 9, 10, 11, 12, 13, 14, 15, 16, 17, 18, 19, 20, 21, 22] [148, 164, 244, 788, 789, 276, 868, 869, 870, 292, 900, 932, 340, 1012, 1013]) ?_
      simp (maxSteps := 2000000) only [go_sem]
      refine AWP_region (G := G) (T := T_mHx21) T_mHx21_ok ?_
      simp (maxSteps := 2000000) only [hU, eqD_rfl, hUh1, hUh2, hUn1, hUn2, go_sem]
      repeat (with_reducible refine And.intro (by first | omega | exact ⟨rfl, by omega, by omega, by omega⟩ | assumption | exact ⟨by omega, by omega⟩) ?_)
      refine hK55 _ ?_
      refine AWP_cond rfl ?_ ?_
      · intro c10
        try simp only [decide_eq_true_eq, decide_eq_false_iff_not, Bool.not_eq_true', Bool.not_eq_false', ne_eq, Int.not_lt, Int.not_le] at c10
        all_goals first | (cases c10; done) | (simp at c10; done) | omega
      · intro c10
        try simp only [decide_eq_true_eq, decide_eq_false_iff_not, Bool.not_eq_true', Bool.not_eq_false', ne_eq, Int.not_lt, Int.not_le] at c10
        refine AWP_skip ?_
        simp (maxSteps := 2000000) only [go_sem]
        refine hK54 _ (Wk_to (by rfl) ?_) trivial
        simp (maxSteps := 2000000) only [go_sem]
        all_goals (first | rfl | ((repeat' refine And.intro ?_ ?_) <;> first | rfl | exact wk (by omega) | simp))
set_option maxRecDepth 100000 in
set_option maxHeartbeats 16000000 in
theorem lawStep_ok : PureT Try.prog 3 K_lawStep := by
  refine pure_of_body Try.func3 rfl ?_
  have hres : Try.f3.results.toList = [.tmp 6] := rfl
  rintro ⟨⟨(pi : Int), (ts : List (List Int)), (ns : List NodeD), (os : List Int)⟩, (cc : List (List Int)), (ff : List Int), _⟩ hc hL
  simp only [K_lawStep, lensOk, PK.lenOk, glensOk, GP.lenOk, flensOk, GO.lenOk, olensOk, Ty.lenOk, Ty.flat, Bool.and_true, Bool.true_and, Bool.and_false, Bool.false_and, true_and, and_true, implies_true, forall_const] at hL
  simp only [K_lawStep, St.init, St.initG, Try.ntmps3, go_sem] 
  obtain ⟨U, hU⟩ : ∃ U, stepR (pi, ts, ns, os) cc ff = U := ⟨_, rfl⟩
  have hUo : U.1.length ≤ 1000000 ∧ cntA List.length U.2.1 ≤ 1000000 := by rw [← hU]; exact stepR_bd _ _ _
  obtain ⟨hUo, hUc⟩ := hUo
  refine AWP_seq_k fun K1 hK1 => ?_
  refine AWP_region (G := G) (T := T_mHx21) T_mHx21_ok ?_
  simp (maxSteps := 2000000) only [go_sem]
  refine hK1 _ ?_
  refine AWP_seq_k fun K2 hK2 => ?_
  refine AWP_seq_k fun K3 hK3 => ?_
  refine AWP_region (G := G) (T := T_mHx21) T_mHx21_ok ?_
  simp (maxSteps := 2000000) only [go_sem]
  refine hK3 _ ?_
  refine AWP_cond rfl ?_ ?_
  · intro c0
    try simp only [decide_eq_true_eq, decide_eq_false_iff_not, Bool.not_eq_true', Bool.not_eq_false', ne_eq, Int.not_lt, Int.not_le] at c0
    refine AWP_seq_k fun K4 hK4 => ?_
    refine AWP_region (G := G) (T := T_mHx21) T_mHx21_ok ?_
    simp (maxSteps := 2000000) only [go_sem]
    refine hK4 _ ?_
    refine AWP_ret ?_
    simp (maxSteps := 2000000) only [hres, go_sem]
    first
      | exact finOk_mk (by rfl) (by decide)
      | refine ⟨?_, finOk_mk (by rfl) (by decide)⟩
        rfl
  · intro c0
    try simp only [decide_eq_true_eq, decide_eq_false_iff_not, Bool.not_eq_true', Bool.not_eq_false', ne_eq, Int.not_lt, Int.not_le] at c0
    refine AWP_skip ?_
    simp (maxSteps := 2000000) only [go_sem]
    refine hK2 _ ?_
    refine AWP_seq_k fun K5 hK5 => ?_
    refine AWP_region (G := G) (T := T_mHx21) T_mHx21_ok ?_
    simp (maxSteps := 2000000) only [go_sem]
    refine hK5 _ ?_
    refine AWP_seq_k fun K6 hK6 => ?_
    refine AWP_region (G := G) (T := T_mHx21) T_mHx21_ok ?_
    simp (maxSteps := 2000000) only [go_sem]
    repeat (with_reducible refine And.intro (by first | omega | exact ⟨rfl, by omega, by omega, by omega⟩ | exact ⟨by omega, by omega⟩) ?_)
    refine hK6 _ ?_
    refine AWP_seq_k fun K7 hK7 => ?_
    refine AWP_seq_k fun K8 hK8 => ?_
    refine AWP_region (G := G) (T := T_mHx21) T_mHx21_ok ?_
    simp (maxSteps := 2000000) only [go_sem]
    refine hK8 _ ?_
    refine AWP_cond rfl ?_ ?_
    · intro c1
      try simp only [decide_eq_true_eq, decide_eq_false_iff_not, Bool.not_eq_true', Bool.not_eq_false', ne_eq, Int.not_lt, Int.not_le] at c1
      refine AWP_seq_k fun K9 hK9 => ?_
      refine AWP_region (G := G) (T := T_mHx21) T_mHx21_ok ?_
      simp (maxSteps := 2000000) only [go_sem]
      refine hK9 _ ?_
      refine AWP_ret ?_
      simp (maxSteps := 2000000) only [hres, go_sem]
      first
        | exact finOk_mk (by rfl) (by decide)
        | refine ⟨?_, finOk_mk (by rfl) (by decide)⟩
          rfl
    · intro c1
      try simp only [decide_eq_true_eq, decide_eq_false_iff_not, Bool.not_eq_true', Bool.not_eq_false', ne_eq, Int.not_lt, Int.not_le] at c1
      obtain ⟨e1, e1'⟩ := szR_ge' c1
      have f1 : fitsP (pi, ts, ns, os) := fitsP_sz (by omega)
      have g1 := ctP_le (pi, ts, ns, os)
      refine AWP_skip ?_
      simp (maxSteps := 2000000) only [go_sem]
      refine hK7 _ ?_
      refine AWP_seq_k fun K10 hK10 => ?_
      refine AWP_region (G := G) (T := T_mHx21) T_mHx21_ok ?_
      simp (maxSteps := 2000000) only [go_sem]
      repeat (with_reducible refine And.intro (by first | omega | exact ⟨rfl, by omega, by omega, by omega⟩ | exact ⟨by omega, by omega⟩) ?_)
      refine hK10 _ ?_
      refine AWP_seq_k fun K11 hK11 => ?_
      refine AWP_seq_k fun K12 hK12 => ?_
      refine AWP_region (G := G) (T := T_mHx21) T_mHx21_ok ?_
      simp (maxSteps := 2000000) only [go_sem]
      refine hK12 _ ?_
      refine AWP_cond rfl ?_ ?_
      · intro c2
        try simp only [decide_eq_true_eq, decide_eq_false_iff_not, Bool.not_eq_true', Bool.not_eq_false', ne_eq, Int.not_lt, Int.not_le] at c2
        refine AWP_seq_k fun K13 hK13 => ?_
        refine AWP_region (G := G) (T := T_mHx21) T_mHx21_ok ?_
        simp (maxSteps := 2000000) only [go_sem]
        refine hK13 _ ?_
        refine AWP_ret ?_
        simp (maxSteps := 2000000) only [hres, go_sem]
        first
          | exact finOk_mk (by rfl) (by decide)
          | refine ⟨?_, finOk_mk (by rfl) (by decide)⟩
            rfl
      · intro c2
        try simp only [decide_eq_true_eq, decide_eq_false_iff_not, Bool.not_eq_true', Bool.not_eq_false', ne_eq, Int.not_lt, Int.not_le] at c2
        obtain ⟨e2, e2'⟩ := szR_ge' c2
        have f2 : fitsL cc := fitsL_sz (by omega)
        have g2 := cnt_sz cc
        have hz1 : ctP (0, ts, ns, os) = ctP (pi, ts, ns, os) := rfl
        have hn1 : decide (1 + (ctP (0, ts, ns, os) : Int) + ((cntA List.length cc : Nat) : Int) + (ff.length : Int) < 0) = false := decide_eq_false (by omega)
        refine AWP_skip ?_
        simp (maxSteps := 2000000) only [go_sem]
        refine hK11 _ ?_
        refine AWP_seq_k fun K14 hK14 => ?_
        refine AWP_wk (Wk_keep _ [0, 1, 2, 3, 4, 5, 6, 7, 8, 9, 10, 11, 12, 13, 14, 15, 16, 17, 18, 19, 20, 21, 22] [148, 164]) ?_
        simp (maxSteps := 2000000) only [go_sem]
        refine AWP_draw (G := G) (T := T_mHx21) T_mHx21_ok mixed
          [[], [0], [], [0, 1, 2], [], [0, 1, 2, 3, 4], [0, 1, 2, 3, 4, 5], [0, 1, 2, 3, 4, 5, 6], [0, 1, 2, 3, 4, 5, 6, 7], [0, 1, 2, 3, 4, 5, 6, 7], [0, 1, 2, 3, 4, 5, 6, 7], [], [0, 1, 2, 3, 4, 5, 6, 7, 8, 11], [0, 1, 2, 3, 4, 5, 6, 7, 8, 9, 11, 12], [0, 1, 2, 3, 4, 5, 6, 7, 8, 9, 10, 11, 12, 13]]
          [[244], [244], [244, 708, 709, 710, 711, 712, 713, 714, 715, 716, 717, 718, 719, 720, 721, 722, 723], [244], [30, 244, 708, 709, 710, 711, 712, 713, 714, 715, 716, 717, 718, 719, 720, 721, 722, 723, 740, 741, 742, 743, 744, 745, 746, 747, 748, 749, 750, 751, 752, 753, 754, 755], [244], [244], [244], [244], [244], [244], [30, 708, 709, 710, 711, 712, 713, 714, 715, 716, 717, 718, 719, 720, 721, 722, 723, 740, 741, 742, 743, 744, 745, 746, 747, 748, 749, 750, 751, 752, 753, 754, 755, 772, 773, 774, 775, 776, 777, 778, 779, 780, 781, 782, 783, 784, 785, 786, 787, 788, 789, 790, 791, 792, 793, 794, 795, 796, 797, 798, 799, 800, 801, 802, 803], [], [], []]
          [[], [708, 709, 710, 711, 712, 713, 714, 715, 716, 717, 718, 719, 720, 721, 722, 723], [], [30, 740, 741, 742, 743, 744, 745, 746, 747, 748, 749, 750, 751, 752, 753, 754, 755], [], [772, 773, 774, 775, 776, 777, 778, 779, 780, 781, 782, 783, 784, 785, 786, 787], [30, 788, 789, 790, 791, 792, 793, 794, 795, 796, 797, 798, 799, 800, 801, 802, 803], [], [], [], [], [244], [], [244], []] (by kernel_rfl) (by kernel_rfl) (adrawR_ok (acc := []) ?_)
        simp (maxSteps := 2000000) only [hU, eqD_rfl, hn1, go_sem]
        repeat (with_reducible refine And.intro (by first | exact chk_leaf (by kernel_rfl) | omega | exact ⟨rfl, by omega, by omega, by omega⟩ | assumption | exact ⟨by omega, by omega⟩) ?_)
        refine hK14 _ ?_
        refine AWP_seq_k fun K15 hK15 => ?_
        refine AWP_wk (Wk_keep _ [0, 1, 2, 3, 4, 5, 6, 7, 8, 9, 10, 11, 12, 13, 14, 15, 16, 17, 18, 19, 20, 21, 22] [148, 164, 244, 788, 789]) ?_
        simp (maxSteps := 2000000) only [go_sem]
        refine AWP_region (G := G) (T := T_mHx21) T_mHx21_ok ?_
        simp (maxSteps := 2000000) only [hU, eqD_rfl, hn1, go_sem]
        repeat (with_reducible refine And.intro (by first | omega | exact ⟨rfl, by omega, by omega, by omega⟩ | assumption | exact ⟨by omega, by omega⟩) ?_)
        refine hK15 _ ?_
        refine AWP_seq_k fun K16 hK16 => ?_
        refine AWP_region (G := G) (T := T_mHx21) T_mHx21_ok ?_
        simp (maxSteps := 2000000) only [hU, eqD_rfl, hn1, go_sem]
        repeat (with_reducible refine And.intro (by first | omega | exact ⟨rfl, by omega, by omega, by omega⟩ | assumption | exact ⟨by omega, by omega⟩) ?_)
        refine hK16 _ ?_
        refine AWP_seq_k fun K17 hK17 => ?_
        refine AWP_region (G := G) (T := T_mHx21) T_mHx21_ok ?_
        simp (maxSteps := 2000000) only [hU, eqD_rfl, hn1, go_sem]
        repeat (with_reducible refine And.intro (by first | omega | exact ⟨rfl, by omega, by omega, by omega⟩ | assumption | exact ⟨by omega, by omega⟩) ?_)
        refine hK17 _ ?_
        refine AWP_seq_k fun K18 hK18 => ?_
        refine AWP_wk (Wk_keep _ [0, 1, 2, 3, 4, 5, 6, 7, 8, 9, 10, 11, 12, 13, 14, 15, 16, 17, 18, 19, 20, 21, 22] [148, 164, 244, 788, 789, 276, 868, 869, 870, 292, 900, 932]) ?_
        simp (maxSteps := 2000000) only [go_sem]
        refine AWP_region (G := G) (T := T_mHx21) T_mHx21_ok ?_
        simp (maxSteps := 2000000) only [hU, eqD_rfl, hn1, go_sem]
        repeat (with_reducible refine And.intro (by first | omega | exact ⟨rfl, by omega, by omega, by omega⟩ | assumption | exact ⟨by omega, by omega⟩) ?_)
        refine hK18 _ ?_
        refine AWP_seq_k fun K19 hK19 => ?_
        refine AWP_seq_k fun K20 hK20 => ?_
        refine AWP_wk (Wk_keep _ [0, 1, 2, 3, 4, 5, 6, 7, 8, 9, 10, 11, 12, 13, 14, 15, 16, 17, 18, 19, 20, 21, 22] [148, 164, 244, 788, 789, 276, 868, 869, 870, 292, 900, 932, 340, 1012, 1013]) ?_
        simp (maxSteps := 2000000) only [go_sem]
        refine AWP_region (G := G) (T := T_mHx21) T_mHx21_ok ?_
        simp (maxSteps := 2000000) only [hU, eqD_rfl, hn1, go_sem]
        repeat' (first | (with_reducible refine And.intro (by first | omega | exact ⟨rfl, by omega, by omega, by omega⟩ | assumption | exact ⟨by omega, by omega⟩) ?_) | (with_reducible refine gcase_dt (fun g15 => ?_) (fun g15 => ?_)) | (with_reducible refine gcase_df (fun g15 => ?_) (fun g15 => ?_)) | (with_reducible refine gcase_ndt (fun g15 => ?_) (fun g15 => ?_)) | (with_reducible refine gcase_ndf (fun g15 => ?_) (fun g15 => ?_)) | (with_reducible refine gcase_nt (fun g15 => ?_) (fun g15 => ?_)) | (with_reducible refine gcase_nf (fun g15 => ?_) (fun g15 => ?_)) | (with_reducible refine gcase_mk (fun g15 => ?_) (fun g15 => ?_)))
        all_goals
          refine hK20 _ ?_
          refine AWP_cond rfl ?_ ?_
          · intro c3
            try simp only [decide_eq_true_eq, decide_eq_false_iff_not, Bool.not_eq_true', Bool.not_eq_false', ne_eq, Int.not_lt, Int.not_le, Bool.true_eq_false, Bool.false_eq_true] at c3
            all_goals
              all_goals first | (cases c3; done) | (simp at c3; done) | omega
          · intro c3
            try simp only [decide_eq_true_eq, decide_eq_false_iff_not, Bool.not_eq_true', Bool.not_eq_false', ne_eq, Int.not_lt, Int.not_le, Bool.true_eq_false, Bool.false_eq_true] at c3
            all_goals
              refine AWP_skip ?_
              simp (maxSteps := 2000000) only [go_sem]
              refine hK19 _ ?_
              refine AWP_seq_k fun K21 hK21 => ?_
              refine AWP_seq_k fun K22 hK22 => ?_
              refine AWP_wk (Wk_keep _ [0, 1, 2, 3, 4, 5, 6, 7, 8, 9, 10, 11, 12, 13, 14, 15, 16, 17, 18, 19, 20, 21, 22] [148, 164, 244, 788, 789, 276, 868, 869, 870, 292, 900, 932, 340, 1012, 1013]) ?_
              simp (maxSteps := 2000000) only [go_sem]
              refine AWP_draw (G := G) (T := T_mHx21) T_mHx21_ok mixed
                [[], [], [1], [0, 1, 2], [0, 1, 2, 3]]
                [[1348, 1349, 1350, 1351, 1352, 1353, 1354, 1355, 1356, 1357, 1358, 1359, 1360, 1361, 1362, 1363], [], [], [], []]
                [[], [], [1348, 1349, 1350, 1351, 1352, 1353, 1354, 1355, 1356, 1357, 1358, 1359, 1360, 1361, 1362, 1363], [], []] (by kernel_rfl) (by kernel_rfl) (adrawR_ok (acc := []) ?_)
              simp (maxSteps := 2000000) only [hU, eqD_rfl, hn1, go_sem]
              repeat (with_reducible refine And.intro (by first | exact chk_leaf (by kernel_rfl) | omega | exact ⟨rfl, by omega, by omega, by omega⟩ | assumption | exact ⟨by omega, by omega⟩) ?_)
              refine hK22 _ ?_
              refine AWP_cond rfl ?_ ?_
              · intro c4
                try simp only [decide_eq_true_eq, decide_eq_false_iff_not, Bool.not_eq_true', Bool.not_eq_false', ne_eq, Int.not_lt, Int.not_le, Bool.true_eq_false, Bool.false_eq_true] at c4
                all_goals
                  all_goals first | (cases c4; done) | (simp at c4; done) | omega
              · intro c4
                try simp only [decide_eq_true_eq, decide_eq_false_iff_not, Bool.not_eq_true', Bool.not_eq_false', ne_eq, Int.not_lt, Int.not_le, Bool.true_eq_false, Bool.false_eq_true] at c4
                all_goals
                  refine AWP_skip ?_
                  simp (maxSteps := 2000000) only [go_sem]
                  refine hK21 _ ?_
                  refine AWP_seq_k fun K23 hK23 => ?_
                  refine AWP_seq_k fun K24 hK24 => ?_
                  refine AWP_wk (Wk_keep _ [0, 1, 2, 3, 4, 5, 6, 7, 8, 9, 10, 11, 12, 13, 14, 15, 16, 17, 18, 19, 20, 21, 22] [148, 164, 244, 788, 789, 276, 868, 869, 870, 292, 900, 932, 340, 1012, 1013]) ?_
                  simp (maxSteps := 2000000) only [go_sem]
                  refine AWP_draw (G := G) (T := T_mHx21) T_mHx21_ok mixed
                    [[], [], [1], [0, 1, 2], [0, 1, 2, 3]]
                    [[30, 1428, 1429, 1430, 1431, 1432, 1433, 1434, 1435, 1436, 1437, 1438, 1439, 1440, 1441, 1442, 1443], [], [], [], []]
                    [[], [], [30, 1428, 1429, 1430, 1431, 1432, 1433, 1434, 1435, 1436, 1437, 1438, 1439, 1440, 1441, 1442, 1443], [], []] (by kernel_rfl) (by kernel_rfl) (adrawR_ok (acc := []) ?_)
                  simp (maxSteps := 2000000) only [hU, eqD_rfl, hn1, go_sem]
                  repeat (with_reducible refine And.intro (by first | exact chk_leaf (by kernel_rfl) | omega | exact ⟨rfl, by omega, by omega, by omega⟩ | assumption | exact ⟨by omega, by omega⟩) ?_)
                  refine hK24 _ ?_
                  refine AWP_cond rfl ?_ ?_
                  · intro c5
                    try simp only [decide_eq_true_eq, decide_eq_false_iff_not, Bool.not_eq_true', Bool.not_eq_false', ne_eq, Int.not_lt, Int.not_le, Bool.true_eq_false, Bool.false_eq_true] at c5
                    all_goals
                      all_goals first | (cases c5; done) | (simp at c5; done) | omega
                  · intro c5
                    try simp only [decide_eq_true_eq, decide_eq_false_iff_not, Bool.not_eq_true', Bool.not_eq_false', ne_eq, Int.not_lt, Int.not_le, Bool.true_eq_false, Bool.false_eq_true] at c5
                    all_goals
                      refine AWP_skip ?_
                      simp (maxSteps := 2000000) only [go_sem]
                      refine hK23 _ ?_
                      refine AWP_seq_k fun K25 hK25 => ?_
                      refine AWP_seq_k fun K26 hK26 => ?_
                      refine AWP_wk (Wk_keep _ [0, 1, 2, 3, 4, 5, 6, 7, 8, 9, 10, 11, 12, 13, 14, 15, 16, 17, 18, 19, 20, 21, 22] [148, 164, 244, 788, 789, 276, 868, 869, 870, 292, 900, 932, 340, 1012, 1013]) ?_
                      simp (maxSteps := 2000000) only [go_sem]
                      refine AWP_region (G := G) (T := T_mHx21) T_mHx21_ok ?_
                      simp (maxSteps := 2000000) only [hU, eqD_rfl, hn1, go_sem]
                      repeat (with_reducible refine And.intro (by first | omega | exact ⟨rfl, by omega, by omega, by omega⟩ | assumption | exact ⟨by omega, by omega⟩) ?_)
                      refine hK26 _ ?_
                      refine AWP_cond rfl ?_ ?_
                      · intro c6
                        try simp only [decide_eq_true_eq, decide_eq_false_iff_not, Bool.not_eq_true', Bool.not_eq_false', ne_eq, Int.not_lt, Int.not_le, Bool.true_eq_false, Bool.false_eq_true] at c6
                        all_goals
                          all_goals first | (cases c6; done) | (simp at c6; done) | omega
                      · intro c6
                        try simp only [decide_eq_true_eq, decide_eq_false_iff_not, Bool.not_eq_true', Bool.not_eq_false', ne_eq, Int.not_lt, Int.not_le, Bool.true_eq_false, Bool.false_eq_true] at c6
                        all_goals
                          refine AWP_skip ?_
                          simp (maxSteps := 2000000) only [go_sem]
                          refine hK25 _ ?_
                          refine AWP_seq_k fun K27 hK27 => ?_
                          refine AWP_wk (Wk_keep _ [0, 1, 2, 3, 4, 5, 6, 7, 8, 9, 10, 11, 12, 13, 14, 15, 16, 17, 18, 19, 20, 21, 22] [148, 164, 244, 788, 789, 276, 868, 869, 870, 292, 900, 932, 340, 1012, 1013]) ?_
                          simp (maxSteps := 2000000) only [go_sem]
                          refine AWP_region (G := G) (T := T_mHx21) T_mHx21_ok ?_
                          simp (maxSteps := 2000000) only [hU, eqD_rfl, hn1, go_sem]
                          repeat (with_reducible refine And.intro (by first | omega | exact ⟨rfl, by omega, by omega, by omega⟩ | assumption | exact ⟨by omega, by omega⟩) ?_)
                          refine hK27 _ ?_
                          refine AWP_seq_k fun K28 hK28 => ?_
                          refine AWP_region (G := G) (T := T_mHx21) T_mHx21_ok ?_
                          simp (maxSteps := 2000000) only [hU, eqD_rfl, hn1, go_sem]
                          repeat (with_reducible refine And.intro (by first | omega | exact ⟨rfl, by omega, by omega, by omega⟩ | assumption | exact ⟨by omega, by omega⟩) ?_)
                          refine hK28 _ ?_
                          refine AWP_seq_k fun K29 hK29 => ?_
                          refine AWP_region (G := G) (T := T_mHx21) T_mHx21_ok ?_
                          simp (maxSteps := 2000000) only [hU, eqD_rfl, hn1, go_sem]
                          repeat (with_reducible refine And.intro (by first | omega | exact ⟨rfl, by omega, by omega, by omega⟩ | assumption | exact ⟨by omega, by omega⟩) ?_)
                          refine hK29 _ ?_
                          refine AWP_seq_k fun K30 hK30 => ?_
                          refine AWP_region (G := G) (T := T_mHx21) T_mHx21_ok ?_
                          simp (maxSteps := 2000000) only [hU, eqD_rfl, hn1, go_sem]
                          repeat (with_reducible refine And.intro (by first | omega | exact ⟨rfl, by omega, by omega, by omega⟩ | assumption | exact ⟨by omega, by omega⟩) ?_)
                          refine hK30 _ ?_
                          refine AWP_seq_j True ⟨[.c .bot, .c .bot, .c (.rd [] 2 (.int .i64) (ff)), .c (.po 148 0), .c (.po 164 0), .c .bot, .c .bot, .c .bot, .c (.ow 788), .c (.po 244 0), .c (.sc (.int .i64 (U.2.2))), .c .bot, .c .bot, .c .bot, .c (.ow 1012), .c (.po 340 0), .c (.sc (.int .i64 (U.2.2))), .c .bot, .c .bot, .c .bot, .c .bot, .c .bot, .c .bot, .c .bot, .c .bot, .c .bot, .c .bot, .c .bot, .c .bot, .c .bot, .c .bot, .c .bot, .c .bot, .c .bot, .c .bot, .c .bot, .c .bot, .c .bot, .c .bot, .c .bot, .c .bot, .c .bot, .c .bot, .c .bot, .c .bot, .c .bot, .c .bot, .c .bot, .c .bot, .c .bot, .c .bot, .c .bot, .c .bot, .c .bot, .c .bot, .c .bot, .c .bot, .c .bot, .c .bot, .c .bot, .c .bot, .c .bot, .c .bot, .c .bot, .c .bot, .c .bot, .c .bot, .c .bot, .c .bot, .c .bot, .c .bot, .c .bot, .c .bot, .c .bot, .c .bot, .c .bot, .c .bot, .c .bot, .c .bot, .c .bot, .c .bot, .c .bot, .c .bot, .c .bot, .c .bot, .c .bot, .c .bot, .c .bot, .c .bot, .c .bot, .c .bot, .c .bot, .c .bot, .c .bot, .c .bot, .c .bot, .c .bot, .c .bot, .c .bot, .c .bot, .c .bot, .c .bot, .c .bot, .c .bot, .c .bot, .c .bot, .c .bot, .c .bot, .c .bot, .c .bot, .c .bot, .c .bot, .c .bot, .c .bot, .c .bot, .c .bot, .c .bot, .c .bot, .c .bot, .c .bot, .c .bot, .c .bot, .c .bot, .c .bot, .c .bot, .c .bot, .c .bot, .c .bot, .c .bot, .c .bot, .c .bot, .c .bot, .c .bot, .c .bot, .c .bot, .c .bot, .c .bot, .c .bot, .c .bot, .c .bot, .c .bot, .c .bot, .c .bot, .c .bot, .c .bot, .c .bot, .c .bot, .c .bot, .c .bot, .c .bot, .c .bot, .c .bot, .c .bot, .c .bot, .c .bot, .c .bot, .c .bot, .c .bot, .c .bot, .c .bot, .c .bot, .c .bot, .c .bot, .c .bot, .c .bot, .c .bot, .c .bot, .c .bot, .c .bot, .c .bot, .c .bot, .c .bot, .c .bot, .c .bot, .c .bot, .c .bot, .c .bot], [(148, .box [.sc (.int .i64 (pi)), .rd [] 24 ((.row 2 (.int .i64))) (ts), .rd [] 136 ((.prod (.int .i64) (.prod (.int .i64) (.prod (.int .i64) (.row 2 (.int .i64)))))) (ns), .rd [] 2 (.int .i64) (os)]), (164, .box [.rd [] 24 ((.row 2 (.int .i64))) (cc)]), (244, .box [.ow 789]), (788, .row 2 (.int .i64) (U.1) []), (789, .tree 24 (.row 2 (.int .i64)) (U.2.1) none), (340, .box [.ow 1013]), (1012, .row 2 (.int .i64) (U.1) []), (1013, .tree 24 (.row 2 (.int .i64)) (U.2.1) none)]⟩ ?_ fun K56 hK56 => ?_
                          · intro _
                            exact lawStep_tail29 pi ts ns os cc ff U hU hUo hUc f1 f2 (by omega) _ rfl
                          refine AWP_seq_k fun K57 hK57 => ?_
                          refine AWP_wk (Wk_keep _ [0, 1, 2, 3, 4, 5, 6, 7, 8, 9, 10, 11, 12, 13, 14, 15, 16, 17, 18, 19, 20, 21, 22] [148, 164, 244, 788, 789, 276, 868, 869, 870, 292, 900, 932, 340, 1012, 1013]) ?_
                          simp (maxSteps := 2000000) only [go_sem]
                          refine AWP_region (G := G) (T := T_mHx21) T_mHx21_ok ?_
                          simp (maxSteps := 2000000) only [hU, eqD_rfl, hn1, go_sem]
                          repeat' (first | (with_reducible refine And.intro (by first | omega | exact ⟨rfl, by omega, by omega, by omega⟩ | assumption | exact ⟨by omega, by omega⟩) ?_) | (with_reducible refine gcase_dt (fun g27 => ?_) (fun g27 => ?_)) | (with_reducible refine gcase_df (fun g27 => ?_) (fun g27 => ?_)) | (with_reducible refine gcase_ndt (fun g27 => ?_) (fun g27 => ?_)) | (with_reducible refine gcase_ndf (fun g27 => ?_) (fun g27 => ?_)) | (with_reducible refine gcase_nt (fun g27 => ?_) (fun g27 => ?_)) | (with_reducible refine gcase_nf (fun g27 => ?_) (fun g27 => ?_)) | (with_reducible refine gcase_mk (fun g27 => ?_) (fun g27 => ?_)))
                          all_goals
                            refine hK57 _ ?_
                            refine AWP_cond rfl ?_ ?_
                            · intro c7
                              try simp only [decide_eq_true_eq, decide_eq_false_iff_not, Bool.not_eq_true', Bool.not_eq_false', ne_eq, Int.not_lt, Int.not_le, Bool.true_eq_false, Bool.false_eq_true] at c7
                              all_goals
                                all_goals first | (cases c7; done) | (simp at c7; done) | omega
                            · intro c7
                              try simp only [decide_eq_true_eq, decide_eq_false_iff_not, Bool.not_eq_true', Bool.not_eq_false', ne_eq, Int.not_lt, Int.not_le, Bool.true_eq_false, Bool.false_eq_true] at c7
                              all_goals
                                refine AWP_skip ?_
                                simp (maxSteps := 2000000) only [go_sem]
                                refine hK56 _ (Wk_to (by rfl) ?_) trivial
                                simp (maxSteps := 2000000) only [go_sem]
                                all_goals (first | rfl | ((repeat' refine And.intro ?_ ?_) <;> first | rfl | exact wk (by omega) | simp))

theorem lawStep_fn : FnOk Try.prog 3 := fnOk_of Try.func3 rfl (by decide)

def T_lawStep : Tab := fun f => if f = 3 then some (.p K_lawStep) else T_mHx21 f
theorem T_lawStep_ok : TabOk Try.prog T_lawStep := fun f k h => by
  unfold T_lawStep at h
  split at h
  · rename_i e; cases h; subst e; exact ⟨lawStep_ok, lawStep_fn⟩
  · exact T_mHx21_ok f k h
attribute [go_sem] T_lawStep K_lawStep

end Go.Proofs.Ythglggjgjlmhlaa
