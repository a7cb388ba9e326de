/-
  Texts of this claim, joined (part 49). No condition beyond those of the theorems.
-/
import Derived.Test.YtflaacndokbddaaGreatVa07
import Derived.Test.YtflaacndokbddaaGreatVa09
import Derived.Test.YtflaacndokbddaaGreatVa14
import Derived.Test.YtflaacndokbddaaGreatVa15
import Derived.Test.YtflaacndokbddaaGreatVa31
import Derived.Test.YtflaacndokbddaaGreatVa48
import Derived.Test.YtflaacndokbddaaGreatVa02
namespace Go.Proofs.YtflaacndokbddaaGreat
open Go.RowKit
set_option linter.unusedSimpArgs false
set_option linter.unusedVariables false
set_option maxRecDepth 100000
set_option maxHeartbeats 1000000
def T_mHx190 : Tab := fun f => match T_toP f with
 | some k => some k
 | none => T_markP f
theorem T_mHx190_ok : TabOk Tryz.prog T_mHx190 := tabM T_toP_ok T_markP_ok
attribute [go_sem] T_mHx190 T0
def T_mHx191 : Tab := fun f => match T_mHx190 f with
 | some k => some k
 | none => T_eqLn f
theorem T_mHx191_ok : TabOk Tryz.prog T_mHx191 := tabM T_mHx190_ok T_eqLn_ok
attribute [go_sem] T_mHx191 T0
def T_mHx192 : Tab := fun f => match T_mHx191 f with
 | some k => some k
 | none => T_markLn f
theorem T_mHx192_ok : TabOk Tryz.prog T_mHx192 := tabM T_mHx191_ok T_markLn_ok
attribute [go_sem] T_mHx192 T0
def T_mHx193 : Tab := fun f => match T_mHx192 f with
 | some k => some k
 | none => T_implLinOf f
theorem T_mHx193_ok : TabOk Tryz.prog T_mHx193 := tabM T_mHx192_ok T_implLinOf_ok
attribute [go_sem] T_mHx193 T0
def T_mHx194 : Tab := fun f => match T_mHx193 f with
 | some k => some k
 | none => T_specLinOf f
theorem T_mHx194_ok : TabOk Tryz.prog T_mHx194 := tabM T_mHx193_ok T_specLinOf_ok
attribute [go_sem] T_mHx194 T0
def K_lawLin : Con := ⟨[.val ((.prod (.int .i64) (.prod (.row 26 (.row 2 (.int .i64))) (.prod (.row 147 (.prod (.int .i64) (.prod (.int .i64) (.prod (.int .i64) (.row 2 (.int .i64)))))) (.row 2 (.int .i64))))))], [⟨.bool, true⟩], fun _ => True, fun _ => true⟩
theorem lawLin_ok : PureT Tryz.prog 4 K_lawLin := by
  refine pure_of_body Tryz.func4 rfl ?_
  have hres : Tryz.f4.results.toList = [.tmp 2] := rfl
  rintro ⟨⟨(pi : Int), (ts : List (List Int)), (ns : List NodeD), (os : List Int)⟩, _⟩ hc hL
  simp only [K_lawLin, go_sem] at hL
  simp only [K_lawLin, St.init, St.initG, Tryz.ntmps4, go_sem] 
  obtain ⟨U, hU⟩ : ∃ U, linR (pi, ts, ns, os) = U := ⟨_, rfl⟩
  have hUb0 : ctLn (0, U.1.2.1, U.1.2.2.1, U.1.2.2.2.1, U.1.2.2.2.2) ≤ 1000000 := by rw [← hU]; exact linR_bd _
  have hUh0 : heldLn (1) (U.1.1, markLL (1) U.1.2.1, markLL (1 + (cntA List.length U.1.2.1 : Nat)) U.1.2.2.1, markLL (1 + (cntA List.length U.1.2.1 : Nat) + (cntA List.length U.1.2.2.1 : Nat)) U.1.2.2.2.1, markLL (1 + (cntA List.length U.1.2.1 : Nat) + (cntA List.length U.1.2.2.1 : Nat) + (cntA List.length U.1.2.2.2.1 : Nat)) U.1.2.2.2.2) = 1 + (ctLn (0, U.1.2.1, U.1.2.2.1, U.1.2.2.2.1, U.1.2.2.2.2) : Int) := heldLn_mark' _ _ _ _ _ _
  have hUm0 : mkOk (1) (ctLn (U.1.1, markLL (1) U.1.2.1, markLL (1 + (cntA List.length U.1.2.1 : Nat)) U.1.2.2.1, markLL (1 + (cntA List.length U.1.2.1 : Nat) + (cntA List.length U.1.2.2.1 : Nat)) U.1.2.2.2.1, markLL (1 + (cntA List.length U.1.2.1 : Nat) + (cntA List.length U.1.2.2.1 : Nat) + (cntA List.length U.1.2.2.2.1 : Nat)) U.1.2.2.2.2)) := by
    rw [show ctLn (U.1.1, markLL (1) U.1.2.1, markLL (1 + (cntA List.length U.1.2.1 : Nat)) U.1.2.2.1, markLL (1 + (cntA List.length U.1.2.1 : Nat) + (cntA List.length U.1.2.2.1 : Nat)) U.1.2.2.2.1, markLL (1 + (cntA List.length U.1.2.1 : Nat) + (cntA List.length U.1.2.2.1 : Nat) + (cntA List.length U.1.2.2.2.1 : Nat)) U.1.2.2.2.2) = ctLn (0, U.1.2.1, U.1.2.2.1, U.1.2.2.2.1, U.1.2.2.2.2) from ctLn_mk (1) U.1]
    exact ⟨by omega, by omega⟩
  have hUn0 : decide (1 + (ctLn (0, U.1.2.1, U.1.2.2.1, U.1.2.2.2.1, U.1.2.2.2.2) : Int) < 0) = false := decide_eq_false (by omega)
  refine oS fun K1 hK1 => ?_
  refine AWP_wk (Wk_keep _ [0] []) ?_
  simp (maxSteps := 2000000) only [go_sem]
  refine oW T_mHx194_ok ?_
  simp only [go_sem]
  repeat (with_reducible first | refine oA ?_ | refine And.intro (by first | assumption | exact ⟨by omega, by omega⟩ | (refine ⟨by omega, ?_⟩; simp only [ctP, ctLn] at *; omega)) ?_)
  refine hK1 _ ?_
  refine oS fun K2 hK2 => ?_
  refine oW T_mHx194_ok ?_
  simp only [go_sem]
  repeat (with_reducible first | refine oA ?_ | refine And.intro (by first | assumption | exact ⟨by omega, by omega⟩ | (refine ⟨by omega, ?_⟩; simp only [ctP, ctLn] at *; omega)) ?_)
  refine hK2 _ ?_
  refine oS fun K3 hK3 => ?_
  refine AWP_wk (Wk_keep _ [1, 3] [116]) ?_
  simp (maxSteps := 2000000) only [go_sem]
  refine oW T_mHx194_ok ?_
  simp only [go_sem]
  repeat (with_reducible first | refine oA ?_ | refine And.intro (by first | assumption | exact ⟨by omega, by omega⟩ | (refine ⟨by omega, ?_⟩; simp only [ctP, ctLn] at *; omega)) ?_)
  refine hK3 _ ?_
  refine oS fun K4 hK4 => ?_
  refine oS fun K5 hK5 => ?_
  refine oW T_mHx194_ok ?_
  simp only [go_sem]
  repeat (with_reducible first | refine oA ?_ | refine And.intro (by first | assumption | exact ⟨by omega, by omega⟩ | (refine ⟨by omega, ?_⟩; simp only [ctP, ctLn] at *; omega)) ?_)
  refine hK5 _ ?_
  refine oC rfl ?_ ?_
  ·
   intro c0
   refine oS fun K6 hK6 => ?_
   refine oW T_mHx194_ok ?_
   simp only [go_sem]
   repeat (with_reducible first | refine oA ?_ | refine And.intro (by first | assumption | exact ⟨by omega, by omega⟩ | (refine ⟨by omega, ?_⟩; simp only [ctP, ctLn] at *; omega)) ?_)
   refine hK6 _ ?_
   refine AWP_ret ?_
   simp only [hres, go_sem]
   first | exact oF | exact oFr
  intro c0
  obtain ⟨e0, e0'⟩ := szR_ge' c0
  have f0 : fitsP (pi, ts, ns, os) := fitsP_sz (by omega)
  have g0 := ctP_le (pi, ts, ns, os)
  have hz0 : ctP (0, ts, ns, os) = ctP (pi, ts, ns, os) := rfl
  have hn1 : decide (1 + (ctP (0, ts, ns, os) : Int) < 0) = false := decide_eq_false (by omega)
  refine AWP_skip ?_
  simp only [go_sem]
  refine hK4 _ ?_
  refine oS fun K7 hK7 => ?_
  refine AWP_wk (Wk_keep _ [1] [116]) ?_
  simp (maxSteps := 2000000) only [go_sem]
  refine oW T_mHx194_ok ?_
  simp (maxSteps := 2000000) only [hU, eqD_rfl, hn1, hUh0, hUn0, go_sem]
  repeat (with_reducible first | refine oA ?_ | refine And.intro (by first | assumption | exact ⟨by omega, by omega⟩ | (refine ⟨by omega, ?_⟩; simp only [ctP, ctLn] at *; omega)) ?_)
  refine hK7 _ ?_
  refine oS fun K8 hK8 => ?_
  refine AWP_wk (Wk_keep _ [1, 4, 5] [116, 164, 452, 453, 454, 455, 456, 457, 458, 459]) ?_
  simp (maxSteps := 2000000) only [go_sem]
  refine oW T_mHx194_ok ?_
  simp only [hU, eqD_rfl, hn1, hUh0, hUn0, go_sem]
  repeat (with_reducible first | refine oA ?_ | refine And.intro (by first | assumption | exact ⟨by omega, by omega⟩ | (refine ⟨by omega, ?_⟩; simp only [ctP, ctLn] at *; omega)) ?_)
  refine hK8 _ ?_
  refine oS fun K9 hK9 => ?_
  refine AWP_wk (Wk_keep _ [1, 4, 5, 6] [116, 164, 196, 452, 453, 454, 455, 456, 457, 458, 459, 516, 517, 518, 519, 520, 521, 522, 523]) ?_
  simp (maxSteps := 2000000) only [go_sem]
  refine oW T_mHx194_ok ?_
  simp (maxSteps := 2000000) only [hU, eqD_rfl, hn1, hUh0, hUn0, go_sem]
  repeat (with_reducible first | refine oA ?_ | refine And.intro (by first | assumption | exact ⟨by omega, by omega⟩ | (refine ⟨by omega, ?_⟩; simp only [ctP, ctLn] at *; omega)) ?_)
  refine hK9 _ ?_
  refine oS fun K10 hK10 => ?_
  refine oS fun K11 hK11 => ?_
  refine AWP_wk (Wk_keep _ [1, 4, 5, 6, 7, 8] [116, 164, 196, 212, 452, 453, 454, 455, 456, 457, 458, 459, 516, 517, 518, 519, 520, 521, 522, 523, 564, 565, 566, 567, 568, 569, 570, 571]) ?_
  simp (maxSteps := 2000000) only [go_sem]
  refine oW T_mHx194_ok ?_
  simp (maxSteps := 2000000) only [hU, eqD_rfl, hn1, hUh0, hUn0, go_sem]
  repeat' (with_reducible first | refine oA ?_ | refine And.intro (by first | assumption | exact ⟨by omega, by omega⟩ | (refine ⟨by omega, ?_⟩; simp only [ctP, ctLn] at *; omega)) ?_ | refine oT (fun g8 => ?_) (fun g8 => ?_) | refine oE (fun g8 => ?_) (fun g8 => ?_))
  all_goals
   refine hK11 _ ?_
   refine AWP_cond rfl ?_ ?_
   ·
    intro c1
    try simp only [zA, zB, zC, zD, zE, zF, zG, zH, zI] at c1
    all_goals
     all_goals first | (cases c1; done) | (simp at c1; done) | omega
   ·
    intro c1
    try simp only [zA, zB, zC, zD, zE, zF, zG, zH, zI] at c1
    all_goals
     refine AWP_skip ?_
     simp only [go_sem]
     refine hK10 _ ?_
     refine oS fun K12 hK12 => ?_
     refine oS fun K13 hK13 => ?_
     refine AWP_wk (Wk_keep _ [1, 4, 5, 6, 7, 8] [116, 164, 196, 212, 452, 453, 454, 455, 456, 457, 458, 459, 516, 517, 518, 519, 520, 521, 522, 523, 564, 565, 566, 567, 568, 569, 570, 571]) ?_
     simp (maxSteps := 2000000) only [go_sem]
     refine oR T_mHx194_ok
       [[], [], [1], [0, 1, 2], [0, 1, 2, 3]]
       [[788, 789, 790, 791, 792, 793, 794, 795, 796, 797, 798, 799, 800, 801, 802, 803], [], [], [], []]
       [[], [], [788, 789, 790, 791, 792, 793, 794, 795, 796, 797, 798, 799, 800, 801, 802, 803], [], []] (by kernel_rfl) (by kernel_rfl) (adrawR_ok (acc := []) ?_)
     simp (maxSteps := 2000000) only [hU, eqD_rfl, hn1, hUh0, hUn0, go_sem]
     repeat (with_reducible first | refine oD ?_ | refine And.intro (by first | assumption | exact ⟨by omega, by omega⟩ | (refine ⟨by omega, ?_⟩; simp only [ctP, ctLn] at *; omega)) ?_)
     refine hK13 _ ?_
     refine AWP_cond rfl ?_ ?_
     ·
      intro c2
      try simp only [zA, zB, zC, zD, zE, zF, zG, zH, zI] at c2
      all_goals
       all_goals first | (cases c2; done) | (simp at c2; done) | omega
     ·
      intro c2
      try simp only [zA, zB, zC, zD, zE, zF, zG, zH, zI] at c2
      all_goals
       refine AWP_skip ?_
       simp only [go_sem]
       refine hK12 _ ?_
       refine oS fun K14 hK14 => ?_
       refine oW T_mHx194_ok ?_
       simp only [hU, eqD_rfl, hn1, hUh0, hUn0, go_sem]
       repeat (with_reducible first | refine oA ?_ | refine And.intro (by first | assumption | exact ⟨by omega, by omega⟩ | (refine ⟨by omega, ?_⟩; simp only [ctP, ctLn] at *; omega)) ?_)
       refine hK14 _ ?_
       refine oS fun K15 hK15 => ?_
       refine AWP_wk (Wk_keep _ [1, 4, 5, 6, 7, 8, 9] [116, 164, 196, 212, 452, 453, 454, 455, 456, 457, 458, 459, 516, 517, 518, 519, 520, 521, 522, 523, 564, 565, 566, 567, 568, 569, 570, 571]) ?_
       simp (maxSteps := 2000000) only [go_sem]
       refine oW T_mHx194_ok ?_
       simp only [hU, eqD_rfl, hn1, hUh0, hUn0, go_sem]
       repeat (with_reducible first | refine oA ?_ | refine And.intro (by first | assumption | exact ⟨by omega, by omega⟩ | (refine ⟨by omega, ?_⟩; simp only [ctP, ctLn] at *; omega)) ?_)
       refine hK15 _ ?_
       refine oS fun K16 hK16 => ?_
       refine oS fun K17 hK17 => ?_
       refine AWP_wk (Wk_keep _ [1, 4, 5, 7, 8, 9] [116, 164, 212, 452, 453, 454, 455, 456, 457, 458, 459, 564, 565, 566, 567, 568, 569, 570, 571, 868, 869, 870, 871, 872, 873, 874, 875]) ?_
       simp (maxSteps := 2000000) only [go_sem]
       refine oW T_mHx194_ok ?_
       simp (maxSteps := 2000000) only [hU, eqD_rfl, hn1, hUh0, hUn0, go_sem]
       repeat' (with_reducible first | refine oA ?_ | refine And.intro (by first | assumption | exact ⟨by omega, by omega⟩ | (refine ⟨by omega, ?_⟩; simp only [ctP, ctLn] at *; omega)) ?_ | refine oT (fun g14 => ?_) (fun g14 => ?_) | refine oE (fun g14 => ?_) (fun g14 => ?_))
       all_goals
        refine hK17 _ ?_
        refine AWP_cond rfl ?_ ?_
        ·
         intro c3
         try simp only [zA, zB, zC, zD, zE, zF, zG, zH, zI] at c3
         all_goals
          all_goals first | (cases c3; done) | (simp at c3; done) | omega
        ·
         intro c3
         try simp only [zA, zB, zC, zD, zE, zF, zG, zH, zI] at c3
         all_goals
          refine AWP_skip ?_
          simp only [go_sem]
          refine hK16 _ ?_
          refine oS fun K18 hK18 => ?_
          refine oW T_mHx194_ok ?_
          simp only [hU, eqD_rfl, hn1, hUh0, hUn0, go_sem]
          repeat (with_reducible first | refine oA ?_ | refine And.intro (by first | assumption | exact ⟨by omega, by omega⟩ | (refine ⟨by omega, ?_⟩; simp only [ctP, ctLn] at *; omega)) ?_)
          refine hK18 _ ?_
          refine oS fun K19 hK19 => ?_
          refine AWP_wk (Wk_keep _ [1, 4, 5, 7, 10] [116, 164, 212, 452, 453, 454, 455, 456, 457, 458, 459, 564, 565, 566, 567, 568, 569, 570, 571]) ?_
          simp (maxSteps := 2000000) only [go_sem]
          refine oW T_mHx194_ok ?_
          simp only [hU, eqD_rfl, hn1, hUh0, hUn0, go_sem]
          repeat (with_reducible first | refine oA ?_ | refine And.intro (by first | assumption | exact ⟨by omega, by omega⟩ | (refine ⟨by omega, ?_⟩; simp only [ctP, ctLn] at *; omega)) ?_)
          refine hK19 _ ?_
          refine oS fun K20 hK20 => ?_
          refine oW T_mHx194_ok ?_
          simp only [hU, eqD_rfl, hn1, hUh0, hUn0, go_sem]
          repeat (with_reducible first | refine oA ?_ | refine And.intro (by first | assumption | exact ⟨by omega, by omega⟩ | (refine ⟨by omega, ?_⟩; simp only [ctP, ctLn] at *; omega)) ?_)
          refine hK20 _ ?_
          refine oS fun K21 hK21 => ?_
          refine AWP_wk (Wk_keep _ [1, 4, 5, 7, 10, 11] [116, 164, 212, 452, 453, 454, 455, 456, 457, 458, 459, 564, 565, 566, 567, 568, 569, 570, 571, 1124, 1125, 1126, 1127, 1128, 1129, 1130, 1131]) ?_
          simp (maxSteps := 2000000) only [go_sem]
          refine oW T_mHx194_ok ?_
          simp only [hU, eqD_rfl, hn1, hUh0, hUn0, go_sem]
          repeat (with_reducible first | refine oA ?_ | refine And.intro (by first | assumption | exact ⟨by omega, by omega⟩ | (refine ⟨by omega, ?_⟩; simp only [ctP, ctLn] at *; omega)) ?_)
          refine hK21 _ ?_
          refine oS fun K22 hK22 => ?_
          refine oS fun K23 hK23 => ?_
          refine oW T_mHx194_ok ?_
          simp only [hU, eqD_rfl, hn1, hUh0, hUn0, go_sem]
          repeat (with_reducible first | refine oA ?_ | refine And.intro (by first | assumption | exact ⟨by omega, by omega⟩ | (refine ⟨by omega, ?_⟩; simp only [ctP, ctLn] at *; omega)) ?_)
          refine hK23 _ ?_
          refine AWP_cond rfl ?_ ?_
          ·
           intro c4
           try simp only [zA, zB, zC, zD, zE, zF, zG, zH, zI] at c4
           all_goals
            all_goals first | (cases c4; done) | (simp at c4; done) | omega
          ·
           intro c4
           try simp only [zA, zB, zC, zD, zE, zF, zG, zH, zI] at c4
           all_goals
            refine AWP_skip ?_
            simp only [go_sem]
            refine hK22 _ ?_
            refine oS fun K24 hK24 => ?_
            refine oS fun K25 hK25 => ?_
            refine oW T_mHx194_ok ?_
            simp only [hU, eqD_rfl, hn1, hUh0, hUn0, go_sem]
            repeat (with_reducible first | refine oA ?_ | refine And.intro (by first | assumption | exact ⟨by omega, by omega⟩ | (refine ⟨by omega, ?_⟩; simp only [ctP, ctLn] at *; omega)) ?_)
            refine hK25 _ ?_
            refine AWP_cond rfl ?_ ?_
            ·
             intro c5
             try simp only [zA, zB, zC, zD, zE, zF, zG, zH, zI] at c5
             all_goals
              all_goals first | (cases c5; done) | (simp at c5; done) | omega
            ·
             intro c5
             try simp only [zA, zB, zC, zD, zE, zF, zG, zH, zI] at c5
             all_goals
              refine AWP_skip ?_
              simp only [go_sem]
              refine hK24 _ ?_
              refine oS fun K26 hK26 => ?_
              refine AWP_wk (Wk_keep _ [1, 4, 5, 7, 10] [116, 164, 212, 452, 453, 454, 455, 456, 457, 458, 459, 564, 565, 566, 567, 568, 569, 570, 571, 1124, 1125, 1126, 1127, 1128, 1129, 1130, 1131]) ?_
              simp (maxSteps := 2000000) only [go_sem]
              refine oW T_mHx194_ok ?_
              simp (maxSteps := 2000000) only [hU, eqD_rfl, hn1, hUh0, hUn0, go_sem]
              repeat (with_reducible first | refine oA ?_ | refine And.intro (by first | assumption | exact ⟨by omega, by omega⟩ | (refine ⟨by omega, ?_⟩; simp only [ctP, ctLn] at *; omega)) ?_)
              refine hK26 _ ?_
              refine oS fun K27 hK27 => ?_
              refine oS fun K28 hK28 => ?_
              refine AWP_wk (Wk_keep _ [4, 5, 7, 10, 12, 13] [164, 212, 292, 452, 453, 454, 455, 456, 457, 458, 459, 564, 565, 566, 567, 568, 569, 570, 571, 1124, 1125, 1126, 1127, 1128, 1129, 1130, 1131, 1316, 1317, 1318, 1319, 1320, 1321, 1322, 1323]) ?_
              simp (maxSteps := 2000000) only [go_sem]
              refine oW T_mHx194_ok ?_
              simp (maxSteps := 2000000) only [hU, eqD_rfl, hn1, hUh0, hUn0, go_sem]
              repeat' (with_reducible first | refine oA ?_ | refine And.intro (by first | assumption | exact ⟨by omega, by omega⟩ | (refine ⟨by omega, ?_⟩; simp only [ctP, ctLn] at *; omega)) ?_ | refine oT (fun g25 => ?_) (fun g25 => ?_) | refine oE (fun g25 => ?_) (fun g25 => ?_))
              all_goals
               refine hK28 _ ?_
               refine AWP_cond rfl ?_ ?_
               ·
                intro c6
                try simp only [zA, zB, zC, zD, zE, zF, zG, zH, zI] at c6
                all_goals
                 all_goals first | (cases c6; done) | (simp at c6; done) | omega
               ·
                intro c6
                try simp only [zA, zB, zC, zD, zE, zF, zG, zH, zI] at c6
                all_goals
                 refine AWP_skip ?_
                 simp only [go_sem]
                 refine hK27 _ ?_
                 refine oS fun K29 hK29 => ?_
                 refine oW T_mHx194_ok ?_
                 simp only [hU, eqD_rfl, hn1, hUh0, hUn0, go_sem]
                 repeat (with_reducible first | refine oA ?_ | refine And.intro (by first | assumption | exact ⟨by omega, by omega⟩ | (refine ⟨by omega, ?_⟩; simp only [ctP, ctLn] at *; omega)) ?_)
                 refine hK29 _ ?_
                 refine oS fun K30 hK30 => ?_
                 refine AWP_wk (Wk_keep _ [7, 10, 11] [212, 564, 565, 566, 567, 568, 569, 570, 571, 1124, 1125, 1126, 1127, 1128, 1129, 1130, 1131]) ?_
                 simp (maxSteps := 2000000) only [go_sem]
                 refine oW T_mHx194_ok ?_
                 simp only [hU, eqD_rfl, hn1, hUh0, hUn0, go_sem]
                 repeat (with_reducible first | refine oA ?_ | refine And.intro (by first | assumption | exact ⟨by omega, by omega⟩ | (refine ⟨by omega, ?_⟩; simp only [ctP, ctLn] at *; omega)) ?_)
                 refine hK30 _ ?_
                 refine oS fun K31 hK31 => ?_
                 refine oS fun K32 hK32 => ?_
                 refine oW T_mHx194_ok ?_
                 simp only [hU, eqD_rfl, hn1, hUh0, hUn0, go_sem]
                 repeat (with_reducible first | refine oA ?_ | refine And.intro (by first | assumption | exact ⟨by omega, by omega⟩ | (refine ⟨by omega, ?_⟩; simp only [ctP, ctLn] at *; omega)) ?_)
                 refine hK32 _ ?_
                 refine AWP_cond rfl ?_ ?_
                 ·
                  intro c7
                  try simp only [zA, zB, zC, zD, zE, zF, zG, zH, zI] at c7
                  all_goals
                   all_goals first | (cases c7; done) | (simp at c7; done) | omega
                 ·
                  intro c7
                  try simp only [zA, zB, zC, zD, zE, zF, zG, zH, zI] at c7
                  all_goals
                   refine AWP_skip ?_
                   simp only [go_sem]
                   refine hK31 _ ?_
                   refine oS fun K33 hK33 => ?_
                   refine oS fun K34 hK34 => ?_
                   refine oW T_mHx194_ok ?_
                   simp only [hU, eqD_rfl, hn1, hUh0, hUn0, go_sem]
                   repeat (with_reducible first | refine oA ?_ | refine And.intro (by first | assumption | exact ⟨by omega, by omega⟩ | (refine ⟨by omega, ?_⟩; simp only [ctP, ctLn] at *; omega)) ?_)
                   refine hK34 _ ?_
                   refine AWP_cond rfl ?_ ?_
                   ·
                    intro c8
                    try simp only [zA, zB, zC, zD, zE, zF, zG, zH, zI] at c8
                    all_goals
                     all_goals first | (cases c8; done) | (simp at c8; done) | omega
                   ·
                    intro c8
                    try simp only [zA, zB, zC, zD, zE, zF, zG, zH, zI] at c8
                    all_goals
                     refine AWP_skip ?_
                     simp only [go_sem]
                     refine hK33 _ ?_
                     refine oS fun K35 hK35 => ?_
                     refine oW T_mHx194_ok ?_
                     simp only [hU, eqD_rfl, hn1, hUh0, hUn0, go_sem]
                     repeat (with_reducible first | refine oA ?_ | refine And.intro (by first | assumption | exact ⟨by omega, by omega⟩ | (refine ⟨by omega, ?_⟩; simp only [ctP, ctLn] at *; omega)) ?_)
                     refine hK35 _ ?_
                     refine AWP_ret ?_
                     simp only [hres, go_sem]
                     first | exact oF | exact oFr
def T_lawLin : Tab := fun f => if f = 4 then some (.p K_lawLin) else T_mHx194 f
attribute [go_sem] T_lawLin K_lawLin
end Go.Proofs.YtflaacndokbddaaGreat
