/-
  Texts of this claim, joined (part 15). No condition beyond those of the theorems.
-/
import Derived.Test.YtflaacndokbddaaGreatVa08
import Derived.Test.YtflaacndokbddaaGreatVa14
namespace Go.Proofs.YtflaacndokbddaaGreat
open Go.RowKit
set_option linter.unusedSimpArgs false
set_option linter.unusedVariables false
set_option maxRecDepth 100000
set_option maxHeartbeats 1000000
def K_heldLn : Con := ⟨[.val ((.prod (.int .i64) (.prod (.row 26 (.row 2 (.int .i64))) (.prod (.row 26 (.row 2 (.int .i64))) (.prod (.row 26 (.row 2 (.int .i64))) (.row 26 (.row 2 (.int .i64)))))))), .val (.int .i64)], [⟨.int .i64, true⟩], fun x => mkOk x.2.1 (ctLn x.1), fun x => heldLn x.2.1 x.1⟩
theorem heldLn_ok : PureT Tryz.prog 30 K_heldLn := by
  refine pure_of_body Tryz.func30 rfl ?_
  have hres : Tryz.f30.results.toList = [.tmp 4] := rfl
  rintro ⟨⟨(ni : Int), (la : List (List Int)), (lb : List (List Int)), (lc : List (List Int)), (ld : List (List Int))⟩, (kk : Int), _⟩ hc hL
  simp only [K_heldLn, go_sem] at hL
  simp only [K_heldLn, St.init, St.initG, Tryz.ntmps30, go_sem] 
  obtain ⟨h1, h2⟩ := (show mkOk kk (ctLn (ni, la, lb, lc, ld)) from hc)
  have hcp : ctLn (ni, la, lb, lc, ld) = cntA List.length la + cntA List.length lb + cntA List.length lc + cntA List.length ld := rfl
  refine oS fun K1 hK1 => ?_
  refine oW T_heldL_ok ?_
  simp only [go_sem]
  repeat (with_reducible first | refine oA ?_ | refine And.intro (by first | exact ⟨by omega, by omega⟩) ?_)
  refine hK1 _ ?_
  refine oS fun K2 hK2 => ?_
  refine oW T_heldL_ok ?_
  simp (maxSteps := 2000000) only [go_sem]
  repeat (with_reducible first | refine oA ?_ | refine And.intro (by first | exact ⟨by omega, by omega⟩) ?_)
  refine hK2 _ ?_
  refine oS fun K3 hK3 => ?_
  refine oS fun K4 hK4 => ?_
  refine oW T_heldL_ok ?_
  simp only [go_sem]
  repeat (with_reducible first | refine oA ?_ | refine And.intro (by first | exact ⟨by omega, by omega⟩) ?_)
  refine hK4 _ ?_
  refine oC rfl ?_ ?_
  ·
   intro c0
   obtain ⟨e1, e2⟩ := heldA_neg (by omega) c0
   refine oS fun K5 hK5 => ?_
   refine oW T_heldL_ok ?_
   simp only [go_sem]
   repeat (with_reducible first | refine oA ?_ | refine And.intro (by first | exact ⟨by omega, by omega⟩) ?_)
   refine hK5 _ ?_
   refine AWP_ret ?_
   simp only [hres, go_sem]
   first | exact oF | (refine ⟨?_, oF⟩; exact (heldLn_f1 e2).symm)
  intro c0
  obtain ⟨e1, e2⟩ := heldA_pos c0
  refine AWP_skip ?_
  simp only [go_sem]
  refine hK3 _ ?_
  refine oS fun K6 hK6 => ?_
  refine oW T_heldL_ok ?_
  simp (maxSteps := 2000000) only [go_sem]
  repeat (with_reducible first | refine oA ?_ | refine And.intro (by first | exact ⟨by omega, by omega⟩) ?_)
  refine hK6 _ ?_
  refine oS fun K7 hK7 => ?_
  refine oS fun K8 hK8 => ?_
  refine oW T_heldL_ok ?_
  simp only [go_sem]
  repeat (with_reducible first | refine oA ?_ | refine And.intro (by first | exact ⟨by omega, by omega⟩) ?_)
  refine hK8 _ ?_
  refine oC rfl ?_ ?_
  ·
   intro c1
   obtain ⟨e3, e4⟩ := heldA_neg (by omega) c1
   refine oS fun K9 hK9 => ?_
   refine oW T_heldL_ok ?_
   simp only [go_sem]
   repeat (with_reducible first | refine oA ?_ | refine And.intro (by first | exact ⟨by omega, by omega⟩) ?_)
   refine hK9 _ ?_
   refine AWP_ret ?_
   simp only [hres, go_sem]
   first | exact oF | (refine ⟨?_, oF⟩; exact (heldLn_f2 (e1 ▸ e4)).symm)
  intro c1
  obtain ⟨e3, e4⟩ := heldA_pos c1
  refine AWP_skip ?_
  simp only [go_sem]
  refine hK7 _ ?_
  refine oS fun K10 hK10 => ?_
  refine oW T_heldL_ok ?_
  simp (maxSteps := 2000000) only [go_sem]
  repeat (with_reducible first | refine oA ?_ | refine And.intro (by first | exact ⟨by omega, by omega⟩) ?_)
  refine hK10 _ ?_
  refine oS fun K11 hK11 => ?_
  refine oS fun K12 hK12 => ?_
  refine oW T_heldL_ok ?_
  simp only [go_sem]
  repeat (with_reducible first | refine oA ?_ | refine And.intro (by first | exact ⟨by omega, by omega⟩) ?_)
  refine hK12 _ ?_
  refine oC rfl ?_ ?_
  ·
   intro c2
   obtain ⟨e5, e6⟩ := heldA_neg (by omega) c2
   refine oS fun K13 hK13 => ?_
   refine oW T_heldL_ok ?_
   simp only [go_sem]
   repeat (with_reducible first | refine oA ?_ | refine And.intro (by first | exact ⟨by omega, by omega⟩) ?_)
   refine hK13 _ ?_
   refine AWP_ret ?_
   simp only [hres, go_sem]
   first
    | exact oF
    | refine ⟨?_, oF⟩
      rw [e3, e1] at e6
      exact (heldLn_f3 e6).symm
  intro c2
  obtain ⟨e5, e6⟩ := heldA_pos c2
  refine AWP_skip ?_
  simp only [go_sem]
  refine hK11 _ ?_
  refine oS fun K14 hK14 => ?_
  refine oW T_heldL_ok ?_
  simp (maxSteps := 2000000) only [go_sem]
  repeat (with_reducible first | refine oA ?_ | refine And.intro (by first | exact ⟨by omega, by omega⟩) ?_)
  refine hK14 _ ?_
  refine oS fun K15 hK15 => ?_
  refine oS fun K16 hK16 => ?_
  refine oW T_heldL_ok ?_
  simp only [go_sem]
  repeat (with_reducible first | refine oA ?_ | refine And.intro (by first | exact ⟨by omega, by omega⟩) ?_)
  refine hK16 _ ?_
  refine oC rfl ?_ ?_
  ·
   intro c3
   obtain ⟨e7, e8⟩ := heldA_neg (by omega) c3
   refine oS fun K17 hK17 => ?_
   refine oW T_heldL_ok ?_
   simp only [go_sem]
   repeat (with_reducible first | refine oA ?_ | refine And.intro (by first | exact ⟨by omega, by omega⟩) ?_)
   refine hK17 _ ?_
   refine AWP_ret ?_
   simp only [hres, go_sem]
   first
    | exact oF
    | refine ⟨?_, oF⟩
      rw [e5, e3, e1] at e8
      exact (heldLn_f4 e8).symm
  intro c3
  obtain ⟨e7, e8⟩ := heldA_pos c3
  refine AWP_skip ?_
  simp only [go_sem]
  refine hK15 _ ?_
  refine oS fun K18 hK18 => ?_
  refine oW T_heldL_ok ?_
  simp only [go_sem]
  repeat (with_reducible first | refine oA ?_ | refine And.intro (by first | exact ⟨by omega, by omega⟩) ?_)
  refine hK18 _ ?_
  refine AWP_ret ?_
  simp only [hres, go_sem]
  first
   | exact oF
   | refine ⟨?_, oF⟩
     rw [e1] at e4
     rw [e3, e1] at e6
     rw [e5, e3, e1] at e8
     rw [e7, e5, e3, e1]
     exact heldLn_t e2 e4 e6 e8
def T_heldLn : Tab := fun f => if f = 30 then some (.p K_heldLn) else T_heldL f
theorem T_heldLn_ok : TabOk Tryz.prog T_heldLn := tabP heldLn_ok (fnOk_of Tryz.func30 rfl (by decide)) T_heldL_ok
attribute [go_sem] T_heldLn K_heldLn
def K_markLn : GCon where
  ps := [.ag [.rd (.int .i64), .ow 0, .ow 1, .ow 2, .ow 3], .val (.int .i64)]
  os := [.tree 26 (.row 2 (.int .i64)), .tree 26 (.row 2 (.int .i64)), .tree 26 (.row 2 (.int .i64)), .tree 26 (.row 2 (.int .i64))]
  c := fun x => mkOk x.1.2.1 (ctLn (0, x.2.1, x.2.2.1, x.2.2.2.1, x.2.2.2.2.1))
  r := fun x => .c (.sc (.int .i64 (x.1.2.1 + ((ctLn (0, x.2.1, x.2.2.1, x.2.2.2.1, x.2.2.2.2.1)) : Nat))))
  o := fun x => [(30, .tree 26 (.row 2 (.int .i64)) (markLL (x.1.2.1) x.2.1) none), (31, .tree 26 (.row 2 (.int .i64)) (markLL (x.1.2.1 + (cntA List.length x.2.1 : Nat)) x.2.2.1) none), (32, .tree 26 (.row 2 (.int .i64)) (markLL (x.1.2.1 + (cntA List.length x.2.1 : Nat) + (cntA List.length x.2.2.1 : Nat)) x.2.2.2.1) none), (33, .tree 26 (.row 2 (.int .i64)) (markLL (x.1.2.1 + (cntA List.length x.2.1 : Nat) + (cntA List.length x.2.2.1 : Nat) + (cntA List.length x.2.2.2.1 : Nat)) x.2.2.2.2.1) none)]
  ok := by
    rintro ⟨⟨⟨(ni : Int), _⟩, (kk : Int), _⟩, ⟨(la : List (List Int)), (lb : List (List Int)), (lc : List (List Int)), (ld : List (List Int)), _⟩⟩
    exact ⟨rfl, rfl, by decide⟩
theorem markLn_ok : GenT Tryz.prog 29 K_markLn := by
  refine gen_of_body Tryz.func29 rfl ?_
  have hres : Tryz.f29.results.toList = [.tmp 4] := rfl
  rintro ⟨⟨⟨(ni : Int), _⟩, (kk : Int), _⟩, ⟨(la : List (List Int)), (lb : List (List Int)), (lc : List (List Int)), (ld : List (List Int)), _⟩⟩ hc hL hO
  simp only [K_markLn, go_sem] at hL
  simp only [K_markLn, go_sem] at hO
  simp only [K_markLn, St.init, St.initG, Tryz.ntmps29, go_sem] 
  obtain ⟨h1, h2⟩ := (show mkOk kk (ctLn (0, la, lb, lc, ld)) from hc)
  have hcp : ctLn (0, la, lb, lc, ld) = cntA List.length la + cntA List.length lb + cntA List.length lc + cntA List.length ld := rfl
  refine oS fun K1 hK1 => ?_
  refine oW T_heldLn_ok ?_
  simp only [go_sem]
  repeat (with_reducible first | refine oA ?_ | refine And.intro (by first | exact ⟨by omega, by omega⟩) ?_)
  refine hK1 _ ?_
  refine oS fun K2 hK2 => ?_
  refine oW T_heldLn_ok ?_
  simp (maxSteps := 2000000) only [go_sem]
  repeat (with_reducible first | refine oA ?_ | refine And.intro (by first | exact ⟨by omega, by omega⟩) ?_)
  refine hK2 _ ?_
  refine oS fun K3 hK3 => ?_
  refine oW T_heldLn_ok ?_
  simp (maxSteps := 2000000) only [go_sem]
  repeat (with_reducible first | refine oA ?_ | refine And.intro (by first | exact ⟨by omega, by omega⟩) ?_)
  refine hK3 _ ?_
  refine oS fun K4 hK4 => ?_
  refine oW T_heldLn_ok ?_
  simp (maxSteps := 2000000) only [go_sem]
  repeat (with_reducible first | refine oA ?_ | refine And.intro (by first | exact ⟨by omega, by omega⟩) ?_)
  refine hK4 _ ?_
  refine oS fun K5 hK5 => ?_
  refine oW T_heldLn_ok ?_
  simp (maxSteps := 2000000) only [go_sem]
  repeat (with_reducible first | refine oA ?_ | refine And.intro (by first | exact ⟨by omega, by omega⟩) ?_)
  refine hK5 _ ?_
  refine oS fun K6 hK6 => ?_
  refine oW T_heldLn_ok ?_
  simp only [go_sem]
  repeat (with_reducible first | refine oA ?_ | refine And.intro (by first | exact ⟨by omega, by omega⟩) ?_)
  refine hK6 _ ?_
  refine AWP_ret ?_
  simp only [hres, go_sem]
  first | exact oG | (refine ⟨oG, ?_⟩; (repeat' refine And.intro ?_ ?_) <;> first | rfl | (rw [hcp]; omega) | omega)
def T_markLn : Tab := fun f => if f = 29 then some (.g K_markLn) else T_heldLn f
theorem T_markLn_ok : TabOk Tryz.prog T_markLn := tabG markLn_ok (fnOk_of Tryz.func29 rfl (by decide)) T_heldLn_ok
attribute [go_sem] T_markLn K_markLn
end Go.Proofs.YtflaacndokbddaaGreat
