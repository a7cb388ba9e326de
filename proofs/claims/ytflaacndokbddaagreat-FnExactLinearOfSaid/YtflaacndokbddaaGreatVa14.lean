/-
  Texts of this claim, joined (part 14). No condition beyond those of the theorems.
-/
import Derived.Test.YtflaacndokbddaaGreatVa13
import Derived.Test.YtflaacndokbddaaGreatVa05
import Derived.Test.YtflaacndokbddaaGreatVa10
namespace Go.Proofs.YtflaacndokbddaaGreat
open Go.RowKit
set_option linter.unusedSimpArgs false
set_option linter.unusedVariables false
instance : DecidableEq LinD := instDecidableEqProd
abbrev cLL (x : List (List Int)) : Nat := cntA List.length x
def ctLn (x : LinD) : Nat := cLL x.2.1 + cLL x.2.2.1 + cLL x.2.2.2.1 + cLL x.2.2.2.2
def mkLn (k : Int) (x : LinD) : LinD := (x.1, markLL k x.2.1, markLL (k + cLL x.2.1) x.2.2.1, markLL (k + cLL x.2.1 + cLL x.2.2.1) x.2.2.2.1, markLL (k + cLL x.2.1 + cLL x.2.2.1 + cLL x.2.2.2.1) x.2.2.2.2)
theorem cLL_mk (k : Int) (t : List (List Int)) : cLL (markLL k t) = cLL t := markA_cnt (fun (_ : Int) (_ : List Int) => (markA_len : (markL _ _).length = _))
theorem ctLn_mk (k : Int) (x : LinD) : ctLn (mkLn k x) = ctLn x := by
 simp only [ctLn, mkLn, cLL_mk]
theorem mkLn_idem (k : Int) (x : LinD) : mkLn k (mkLn k x) = mkLn k x := by
 simp only [mkLn, cLL_mk, markLL_idem]
def heldLn (k : Int) (x : LinD) : Int := match decide (x = mkLn k x) with | true => k + ctLn x | false => -1
theorem heldLn_mark (k : Int) (x : LinD) : heldLn k (mkLn k x) = k + ctLn x := by
 unfold heldLn; rw [decide_eq_true (mkLn_idem k x).symm, ctLn_mk]
theorem heldLn_f1 {k n : Int} {a b c d : List (List Int)} (h : ¬ a = markLL k a) : heldLn k (n, a, b, c, d) = -1 := by
 unfold heldLn; rw [decide_eq_false]; intro e; exact h (congrArg (fun (z : LinD) => z.2.1) e)
theorem heldLn_f2 {k n : Int} {a b c d : List (List Int)} (h : ¬ b = markLL (k + (cntA List.length a : Nat)) b) : heldLn k (n, a, b, c, d) = -1 := by
 unfold heldLn; rw [decide_eq_false]; intro e; exact h (congrArg (fun (z : LinD) => z.2.2.1) e)
theorem heldLn_f3 {k n : Int} {a b c d : List (List Int)} (h : ¬ c = markLL (k + (cntA List.length a : Nat) + (cntA List.length b : Nat)) c) : heldLn k (n, a, b, c, d) = -1 := by
 unfold heldLn; rw [decide_eq_false]; intro e; exact h (congrArg (fun (z : LinD) => z.2.2.2.1) e)
theorem heldLn_f4 {k n : Int} {a b c d : List (List Int)} (h : ¬ d = markLL (k + (cntA List.length a : Nat) + (cntA List.length b : Nat) + (cntA List.length c : Nat)) d) : heldLn k (n, a, b, c, d) = -1 := by
 unfold heldLn; rw [decide_eq_false]; intro e; exact h (congrArg (fun (z : LinD) => z.2.2.2.2) e)
theorem heldLn_t {k n : Int} {a b c d : List (List Int)} (h1 : a = markLL k a) (h2 : b = markLL (k + (cntA List.length a : Nat)) b) (h3 : c = markLL (k + (cntA List.length a : Nat) + (cntA List.length b : Nat)) c)
 (h4 : d = markLL (k + (cntA List.length a : Nat) + (cntA List.length b : Nat) + (cntA List.length c : Nat)) d) :
 k + (cntA List.length a : Nat) + (cntA List.length b : Nat) + (cntA List.length c : Nat) + (cntA List.length d : Nat) = heldLn k (n, a, b, c, d) := by
 unfold heldLn
 rw [decide_eq_true (show (n, a, b, c, d) = mkLn k (n, a, b, c, d) from Prod.ext rfl (Prod.ext h1 (Prod.ext h2 (Prod.ext h3 h4))))]
 simp only [ctLn, cLL]; omega
theorem heldLn_mark' (k n : Int) (a b c d : List (List Int)) : heldLn k (n, markLL k a, markLL (k + (cntA List.length a : Nat)) b, markLL (k + (cntA List.length a : Nat) + (cntA List.length b : Nat)) c, markLL (k + (cntA List.length a : Nat) + (cntA List.length b : Nat) + (cntA List.length c : Nat)) d) = k + (ctLn (0, a, b, c, d) : Nat) := heldLn_mark k (n, a, b, c, d)
theorem matC_cnt {f : Nat → List Int} {r w m n : Nat} (hr : r ≤ m) (hw : w ≤ n) : cLL (matC f r w) ≤ n * m := by
 have e := cntA_one (ct := List.length) (c := n) (xs := matC f r w) fun x hx => by
  simp only [matC, List.mem_map] at hx
  obtain ⟨i, _, rfl⟩ := hx
  simpa using hw
 rw [matC_len] at e
 exact Nat.le_trans e (Nat.mul_le_mul_left _ hr)
theorem linR_bd (p : PatchD) : ctLn (0, (linR p).1.2.1, (linR p).1.2.2.1, (linR p).1.2.2.2.1, (linR p).1.2.2.2.2) ≤ 1000000 := by
 by_cases h : linCode p = 0
 · rw [linR_t h]
   have hP : patchB p = true := by
    cases h' : patchB p with
    | true => rfl
    | false => rw [linCode_1 h'] at h; cases h
   have hQ := (patchB_parts (trim_patch hP)).1
   have hi : (trimP p).1.toNat ≤ 4 := by have := (formedB_parts hQ).2.2.2.2.1; omega
   have ho : (trimP p).2.2.2.length ≤ 4 := (formedB_parts hQ).2.1
   have hc : cellN (trimP p).2.2.1 ≤ 24 := by
    cases h' : linB p with
    | false => rw [linCode_6 hP h'] at h; cases h
    | true =>
      by_cases h2 : 24 < cellN (trimP p).2.2.1
      · rw [linCode_5 hP h' h2] at h; cases h
      · omega
   simp only [ctLn, linM]
   have e1 := matC_cnt (f := fun j => (stC (trimP p) j).1) hc hc
   have e2 := matC_cnt (f := fun j => (inC (trimP p) j).1) hc hi
   have e3 := matC_cnt (f := fun j => (stC (trimP p) j).2) ho hc
   have e4 := matC_cnt (f := fun j => (inC (trimP p) j).2) ho hi
   omega
 · rw [linR_f h]
   simp [ctLn, cLL, cntA]
end Go.Proofs.YtflaacndokbddaaGreat
namespace Go.Proofs.YtflaacndokbddaaGreat
open Go.RowKit
set_option linter.unusedSimpArgs false
set_option linter.unusedVariables false
set_option maxRecDepth 100000
set_option maxHeartbeats 1000000
def K_eqLn : Con := ⟨[.val ((.prod (.int .i64) (.prod (.row 26 (.row 2 (.int .i64))) (.prod (.row 26 (.row 2 (.int .i64))) (.prod (.row 26 (.row 2 (.int .i64))) (.row 26 (.row 2 (.int .i64)))))))), .val ((.prod (.int .i64) (.prod (.row 26 (.row 2 (.int .i64))) (.prod (.row 26 (.row 2 (.int .i64))) (.prod (.row 26 (.row 2 (.int .i64))) (.row 26 (.row 2 (.int .i64))))))))], [⟨.bool, true⟩], fun _ => True, fun x => eqD (α := LinD) x.1 x.2.1⟩
theorem eqLn_ok : PureT Tryz.prog 26 K_eqLn := by
  refine pure_of_body Tryz.func26 rfl ?_
  have hres : Tryz.f26.results.toList = [.tmp 4] := rfl
  rintro ⟨⟨(ni : Int), (la : List (List Int)), (lb : List (List Int)), (lc : List (List Int)), (ld : List (List Int))⟩, ⟨(ni2 : Int), (la2 : List (List Int)), (lb2 : List (List Int)), (lc2 : List (List Int)), (ld2 : List (List Int))⟩, _⟩ hc hL
  simp only [K_eqLn, go_sem] at hL
  simp only [K_eqLn, St.init, St.initG, Tryz.ntmps26, go_sem] 
  refine oS fun K1 hK1 => ?_
  refine oW T_eqP_ok ?_
  simp only [go_sem]
  refine hK1 _ ?_
  refine oS fun K2 hK2 => ?_
  refine oS fun K3 hK3 => ?_
  refine oW T_eqP_ok ?_
  simp (maxSteps := 2000000) only [go_sem]
  repeat (with_reducible refine oA ?_)
  refine hK3 _ ?_
  refine oC rfl ?_ ?_
  ·
   intro c0
   refine oS fun K4 hK4 => ?_
   refine oW T_eqP_ok ?_
   simp only [go_sem]
   refine hK4 _ ?_
   refine AWP_ret ?_
   simp only [hres, go_sem]
   first | exact oF | (refine ⟨?_, oF⟩; clear hK1 hK2 hK3 hK4; simp_all [eqD])
  intro c0
  refine AWP_skip ?_
  simp only [go_sem]
  refine hK2 _ ?_
  refine oS fun K5 hK5 => ?_
  refine oS fun K6 hK6 => ?_
  refine oW T_eqP_ok ?_
  simp (maxSteps := 2000000) only [go_sem]
  repeat (with_reducible refine oA ?_)
  refine hK6 _ ?_
  refine oC rfl ?_ ?_
  ·
   intro c1
   refine oS fun K7 hK7 => ?_
   refine oW T_eqP_ok ?_
   simp only [go_sem]
   refine hK7 _ ?_
   refine AWP_ret ?_
   simp only [hres, go_sem]
   first | exact oF | (refine ⟨?_, oF⟩; clear hK1 hK2 hK3 hK5 hK6 hK7; simp_all [eqD])
  intro c1
  refine AWP_skip ?_
  simp only [go_sem]
  refine hK5 _ ?_
  refine oS fun K8 hK8 => ?_
  refine oS fun K9 hK9 => ?_
  refine oW T_eqP_ok ?_
  simp (maxSteps := 2000000) only [go_sem]
  repeat (with_reducible refine oA ?_)
  refine hK9 _ ?_
  refine oC rfl ?_ ?_
  ·
   intro c2
   refine oS fun K10 hK10 => ?_
   refine oW T_eqP_ok ?_
   simp only [go_sem]
   refine hK10 _ ?_
   refine AWP_ret ?_
   simp only [hres, go_sem]
   first | exact oF | (refine ⟨?_, oF⟩; clear hK1 hK2 hK3 hK5 hK6 hK8 hK9 hK10; simp_all [eqD])
  intro c2
  refine AWP_skip ?_
  simp only [go_sem]
  refine hK8 _ ?_
  refine oS fun K11 hK11 => ?_
  refine oS fun K12 hK12 => ?_
  refine oW T_eqP_ok ?_
  simp (maxSteps := 2000000) only [go_sem]
  repeat (with_reducible refine oA ?_)
  refine hK12 _ ?_
  refine oC rfl ?_ ?_
  ·
   intro c3
   refine oS fun K13 hK13 => ?_
   refine oW T_eqP_ok ?_
   simp only [go_sem]
   refine hK13 _ ?_
   refine AWP_ret ?_
   simp only [hres, go_sem]
   first | exact oF | (refine ⟨?_, oF⟩; clear hK1 hK2 hK3 hK5 hK6 hK8 hK9 hK11 hK12 hK13; simp_all [eqD])
  intro c3
  refine AWP_skip ?_
  simp only [go_sem]
  refine hK11 _ ?_
  refine oS fun K14 hK14 => ?_
  refine oS fun K15 hK15 => ?_
  refine oW T_eqP_ok ?_
  simp (maxSteps := 2000000) only [go_sem]
  repeat (with_reducible refine oA ?_)
  refine hK15 _ ?_
  refine oC rfl ?_ ?_
  ·
   intro c4
   refine oS fun K16 hK16 => ?_
   refine oW T_eqP_ok ?_
   simp only [go_sem]
   refine hK16 _ ?_
   refine AWP_ret ?_
   simp only [hres, go_sem]
   first | exact oF | (refine ⟨?_, oF⟩; clear hK1 hK2 hK3 hK5 hK6 hK8 hK9 hK11 hK12 hK14 hK15 hK16; simp_all [eqD])
  intro c4
  refine AWP_skip ?_
  simp only [go_sem]
  refine hK14 _ ?_
  refine oS fun K17 hK17 => ?_
  refine oW T_eqP_ok ?_
  simp only [go_sem]
  refine hK17 _ ?_
  refine AWP_ret ?_
  simp only [hres, go_sem]
  first | exact oF | (refine ⟨?_, oF⟩; clear hK1 hK2 hK3 hK5 hK6 hK8 hK9 hK11 hK12 hK14 hK15 hK17; simp_all [eqD])
def T_eqLn : Tab := fun f => if f = 26 then some (.p K_eqLn) else T_eqP f
theorem T_eqLn_ok : TabOk Tryz.prog T_eqLn := tabP eqLn_ok (fnOk_of Tryz.func26 rfl (by decide)) T_eqP_ok
attribute [go_sem] T_eqLn K_eqLn
end Go.Proofs.YtflaacndokbddaaGreat
