/-
 States behind some frames, and what stands in the columns of a rendering: plain facts.
-/
import Derived.Test.YtiafipboklboeaaPi
namespace Go.Proofs.Ytiafipboklboeaa
open Go.RowKit
set_option linter.unusedSimpArgs false
set_option linter.unusedVariables false

def stN (p : PatchD) (ins : List (List Int)) (i : Nat) : List (List Int) := (blockSt p ins 0 i (startL p, List.replicate p.2.2.2.length [])).1
def valN (p : PatchD) (ins : List (List Int)) (i : Nat) : List Int := valsL p (stN p ins i) (frameAt ins (i : Int))
theorem stN_zero (p : PatchD) (ins : List (List Int)) : stN p ins 0 = startL p := rfl
theorem stN_next (p : PatchD) (ins : List (List Int)) (i : Nat) : stN p ins (i + 1) = nextL p (stN p ins i) (frameAt ins (i : Int)) (valN p ins i) := by
 unfold stN valN
 simp only [blockSt, Int.zero_add]
 rfl
theorem stN_ok {p : PatchD} {ins : List (List Int)} (h : formedB p = true) (hi : insOk p ins) (i : Nat) : StOk p (stN p ins i) := (block_ok h (startL_ok h) hi (by simp) i).1
theorem stepN {p : PatchD} {ins : List (List Int)} (hP : patchB p = true) (hi : insOk p ins) (i : Nat) : stepR p (stN p ins i) (frameAt ins (i : Int)) = (outsL p (valN p ins i), stN p ins (i + 1), 0) := by
 have hF := (patchB_parts hP).1
 have hS := stN_ok hF hi i
 obtain ⟨f1, f2⟩ := frameAt_ok (p := p) hi (i : Int)
 have hc : codeF p (stN p ins i) (frameAt ins (i : Int)) = 0 := by
  unfold codeF
  rw [hP, stateB_iff.2 hS]
  simp only [Bool.and_self]
  rw [decide_eq_true f1, f2]
  rfl
 rw [stepR_t hc, stN_next]
 rfl
theorem colN {p : PatchD} {ins : List (List Int)} (h : formedB p = true) (hi : insOk p ins) {k i : Nat} (hk : k < p.2.2.2.length) : ∀ m, i < m → ((renderL p ins m).getD k []).getD i 0 = (outsL p (valN p ins i)).getD k 0 := by
 intro m
 induction m with
 | zero => intro h; omega
 | succ m ih =>
   intro him
   have hb := (block_ok (frm := 0) h (startL_ok h) hi (o := List.replicate p.2.2.2.length []) (by simp) m).2
   have hl := block_len (frm := 0) h (startL_ok h) hi (o := List.replicate p.2.2.2.length []) (m := 0) (by simp) (by intro i hi; simp [List.getD] at hi ⊢; simp [hi]) m k hk
   have e : (renderL p ins (m + 1)).getD k [] = (renderL p ins m).getD k [] ++ [(outsL p (valN p ins m)).getD k 0] := by
    unfold renderL
    simp only [blockSt, Int.zero_add]
    rw [addOut_at (by omega) (by rw [outsL_len]; omega)]
    rfl
   have hl' : ((renderL p ins m).getD k []).length = m := by unfold renderL; omega
   rw [e, List.getD_eq_getElem?_getD]
   by_cases hc : i < m
   · rw [List.getElem?_append_left (by omega), ← List.getD_eq_getElem?_getD]; exact ih hc
   · obtain rfl : i = m := by omega
     rw [List.getElem?_append_right (by omega), hl', Nat.sub_self]; rfl
theorem lenN {p : PatchD} {ins : List (List Int)} (h : formedB p = true) (hi : insOk p ins) {k : Nat} (hk : k < p.2.2.2.length) (m : Nat) : ((renderL p ins m).getD k []).length = m := by
 have hl := block_len (frm := 0) h (startL_ok h) hi (o := List.replicate p.2.2.2.length []) (m := 0) (by simp) (by intro i hi; simp [List.getD] at hi ⊢; simp [hi]) m k hk
 unfold renderL; omega
end Go.Proofs.Ytiafipboklboeaa
