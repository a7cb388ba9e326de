/-
 Texts joined: the logic of trees and plain laws. No condition beyond those of the theorems.
-/
import Derived.Test.YtflaacndokbddaaGreatPe
set_option linter.unusedSimpArgs false
set_option linter.unusedVariables false
namespace Go.Proofs.YtflaacndokbddaaGreat
open Go.RowKit
theorem getD_out {xs : List Int} {i : Nat} (h : xs.length ≤ i) : xs.getD i 0 = 0 := by
 rw [List.getD_eq_getElem?_getD, List.getElem?_eq_none h]; rfl
def frameAt (ins : List (List Int)) (i : Int) : List Int := ins.map fun a => a.getD i.toNat 0
def addOut (outs : List (List Int)) (xs : List Int) : List (List Int) := List.zipWith (fun l x => l ++ [x]) outs xs
def blockSt (p : PatchD) (ins : List (List Int)) (frm : Int) : Nat → List (List Int) × List (List Int) → List (List Int) × List (List Int)
 | 0, st => st
 | k + 1, st => (nextL p (blockSt p ins frm k st).1 (frameAt ins (frm + k)) (valsL p (blockSt p ins frm k st).1 (frameAt ins (frm + k))),
     addOut (blockSt p ins frm k st).2 (outsL p (valsL p (blockSt p ins frm k st).1 (frameAt ins (frm + k)))))
def sigB (p : PatchD) (ins : List (List Int)) : Bool := decide ((ins.length : Int) = p.1) && ins.all l03B
def insOk (p : PatchD) (ins : List (List Int)) : Prop := (ins.length : Int) = p.1 ∧ ∀ a ∈ ins, a.length ≤ 4000 ∧ smps a = true
theorem sigB_iff {p : PatchD} {ins : List (List Int)} : sigB p ins = true ↔ insOk p ins := by
 simp only [sigB, insOk, Bool.and_eq_true, decide_eq_true_eq, List.all_eq_true, l03B]
theorem frameAt_ok {p : PatchD} {ins : List (List Int)} (h : insOk p ins) (i : Int) : ((frameAt ins i).length : Int) = p.1 ∧ smps (frameAt ins i) = true := by
 refine ⟨by simp only [frameAt, List.length_map]; exact h.1, smps_iff.2 fun x hx => ?_⟩
 obtain ⟨a, ha, rfl⟩ := List.mem_map.1 hx
 exact smps_at (h.2 a ha).2 _
theorem addOut_len {outs : List (List Int)} {xs : List Int} (h : outs.length = xs.length) : (addOut outs xs).length = xs.length := by simp [addOut, h]
theorem outsL_len (p : PatchD) (v : List Int) : (outsL p v).length = p.2.2.2.length := by simp [outsL]
theorem block_ok {p : PatchD} {ins : List (List Int)} {frm : Int} {s o : List (List Int)} (h : formedB p = true) (hs : StOk p s) (hi : insOk p ins) (ho : o.length = p.2.2.2.length) : ∀ k, StOk p (blockSt p ins frm k (s, o)).1 ∧ (blockSt p ins frm k (s, o)).2.length = p.2.2.2.length := by
 intro k
 induction k with
 | zero => exact ⟨hs, ho⟩
 | succ k ih =>
   obtain ⟨a1, a2⟩ := ih
   obtain ⟨_, f2⟩ := frameAt_ok hi (frm + k)
   exact ⟨nextL_ok h a1 f2 (valsL_ok' h a1 f2), by simp only [blockSt]; rw [addOut_len (by rw [outsL_len]; exact a2), outsL_len]⟩
theorem addOut_at {outs : List (List Int)} {xs : List Int} {i : Nat} (h : i < outs.length) (h2 : i < xs.length) : (addOut outs xs).getD i [] = outs.getD i [] ++ [xs.getD i 0] := by
 have e : (List.zipWith (fun (l : List Int) (x : Int) => l ++ [x]) outs xs)[i]? = some (outs[i] ++ [xs[i]]) := by
  rw [List.getElem?_eq_getElem (by simp; omega), List.getElem_zipWith]
 have e1 : outs.getD i [] = outs[i] := by simp [List.getD, h]
 have e2 : xs.getD i 0 = xs[i] := by simp [List.getD, h2]
 rw [e1, e2, addOut, List.getD_eq_getElem?_getD, e]; rfl
theorem block_len {p : PatchD} {ins : List (List Int)} {frm : Int} {s o : List (List Int)} {m : Nat} (h : formedB p = true) (hs : StOk p s) (hi : insOk p ins) (ho : o.length = p.2.2.2.length) (hm : ∀ i, i < o.length → (o.getD i []).length = m) :
 ∀ k i, i < p.2.2.2.length → ((blockSt p ins frm k (s, o)).2.getD i []).length = m + k := by
 intro k
 induction k with
 | zero => intro i hi'; exact hm i (by omega)
 | succ k ih =>
   intro i hi'
   simp only [blockSt]
   have hb := (block_ok (frm := frm) h hs hi ho k).2
   rw [addOut_at (by omega) (by rw [outsL_len]; omega), List.length_append, ih i hi']
   simp; omega
theorem block_add {p : PatchD} {ins : List (List Int)} {frm : Int} {st : List (List Int) × List (List Int)} (a : Nat) : ∀ b, blockSt p ins frm (a + b) st = blockSt p ins (frm + a) b (blockSt p ins frm a st) := by
 intro b
 induction b with
 | zero => rfl
 | succ b ih =>
   rw [← Nat.add_assoc]
   simp only [blockSt, ih]
   rw [show frm + ((a + b : Nat) : Int) = frm + a + b by omega]
theorem block_outs {p : PatchD} {ins : List (List Int)} {frm : Int} {s o : List (List Int)} : ∀ k, (blockSt p ins frm k (s, o)).1 = (blockSt p ins frm k (s, List.replicate o.length [])).1 := by
 intro k
 induction k with
 | zero => rfl
 | succ k ih => simp only [blockSt, ih]
def lastV (p : PatchD) (ins : List (List Int)) (frm : Int) (vals : List Int) (st : List (List Int) × List (List Int)) : Nat → List Int
 | 0 => vals
 | k + 1 => valsL p (blockSt p ins frm k st).1 (frameAt ins (frm + k))
def lastF (p : PatchD) (ins : List (List Int)) (frm : Int) : Nat → List Int
 | 0 => List.replicate p.1.toNat 0
 | k + 1 => frameAt ins (frm + k)
theorem lastV_ok {p : PatchD} {ins : List (List Int)} {frm : Int} {vals : List Int} {s o : List (List Int)} (h : formedB p = true) (hs : StOk p s) (hi : insOk p ins) (ho : o.length = p.2.2.2.length) (hv : valsOk p vals) (k : Nat) : valsOk p (lastV p ins frm vals (s, o) k) := by
 cases k with
 | zero => exact hv
 | succ k =>
   obtain ⟨_, f2⟩ := frameAt_ok hi (frm + k)
   exact valsL_ok' h (block_ok (frm := frm) h hs hi ho k).1 f2
theorem lastF_len {p : PatchD} {ins : List (List Int)} {frm : Int} (hi : insOk p ins) (k : Nat) : (lastF p ins frm k).length = ins.length := by
 cases k with
 | zero => have := hi.1; simp only [lastF, List.length_replicate]; omega
 | succ k => simp [lastF, frameAt]
def blend {α : Type} (A B : List α) (m : Nat) : List α := A.take m ++ B.drop m
section
variable {α : Type} {A B : List α} {m : Nat}
theorem blend_len (h : A.length = B.length) (hm : m ≤ A.length) : (blend A B m).length = A.length := by
 simp only [blend, List.length_append, List.length_take, List.length_drop]; omega
theorem blend_at (d : α) (h : A.length = B.length) (hm : m < A.length) : (blend A B m).getD m d = B.getD m d := by
 unfold blend
 rw [List.getD_eq_getElem?_getD, List.getD_eq_getElem?_getD, List.getElem?_append_right (by rw [List.length_take]; omega), List.getElem?_drop, List.length_take]
 congr 2; omega
theorem blend_set (d : α) (h : A.length = B.length) (hm : m < A.length) : (blend A B m).set m (A.getD m d) = blend A B (m + 1) := by
 unfold blend
 rw [take_next (d := d) hm, List.set_append_right _ _ (by rw [List.length_take]; omega), List.length_take, (by omega : m - min m A.length = 0), List.drop_eq_getElem_cons (show m < B.length by omega), List.set_cons_zero, List.append_assoc]
 rfl
theorem blend_zero : blend A B 0 = B := by simp [blend]
theorem blend_all (h : A.length = B.length) (hm : A.length ≤ m) : blend A B m = A := by
 unfold blend; rw [List.take_of_length_le hm, List.drop_of_length_le (by omega), List.append_nil]
end
theorem frameAt_at {ins : List (List Int)} {i : Int} {m : Nat} (h : m < ins.length) : (frameAt ins i).getD m 0 = (ins.getD m []).getD i.toNat 0 := by simp [frameAt, List.getD, h]
def renderL (p : PatchD) (ins : List (List Int)) (n : Nat) : List (List Int) := (blockSt p ins 0 n (startL p, List.replicate p.2.2.2.length [])).2
def renderR (p : PatchD) (ins : List (List Int)) (n : Int) : List (List Int) × Int := match patchB p with
 | false => ([], 1)
 | true => match sigB p ins && inR n 0 4000 with
   | false => ([], 2)
   | true => (renderL p ins n.toNat, 0)
theorem renderR_1 {p : PatchD} {ins : List (List Int)} {n : Int} (h : patchB p = false) : renderR p ins n = ([], 1) := by unfold renderR; rw [h]
theorem renderR_2 {p : PatchD} {ins : List (List Int)} {n : Int} (h : patchB p = true) (k : (sigB p ins && inR n 0 4000) = false) : renderR p ins n = ([], 2) := by unfold renderR; rw [h, k]
theorem renderR_0 {p : PatchD} {ins : List (List Int)} {n : Int} (h : patchB p = true) (k : (sigB p ins && inR n 0 4000) = true) : renderR p ins n = (renderL p ins n.toNat, 0) := by unfold renderR; rw [h, k]
end Go.Proofs.YtflaacndokbddaaGreat
namespace Go.Proofs.YtflaacndokbddaaGreat
open Go.RowKit
def impIn (pi i : Int) : List (List Int) := (List.replicate pi.toNat ([] : List Int)).set i.toNat [1]
theorem impIn_ok {p : PatchD} {i : Int} (h : 0 ≤ p.1) : insOk p (impIn p.1 i) := by
 refine ⟨by unfold impIn; rw [List.length_set, List.length_replicate]; omega, fun a ha => ?_⟩
 rcases List.mem_or_eq_of_mem_set ha with h1 | h1
 · rw [(List.mem_replicate.1 h1).2]; exact ⟨by simp, rfl⟩
 · subst h1; exact ⟨by simp, by decide⟩
theorem renderL_len {p : PatchD} {ins : List (List Int)} (hF : formedB p = true) (hi : insOk p ins) (n : Nat) : (renderL p ins n).length = p.2.2.2.length := (block_ok (o := List.replicate p.2.2.2.length []) hF (startL_ok hF) hi (by simp) n).2
theorem renderL_row {p : PatchD} {ins : List (List Int)} (hF : formedB p = true) (hi : insOk p ins) (n : Nat) {k : Nat} (hk : k < p.2.2.2.length) : ((renderL p ins n).getD k []).length = n := by
 have := block_len (p := p) (ins := ins) (frm := 0) (s := startL p) (o := List.replicate p.2.2.2.length []) (m := 0) hF (startL_ok hF) hi (by simp) (by intro i hi'; simp [List.getD] at hi' ⊢; simp [hi']) n k hk
 unfold renderL; omega
def impR (p : PatchD) (i o n : Int) : List Int × Int := match patchB p with
 | false => ([], 1)
 | true => match inR i 0 (p.1 - 1) && (inR o 0 ((p.2.2.2.length : Int) - 1) && inR n 0 4000) with
   | false => ([], 2)
   | true => ((renderL p (impIn p.1 i) n.toNat).getD o.toNat [], 0)
theorem impR_1 {p : PatchD} {i o n : Int} (h : patchB p = false) : impR p i o n = ([], 1) := by unfold impR; rw [h]
theorem impR_2 {p : PatchD} {i o n : Int} (h : patchB p = true) (k : (inR i 0 (p.1 - 1) && (inR o 0 ((p.2.2.2.length : Int) - 1) && inR n 0 4000)) = false) : impR p i o n = ([], 2) := by unfold impR; rw [h, k]
theorem impR_0 {p : PatchD} {i o n : Int} (h : patchB p = true) (k : (inR i 0 (p.1 - 1) && (inR o 0 ((p.2.2.2.length : Int) - 1) && inR n 0 4000)) = true) : impR p i o n = ((renderL p (impIn p.1 i) n.toNat).getD o.toNat [], 0) := by unfold impR; rw [h, k]
theorem impR_bd (p : PatchD) (i o n : Int) : (impR p i o n).1.length ≤ 1000000 := by
 unfold impR
 split
 · simp
 · rename_i h
   split
   · simp
   · rename_i k
     simp only [Bool.and_eq_true] at k
     have hF := (patchB_parts h).1
     have h1 := inR_iff.1 k.2.2
     have h2 := inR_iff.1 k.2.1
     have h3 := (formedB_parts hF).2.2.2.1
     rw [renderL_row hF (impIn_ok h3) _ (by omega)]
     omega
def sizesGo : Int → List Int → Bool
 | _, [] => true
 | n, x :: l => inR x 0 (4000 - n) && sizesGo (n + x) l
theorem sizesGo_app : ∀ (a b : List Int) (n : Int), sizesGo n (a ++ b) = (sizesGo n a && sizesGo (n + a.sum) b) := by
 intro a
 induction a with
 | nil => intro b n; simp [sizesGo]
 | cons x a ih => intro b n; simp only [List.cons_append, sizesGo, ih, List.sum_cons, Bool.and_assoc, Int.add_assoc]
theorem sizesGo_bd : ∀ (l : List Int) (n : Int), 0 ≤ n → n ≤ 4000 → sizesGo n l = true → n ≤ n + l.sum ∧ n + l.sum ≤ 4000 := by
 intro l
 induction l with
 | nil => intro n h1 h2 _; simp; omega
 | cons x l ih =>
   intro n h1 h2 h
   simp only [sizesGo, Bool.and_eq_true] at h
   have hx := inR_iff.1 h.1
   have := ih (n + x) (by omega) (by omega) h.2
   simp only [List.sum_cons]
   omega
def sizB (l : List Int) : Bool := sizesGo 0 l
theorem sizB_bd {l : List Int} (h : sizB l = true) : 0 ≤ l.sum ∧ l.sum ≤ 4000 := by
 have := sizesGo_bd l 0 (by omega) (by omega) h
 omega
theorem sizB_next {l : List Int} {k : Nat} (hk : k < l.length) : sizB (l.take (k + 1)) = (sizB (l.take k) && inR (l.getD k 0) 0 (4000 - (l.take k).sum)) := by
 unfold sizB
 rw [take_next (d := 0) hk, sizesGo_app]
 simp [sizesGo]
theorem sum_next {l : List Int} {k : Nat} (hk : k < l.length) : (l.take (k + 1)).sum = (l.take k).sum + l.getD k 0 := by
 rw [take_next (d := 0) hk]; simp
theorem sizB_bad {l : List Int} {k : Nat} (h : sizB (l.take k) = false) : sizB l = false := by
 unfold sizB at *
 rw [← List.take_append_drop k l, sizesGo_app, h]; rfl
theorem sizB_take {l : List Int} {k : Nat} (h : sizB l = true) : sizB (l.take k) = true := by
 cases e : sizB (l.take k) with
 | true => rfl
 | false => rw [sizB_bad e] at h; exact h
theorem szBad1 {l : List Int} {k : Nat} (hk : k < l.length) (hx : inR (l.getD k 0) 0 4000 = false) (hp : sizB (l.take k) = true) : sizB l = false := by
 refine sizB_bad (k := k + 1) ?_
 have hb := sizB_bd hp
 rw [sizB_next hk, hp, Bool.true_and]
 cases e : inR (l.getD k 0) 0 (4000 - (l.take k).sum) with
 | false => rfl
 | true =>
   have := inR_iff.1 e
   rw [inR_t (by omega) (by omega)] at hx; cases hx
theorem szBad2 {l : List Int} {k : Nat} (hk : k < l.length) (hp : sizB (l.take k) = true) (hx : inR (l.getD k 0) 0 4000 = true) (h2 : 4000 < IntKind.i64.wrap ((l.take k).sum + l.getD k 0)) : sizB l = false := by
 refine sizB_bad (k := k + 1) ?_
 have hb := sizB_bd hp
 have h3 := inR_iff.1 hx
 rw [wrapI (by omega)] at h2
 rw [sizB_next hk, hp, Bool.true_and]
 cases e : inR (l.getD k 0) 0 (4000 - (l.take k).sum) with
 | false => rfl
 | true => have := inR_iff.1 e; omega
theorem szGood {l : List Int} {k : Nat} (hk : k < l.length) (hp : sizB (l.take k) = true) (hx : inR (l.getD k 0) 0 4000 = true) (h2 : IntKind.i64.wrap ((l.take k).sum + l.getD k 0) ≤ 4000) : sizB (l.take (k + 1)) = true ∧ IntKind.i64.wrap ((l.take k).sum + l.getD k 0) = (l.take (k + 1)).sum := by
 have hb := sizB_bd hp
 have h3 := inR_iff.1 hx
 rw [wrapI (by omega)] at h2 ⊢
 rw [sizB_next hk, hp, Bool.true_and, sum_next hk]
 exact ⟨inR_t (by omega) (by omega), rfl⟩
def ribR (p : PatchD) (ins : List (List Int)) (sz : List Int) : List (List Int) × Int := match patchB p with
 | false => ([], 1)
 | true => match sigB p ins && sizB sz with
   | false => ([], 2)
   | true => (renderL p ins sz.sum.toNat, 0)
theorem ribR_1 {p : PatchD} {ins : List (List Int)} {sz : List Int} (h : patchB p = false) : ribR p ins sz = ([], 1) := by unfold ribR; rw [h]
theorem ribR_2 {p : PatchD} {ins : List (List Int)} {sz : List Int} (h : patchB p = true) (k : (sigB p ins && sizB sz) = false) : ribR p ins sz = ([], 2) := by unfold ribR; rw [h, k]
theorem ribR_0 {p : PatchD} {ins : List (List Int)} {sz : List Int} (h : patchB p = true) (k : (sigB p ins && sizB sz) = true) : ribR p ins sz = (renderL p ins sz.sum.toNat, 0) := by unfold ribR; rw [h, k]
def rbR (p : PatchD) (s ins : List (List Int)) (n : Int) : List (List Int) × List (List Int) × Int := match patchB p && stateB p s with
 | false => ([], [], 1)
 | true => match sigB p ins && inR n 0 4000 with
   | false => ([], [], 2)
   | true => ((blockSt p ins 0 n.toNat (s, List.replicate p.2.2.2.length [])).2, (blockSt p ins 0 n.toNat (s, List.replicate p.2.2.2.length [])).1, 0)
theorem rbR_1 {p : PatchD} {s ins : List (List Int)} {n : Int} (h : (patchB p && stateB p s) = false) : rbR p s ins n = ([], [], 1) := by unfold rbR; rw [h]
theorem rbR_2 {p : PatchD} {s ins : List (List Int)} {n : Int} (h : (patchB p && stateB p s) = true) (k : (sigB p ins && inR n 0 4000) = false) : rbR p s ins n = ([], [], 2) := by unfold rbR; rw [h, k]
theorem rbR_0 {p : PatchD} {s ins : List (List Int)} {n : Int} (h : (patchB p && stateB p s) = true) (k : (sigB p ins && inR n 0 4000) = true) : rbR p s ins n = ((blockSt p ins 0 n.toNat (s, List.replicate p.2.2.2.length [])).2, (blockSt p ins 0 n.toNat (s, List.replicate p.2.2.2.length [])).1, 0) := by unfold rbR; rw [h, k]
def behind (a b : List (List Int)) : List (List Int) := List.zipWith (· ++ ·) a b
theorem behind_len {a b : List (List Int)} (h : a.length = b.length) : (behind a b).length = b.length := by simp [behind, h]
theorem behind_at {a b : List (List Int)} {i : Nat} (h : i < a.length) (h2 : i < b.length) : (behind a b).getD i [] = a.getD i [] ++ b.getD i [] := by
 have e : (List.zipWith (fun (x y : List Int) => x ++ y) a b)[i]? = some (a[i] ++ b[i]) := by
  rw [List.getElem?_eq_getElem (by simp; omega), List.getElem_zipWith]
 have e1 : a.getD i [] = a[i] := by simp [List.getD, h]
 have e2 : b.getD i [] = b[i] := by simp [List.getD, h2]
 rw [e1, e2, behind, List.getD_eq_getElem?_getD, e]; rfl
theorem addOut_behind (a b : List (List Int)) (xs : List Int) : addOut (behind a b) xs = behind a (addOut b xs) := by
 unfold addOut behind
 induction a generalizing b xs with
 | nil => simp
 | cons x a ih =>
   cases b with
   | nil => simp
   | cons y b =>
     cases xs with
     | nil => simp
     | cons z xs => simp only [List.zipWith_cons_cons, ih, List.append_assoc]
theorem behind_nil : ∀ (a : List (List Int)), behind a (List.replicate a.length []) = a := by
 intro a
 induction a with
 | nil => rfl
 | cons x a ih => simp only [behind, List.length_cons, List.replicate_succ, List.zipWith_cons_cons, List.append_nil] at ih ⊢; rw [ih]
theorem block_behind {p : PatchD} {ins : List (List Int)} {frm : Int} {s o : List (List Int)} : ∀ k, (blockSt p ins frm k (s, o)).2 = behind o (blockSt p ins frm k (s, List.replicate o.length [])).2 := by
 intro k
 induction k with
 | zero => exact (behind_nil o).symm
 | succ k ih => simp only [blockSt, ih, addOut_behind, block_outs (o := o)]
theorem block_step {p : PatchD} {ins : List (List Int)} {s o : List (List Int)} (a b : Nat) (ho : (blockSt p ins 0 a (s, o)).2.length = o.length) :
 (blockSt p ins 0 (a + b) (s, o)).1 = (blockSt p ins (a : Int) b ((blockSt p ins 0 a (s, o)).1, List.replicate o.length [])).1 ∧
 (blockSt p ins 0 (a + b) (s, o)).2 = behind (blockSt p ins 0 a (s, o)).2 (blockSt p ins (a : Int) b ((blockSt p ins 0 a (s, o)).1, List.replicate o.length [])).2 := by
 have h := block_add (p := p) (ins := ins) (frm := 0) (st := (s, o)) a b
 rw [h, Int.zero_add]
 rw [show blockSt p ins 0 a (s, o) = ((blockSt p ins 0 a (s, o)).1, (blockSt p ins 0 a (s, o)).2) from rfl]
 exact ⟨by rw [block_outs, ho], by rw [block_behind, ho]⟩
theorem cnt_const {l : List (List Int)} {m : Nat} (h : ∀ x ∈ l, x.length ≤ m) : cntA List.length l ≤ l.length * m := by
 induction l with
 | nil => simp [cntA]
 | cons x l ih =>
   have h1 := h x List.mem_cons_self
   have h2 := ih fun y hy => h y (List.mem_cons_of_mem _ hy)
   simp only [cntA, List.length_cons, Nat.succ_mul] at h2 ⊢
   omega
theorem mem_getD {α : Type} {l : List α} {x : α} (d : α) (h : x ∈ l) : ∃ i, i < l.length ∧ l.getD i d = x := by
 obtain ⟨i, hi, rfl⟩ := List.mem_iff_getElem.1 h
 exact ⟨i, hi, by simp [List.getD, hi]⟩
theorem block_cnt {p : PatchD} {ins s : List (List Int)} (hF : formedB p = true) (hs : StOk p s) (hi : insOk p ins) {n : Nat} (hn : n ≤ 4000) (frm : Int) :
 cntA List.length (blockSt p ins frm n (s, List.replicate p.2.2.2.length [])).2 ≤ 16000 ∧ cntA List.length (blockSt p ins frm n (s, List.replicate p.2.2.2.length [])).1 ≤ 384 := by
 have hb := block_ok (frm := frm) (o := List.replicate p.2.2.2.length []) hF hs hi (by simp) n
 have hl := block_len (frm := frm) (o := List.replicate p.2.2.2.length []) (m := 0) hF hs hi (by simp) (by intro i hi'; simp [List.getD] at hi' ⊢; simp [hi']) n
 have ho := (formedB_parts hF).2.1
 have hn24 := (formedB_parts hF).1
 constructor
 · have := cnt_const (l := (blockSt p ins frm n (s, List.replicate p.2.2.2.length [])).2) (m := n) fun x hx => by
    obtain ⟨i, h1, rfl⟩ := mem_getD [] hx
    rw [hl i (by rw [← hb.2]; exact h1)]; omega
   rw [hb.2] at this
   have h3 : p.2.2.2.length * n ≤ 4 * 4000 := Nat.mul_le_mul ho hn
   omega
 · have := cnt_const (l := (blockSt p ins frm n (s, List.replicate p.2.2.2.length [])).1) (m := 16) fun x hx => by
    obtain ⟨i, h1, rfl⟩ := mem_getD [] hx
    rw [hb.1.1] at h1
    rw [(hb.1.2 i h1).1]
    exact startV_len' (nodeIn_parts (node_at hF h1)).1
   rw [hb.1.1] at this
   omega
theorem renderR_bd (p : PatchD) (ins : List (List Int)) (n : Int) : cntA List.length (renderR p ins n).1 ≤ 1000000 := by
 unfold renderR
 split
 · simp [cntA]
 · rename_i h
   split
   · simp [cntA]
   · rename_i k
     simp only [Bool.and_eq_true] at k
     have hF := (patchB_parts h).1
     have h1 := inR_iff.1 k.2
     have := (block_cnt (n := n.toNat) hF (startL_ok hF) (sigB_iff.1 k.1) (by omega) 0).1
     show cntA List.length (renderL p ins n.toNat) ≤ _
     unfold renderL; omega
theorem ribR_bd (p : PatchD) (ins : List (List Int)) (sz : List Int) : cntA List.length (ribR p ins sz).1 ≤ 1000000 := by
 unfold ribR
 split
 · simp [cntA]
 · rename_i h
   split
   · simp [cntA]
   · rename_i k
     simp only [Bool.and_eq_true] at k
     have hF := (patchB_parts h).1
     have h1 := sizB_bd k.2
     have := (block_cnt (n := sz.sum.toNat) hF (startL_ok hF) (sigB_iff.1 k.1) (by omega) 0).1
     show cntA List.length (renderL p ins sz.sum.toNat) ≤ _
     unfold renderL; omega
theorem rbR_bd (p : PatchD) (s ins : List (List Int)) (n : Int) : cntA List.length (rbR p s ins n).1 ≤ 1000000 ∧ cntA List.length (rbR p s ins n).2.1 ≤ 1000000 := by
 unfold rbR
 split
 · simp [cntA]
 · rename_i h
   simp only [Bool.and_eq_true] at h
   split
   · simp [cntA]
   · rename_i k
     simp only [Bool.and_eq_true] at k
     have hF := (patchB_parts h.1).1
     have h1 := inR_iff.1 k.2
     have := block_cnt (n := n.toNat) hF (stateB_iff.1 h.2) (sigB_iff.1 k.1) (by omega) 0
     simp only
     omega
end Go.Proofs.YtflaacndokbddaaGreat