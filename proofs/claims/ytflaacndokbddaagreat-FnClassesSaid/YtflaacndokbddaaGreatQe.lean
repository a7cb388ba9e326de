/-
 Texts joined: the logic of trees and plain laws. No condition beyond those of the theorems.
-/
import Derived.Test.YtflaacndokbddaaGreatPi
import Derived.Test.YtflaacndokbddaaGreatQc
import Derived.Test.YtflaacndokbddaaGreatPt
set_option linter.unusedSimpArgs false
set_option linter.unusedVariables false
namespace Go.Proofs.YtflaacndokbddaaGreat
open Go.RowKit
def stN (p : PatchD) (ins : List (List Int)) (i : Nat) : List (List Int) := (blockSt p ins 0 i (startL p, List.replicate p.2.2.2.length [])).1
def valN (p : PatchD) (ins : List (List Int)) (i : Nat) : List Int := valsL p (stN p ins i) (frameAt ins (i : Int))
theorem stN_zero (p : PatchD) (ins : List (List Int)) : stN p ins 0 = startL p := rfl
theorem stN_next (p : PatchD) (ins : List (List Int)) (i : Nat) : stN p ins (i + 1) = nextL p (stN p ins i) (frameAt ins (i : Int)) (valN p ins i) := by
 unfold stN valN
 simp only [blockSt, Int.zero_add]
 rfl
theorem stN_ok {p : PatchD} {ins : List (List Int)} (h : formedB p = true) (hi : insOk p ins) (i : Nat) : StOk p (stN p ins i) := (block_ok h (startL_ok h) hi (by simp) i).1
theorem stepN {p : PatchD} {ins : List (List Int)} (hP : patchB p = true) (hi : insOk p ins) (i : Nat) : stepR p (stN p ins i) (frameAt ins (i : Int)) = (outsL p (valN p ins i), stN p ins (i + 1), 0) := by
 have hF := (patchB_parts hP).1
 have hS := stN_ok hF hi i
 obtain ⟨f1, f2⟩ := frameAt_ok (p := p) hi (i : Int)
 have hc : codeF p (stN p ins i) (frameAt ins (i : Int)) = 0 := by
  unfold codeF
  rw [hP, stateB_iff.2 hS]
  simp only [Bool.and_self]
  rw [decide_eq_true f1, f2]
  rfl
 rw [stepR_t hc, stN_next]
 rfl
theorem colN {p : PatchD} {ins : List (List Int)} (h : formedB p = true) (hi : insOk p ins) {k i : Nat} (hk : k < p.2.2.2.length) : ∀ m, i < m → ((renderL p ins m).getD k []).getD i 0 = (outsL p (valN p ins i)).getD k 0 := by
 intro m
 induction m with
 | zero => intro h; omega
 | succ m ih =>
   intro him
   have hb := (block_ok (frm := 0) h (startL_ok h) hi (o := List.replicate p.2.2.2.length []) (by simp) m).2
   have hl := block_len (frm := 0) h (startL_ok h) hi (o := List.replicate p.2.2.2.length []) (m := 0) (by simp) (by intro i hi; simp [List.getD] at hi ⊢; simp [hi]) m k hk
   have e : (renderL p ins (m + 1)).getD k [] = (renderL p ins m).getD k [] ++ [(outsL p (valN p ins m)).getD k 0] := by
    unfold renderL
    simp only [blockSt, Int.zero_add]
    rw [addOut_at (by omega) (by rw [outsL_len]; omega)]
    rfl
   have hl' : ((renderL p ins m).getD k []).length = m := by unfold renderL; omega
   rw [e, List.getD_eq_getElem?_getD]
   by_cases hc : i < m
   · rw [List.getElem?_append_left (by omega), ← List.getD_eq_getElem?_getD]; exact ih hc
   · obtain rfl : i = m := by omega
     rw [List.getElem?_append_right (by omega), hl', Nat.sub_self]; rfl
theorem lenN {p : PatchD} {ins : List (List Int)} (h : formedB p = true) (hi : insOk p ins) {k : Nat} (hk : k < p.2.2.2.length) (m : Nat) : ((renderL p ins m).getD k []).length = m := by
 have hl := block_len (frm := 0) h (startL_ok h) hi (o := List.replicate p.2.2.2.length []) (m := 0) (by simp) (by intro i hi; simp [List.getD] at hi ⊢; simp [hi]) m k hk
 unfold renderL; omega
end Go.Proofs.YtflaacndokbddaaGreat
namespace Go.Proofs.YtflaacndokbddaaGreat
open Go.RowKit
def atD (cd : List Int) (i n : Int) : Int := match decide (n ≤ 1) with
 | true => 0
 | false => match decide (i < cd.length) with
   | true => (IntKind.i64.wrap (cd.getD i.toNat 0)).tmod n
   | false => (i * 37 + 11).tmod n
theorem atD_rng {cd : List Int} {i n : Int} (h : ∀ b ∈ cd, 0 ≤ b ∧ b ≤ 255) (hi : 0 ≤ i) (hn : 1 ≤ n) : 0 ≤ atD cd i n ∧ atD cd i n < n := by
 unfold atD
 split
 · rename_i h1; have := of_decide_eq_true h1; omega
 · split
   · rename_i h2
     have h2 := of_decide_eq_true h2
     have := h _ (getD_mem (d := (0 : Int)) (show i.toNat < cd.length by omega))
     rw [wrapI (by omega)]
     exact ⟨Int.tmod_nonneg _ (by omega), Int.tmod_lt_of_pos _ (by omega)⟩
   · exact ⟨Int.tmod_nonneg _ (by omega), Int.tmod_lt_of_pos _ (by omega)⟩
theorem map_range_next {α : Type} (f : Nat → α) (k : Nat) : (List.range k).map f ++ [f k] = (List.range (k + 1)).map f := by simp [List.range_succ]
theorem map_range_at {α : Type} {f : Nat → α} {n i : Nat} {d : α} (h : i < n) : ((List.range n).map f).getD i d = f i := by simp [List.getD, h]
def rowN (f : Nat → Int) (n : Nat) : List Int := (List.range n).map f
theorem rowN_len (f : Nat → Int) (n : Nat) : (rowN f n).length = n := by simp [rowN]
theorem rowN_next (f : Nat → Int) (n : Nat) : rowN f n ++ [f n] = rowN f (n + 1) := map_range_next f n
end Go.Proofs.YtflaacndokbddaaGreat
namespace Go.Proofs.YtflaacndokbddaaGreat
open Go.RowKit
def startR (p : PatchD) : List (List Int) × Int := match patchB p with
 | true => (startL p, 0)
 | false => ([], 1)
theorem startR_t {p : PatchD} (h : patchB p = true) : startR p = (startL p, 0) := by unfold startR; rw [h]
theorem startR_f {p : PatchD} (h : patchB p = false) : startR p = ([], 1) := by unfold startR; rw [h]
def cutL (a : List Int) (n : Nat) : List Int := (List.range n).map fun i => a.getD i 0
theorem cutL_len (a : List Int) (n : Nat) : (cutL a n).length = n := by simp [cutL]
theorem cutL_next (a : List Int) (n : Nat) : cutL a (n + 1) = cutL a n ++ [a.getD n 0] := by simp [cutL, List.range_succ]
theorem cutL_at {a : List Int} {n i : Nat} (h : i < n) : (cutL a n).getD i 0 = a.getD i 0 := by
 simp [cutL, List.getD, h]
theorem ribR_ok {p : PatchD} {ins x : List (List Int)} {zs : List Int} (h : ribR p ins zs = (x, 0)) : patchB p = true ∧ sigB p ins = true ∧ sizB zs = true ∧ x = renderL p ins zs.sum.toNat := by
 cases hp : patchB p with
 | false => rw [ribR_1 hp] at h; simp at h
 | true =>
   cases hk : (sigB p ins && sizB zs) with
   | false => rw [ribR_2 hp hk] at h; simp at h
   | true =>
     rw [ribR_0 hp hk] at h
     simp only [Bool.and_eq_true] at hk
     exact ⟨rfl, hk.1, hk.2, (Prod.mk.injEq _ _ _ _ ▸ h).1.symm⟩
theorem sizeS_len {n : Nat} {s s' : SrcD} {zs : List Int} (hs : srcOk n s) (hn : 2 ≤ n) (e : sizeS s = (zs, s')) : zs.length ≤ 6 := by
 unfold sizeS at e
 rcases h1 : pickD 6 s with ⟨v, s1⟩
 rw [bnd_of h1] at e
 obtain ⟨_, hv0, hv1, _⟩ := pickD_at hs hn h1
 have hv1 := hv1 (by omega)
 rcases h2 : itD (snocD (pickD 8)) v.toNat [] s1 with ⟨xs, s2⟩
 rw [bnd_of h2] at e
 have hl : xs.length = v.toNat := by have := itD_len (m := pickD 8) (k := v.toNat) (s := s1) (xs := []); rw [h2] at this; simpa using this
 unfold bnd at e
 simp only at e
 split at e
 · simp only [Prod.mk.injEq] at e; rw [← e.1]; simp; omega
 · simp only [Prod.mk.injEq] at e; rw [← e.1]; omega
theorem ribD_len {cd : List Int} {p : PatchD} {ins : List (List Int)} {zs : List Int} (h : ∀ b ∈ cd, 0 ≤ b ∧ b ≤ 255) (e : (ribD cd).1 = (p, ins, zs)) : zs.length ≤ 6 := by
 have hs0 : srcOk 3000 (cd, 0, 0) := ⟨h, by simp, by simp⟩
 unfold ribD at e
 rcases h1 : l07B (cd, 0, 0) with ⟨q, s1⟩
 rw [bnd_of h1] at e
 have hs1 := l07B_cost.at hs0 (by omega) h1
 rcases h2 : l08I q.1 s1 with ⟨xs, s2⟩
 rw [bnd_of h2] at e
 have hs2 := (l08I_cost q.1).at hs1 (by omega) h2
 rcases h3 : sizeS s2 with ⟨ys, s3⟩
 rw [bnd_of h3] at e
 simp only [Prod.mk.injEq] at e
 rw [← e.2.2]
 exact sizeS_len hs2 (by omega) h3
end Go.Proofs.YtflaacndokbddaaGreat
namespace Go.Proofs.YtflaacndokbddaaGreat
open Go.RowKit
def OrdInd (ns : List NodeD) : Prop := ∀ P : Nat → Prop, (∀ i : Nat, i < ns.length → (∀ f ∈ waitsL (ns.getD i n0), ∃ j : Nat, f = (j : Int) ∧ j < ns.length ∧ P j) → P i) → ∀ i, i < ns.length → P i
theorem ordInd_of {ns : List NodeD} (hl : (ordL ns).length = ns.length) : OrdInd ns := by
 intro P h
 have hg := ordL_good ns
 have key : ∀ k, k ≤ (ordL ns).length → ∀ x ∈ (ordL ns).take k, P x.toNat := by
  intro k
  induction k with
  | zero => intro _ x hx; simp at hx
  | succ k ih =>
    intro hk x hx
    rw [take_next (d := 0) (by omega), List.mem_append, List.mem_singleton] at hx
    rcases hx with hx | rfl
    · exact ih (by omega) x hx
    · obtain ⟨i, h1, h2, h3, h4⟩ := hg k (by omega)
      rw [h1, Int.toNat_natCast]
      refine h i h2 fun f hf => ?_
      have hm := h4 f hf
      obtain ⟨j, rfl, hj⟩ := hg.at (mem_take_of hm)
      exact ⟨j, rfl, hj, by have := ih (by omega) _ hm; rwa [Int.toNat_natCast] at this⟩
 intro i hi
 have := key _ (Nat.le_refl _) i (by rw [List.take_length]; exact hg.full hl hi)
 rwa [Int.toNat_natCast] at this
theorem cover_le2 : ∀ (m : Nat) (l : List Int), (∀ i : Nat, i < m → (i : Int) ∈ l) → m ≤ l.length := by
 intro m
 induction m with
 | zero => intro l _; omega
 | succ m ih =>
   intro l h
   have h1 := ih (l.erase (m : Int)) fun i hi => (List.mem_erase_of_ne (by omega)).2 (h i (by omega))
   have h2 := List.length_erase_of_mem (h m (by omega))
   have h3 : 0 < l.length := List.length_pos_of_mem (h m (by omega))
   omega
theorem ordGo_ind {ns : List NodeD} (hw : OrdInd ns) : ∀ (k : Nat) {o : List Int}, o.length + k = ns.length → (ordGo ns k o).length = ns.length := by
 intro k
 induction k with
 | zero => intro o h; simpa [ordGo] using h
 | succ k ih =>
   intro o h
   simp only [ordGo]
   split
   · rename_i hn
     exfalso
     have hall : ∀ i : Nat, i < ns.length → (i : Int) ∈ o := hw (fun i => (i : Int) ∈ o) fun i hi hf => by
      apply Classical.byContradiction
      intro hc
      have h1 := List.find?_eq_none.1 hn i (List.mem_range.2 hi)
      apply h1
      simp only [readyB, Bool.and_eq_true, Bool.not_eq_true', List.all_eq_true, List.contains_eq_mem, decide_eq_true_eq, decide_eq_false_iff_not]
      refine ⟨hc, fun f hf' => ?_⟩
      obtain ⟨j, rfl, hj, hm⟩ := hf f hf'
      exact hm
     have := cover_le2 _ _ hall
     omega
   · exact ih (by simp; omega)
theorem ordL_ind {ns : List NodeD} (hw : OrdInd ns) : (ordL ns).length = ns.length := ordGo_ind hw _ (by simp)
theorem vals_at {p : PatchD} {s : List (List Int)} {fr : List Int} (h : patchB p = true) {i : Nat} (hi : i < p.2.2.1.length) : (valsL p s fr).getD i 0 = outP p s fr (valsL p s fr) i := by
 obtain ⟨hf, ho⟩ := patchB_parts h
 have hg := ordL_good p.2.2.1
 have := sol_all (s := s) (fr := fr) (v0 := List.replicate p.2.2.1.length 0) hg (by simp) (i : Int) (hg.full ho hi)
 rwa [Int.toNat_natCast] at this
theorem extI {a b : List Int} (hl : a.length = b.length) (h : ∀ j, j < b.length → a.getD j 0 = b.getD j 0) : a = b := by
 refine List.ext_getElem hl fun i h1 h2 => ?_
 have := h i h2
 simpa only [List.getD_eq_getElem?_getD, List.getElem?_eq_getElem h1, List.getElem?_eq_getElem h2, Option.getD_some] using this
theorem extL {a b : List (List Int)} (hl : a.length = b.length) (h : ∀ j, j < b.length → a.getD j [] = b.getD j []) : a = b := by
 refine List.ext_getElem hl fun i h1 h2 => ?_
 have := h i h2
 simpa only [List.getD_eq_getElem?_getD, List.getElem?_eq_getElem h1, List.getElem?_eq_getElem h2, Option.getD_some] using this
def FromR (R : Nat → Nat → Prop) (l m : List Int) : Prop := l.length = m.length ∧ ∀ k, k < l.length → ∃ a b : Nat, l.getD k 0 = (a : Int) ∧ m.getD k 0 = (b : Int) ∧ R a b
def SwapR (R : Nat → Nat → Prop) (l m : List Int) : Prop := l.length = 2 ∧ m.length = 2 ∧ ∃ a b c d : Nat, l.getD 0 0 = (a : Int) ∧ l.getD 1 0 = (b : Int) ∧ m.getD 0 0 = (c : Int) ∧ m.getD 1 0 = (d : Int) ∧ R a d ∧ R b c
structure NSim (ts : List (List Int)) (R : Nat → Nat → Prop) (x y : NodeD) : Prop where
 key : keyOf ts x = keyOf ts y
 ins : FromR R x.2.2.2 y.2.2.2 ∨ (swapB x = true ∧ SwapR R x.2.2.2 y.2.2.2)
structure PSim (p q : PatchD) (R : Nat → Nat → Prop) : Prop where
 inp : p.1 = q.1
 tabs : p.2.1 = q.2.1
 node : ∀ i c, R i c → i < p.2.2.1.length ∧ c < q.2.2.1.length ∧ NSim p.2.1 R (p.2.2.1.getD i n0) (q.2.2.1.getD c n0)
 outs : FromR R p.2.2.2 q.2.2.2
theorem key_parts {ts : List (List Int)} {x y : NodeD} (h : keyOf ts x = keyOf ts y) : x.1 = y.1 ∧ x.2.2.1 = y.2.2.1 ∧ (x.1 ≠ 13 → x.2.1 = y.2.1) ∧ (x.1 = 13 → ts.getD x.2.1.toNat [] = ts.getD y.2.1.toNat []) := by
 have h1 : x.1 = y.1 := by rw [← (keyOf_k (ts := ts) (n := x)).1, h, keyOf_k.1]
 have h2 : x.2.2.1 = y.2.2.1 := by rw [← (keyOf_k (ts := ts) (n := x)).2, h, keyOf_k.2]
 refine ⟨h1, h2, fun h3 => ?_, fun h3 => ?_⟩
 · rw [keyOf_f h3, keyOf_f (h1 ▸ h3)] at h
   exact congrArg (fun (z : Int × Int × Int × List Int) => z.2.2.1) h
 · rw [keyOf_t h3, keyOf_t (h1 ▸ h3)] at h
   exact congrArg (fun (z : Int × Int × Int × List Int) => z.2.2.2) h
theorem outV_key {ts : List (List Int)} {x y : NodeD} (h : keyOf ts x = keyOf ts y) (i s : List Int) : outV x.1 x.2.1 ts i s = outV y.1 y.2.1 ts i s := by
 obtain ⟨h1, _, h3, h4⟩ := key_parts h
 by_cases h13 : x.1 = 13
 · rw [← h1, h13]
   show lookV (ts.getD x.2.1.toNat []) (i.getD 0 0) = lookV (ts.getD y.2.1.toNat []) (i.getD 0 0)
   rw [h4 h13]
 · rw [← h1, h3 h13]
theorem startV_key {ts : List (List Int)} {x y : NodeD} (h : keyOf ts x = keyOf ts y) : startV x = startV y := by
 obtain ⟨h1, h2, h3, h4⟩ := key_parts h
 by_cases h13 : x.1 = 13
 · unfold startV; rw [← h1, h13]; rfl
 · unfold startV; rw [← h1, ← h2, ← h3 h13]
theorem insV_at {n : NodeD} {fr v : List Int} (h : n.1 ≠ 1) {k : Nat} (hk : k < n.2.2.2.length) : (insV n fr v).getD k 0 = v.getD (n.2.2.2.getD k 0).toNat 0 := by
 unfold insV; rw [decide_eq_false h]; simp [List.getD, hk]
theorem insV_l {n : NodeD} {fr v : List Int} (h : n.1 ≠ 1) : (insV n fr v).length = n.2.2.2.length := by
 unfold insV; rw [decide_eq_false h]; simp
theorem ins_sim {ts : List (List Int)} {R : Nat → Nat → Prop} {x y : NodeD} {fr v w : List Int} (h : NSim ts R x y) (hv : ∀ a b : Nat, (a : Int) ∈ x.2.2.2 → R a b → v.getD a 0 = w.getD b 0) :
 insV x fr v = insV y fr w ∨ (swapB x = true ∧ (insV x fr v).getD 0 0 = (insV y fr w).getD 1 0 ∧ (insV x fr v).getD 1 0 = (insV y fr w).getD 0 0) := by
 obtain ⟨h1, _, h3, _⟩ := key_parts h.key
 by_cases k1 : x.1 = 1
 · left
   unfold insV
   rw [decide_eq_true k1, decide_eq_true (show y.1 = 1 by omega), h3 (by omega)]
 have k2 : y.1 ≠ 1 := by omega
 rcases h.ins with ⟨e, hk⟩ | ⟨hs, l1, l2, a, b, c, d, q1, q2, q3, q4, r1, r2⟩
 · left
   refine extI (by rw [insV_l k1, insV_l k2, e]) fun k hk2 => ?_
   rw [insV_l k2] at hk2
   obtain ⟨a, b, e1, e2, r⟩ := hk k (by omega)
   rw [insV_at k1 (by omega), insV_at k2 hk2, e1, e2, Int.toNat_natCast, Int.toNat_natCast]
   exact hv a b (by rw [← e1]; exact getD_mem (by omega)) r
 · right
   refine ⟨hs, ?_, ?_⟩
   · rw [insV_at k1 (by omega), insV_at k2 (by omega), q1, q4, Int.toNat_natCast, Int.toNat_natCast]
     exact hv a d (by rw [← q1]; exact getD_mem (by omega)) r1
   · rw [insV_at k1 (by omega), insV_at k2 (by omega), q2, q3, Int.toNat_natCast, Int.toNat_natCast]
     exact hv b c (by rw [← q2]; exact getD_mem (by omega)) r2
theorem outV_swap {kd a : Int} {ts : List (List Int)} {i j s : List Int} (h : kd = 3 ∨ kd = 9) (e1 : i.getD 0 0 = j.getD 1 0) (e2 : i.getD 1 0 = j.getD 0 0) : outV kd a ts i s = outV kd a ts j s := by
 rcases h with rfl | rfl
 · show wrap32 (i.getD 0 0 + i.getD 1 0) = wrap32 (j.getD 0 0 + j.getD 1 0)
   rw [e1, e2, Int.add_comm]
 · show wrap32 (i.getD 0 0 * i.getD 1 0) = wrap32 (j.getD 0 0 * j.getD 1 0)
   rw [e1, e2, Int.mul_comm]
theorem swapB_k {n : NodeD} (h : swapB n = true) : n.1 = 3 ∨ n.1 = 9 := by simpa [swapB] using h
theorem NSim.back {ts : List (List Int)} {R : Nat → Nat → Prop} {x y : NodeD} (h : NSim ts R x y) {f : Int} (hf : f ∈ y.2.2.2) : ∃ a b : Nat, (a : Int) ∈ x.2.2.2 ∧ f = (b : Int) ∧ R a b := by
 obtain ⟨k, hk, rfl⟩ := List.mem_iff_getElem.1 hf
 have e : y.2.2.2[k] = y.2.2.2.getD k 0 := by simp [List.getD, hk]
 rcases h.ins with ⟨e1, h1⟩ | ⟨_, l1, l2, a, b, c, d, q1, q2, q3, q4, r1, r2⟩
 · obtain ⟨a, b, e2, e3, r⟩ := h1 k (by omega)
   exact ⟨a, b, by rw [← e2]; exact getD_mem (by omega), by rw [e, e3], r⟩
 · have h01 : k = 0 ∨ k = 1 := by omega
   rcases h01 with rfl | rfl
   · exact ⟨b, c, by rw [← q2]; exact getD_mem (by omega), by rw [e, q3], r2⟩
   · exact ⟨a, d, by rw [← q1]; exact getD_mem (by omega), by rw [e, q4], r1⟩
theorem ordInd_sim {p q : PatchD} {R : Nat → Nat → Prop} (hp : patchB p = true) (hS : PSim p q R) (hcov : ∀ c, c < q.2.2.1.length → ∃ i, R i c) : OrdInd q.2.2.1 := by
 intro P h c hc
 obtain ⟨i, hi⟩ := hcov c hc
 refine ordInd_of (patchB_parts hp).2 (fun i => ∀ c, R i c → P c) ?_ i (hS.node i c hi).1 c hi
 intro i hi hf c hRc
 obtain ⟨_, hc2, hN⟩ := hS.node i c hRc
 refine h c hc2 fun f hf' => ?_
 have hk := (key_parts hN.key).1
 have h6 : ¬ (q.2.2.1.getD c n0).1 = 6 := fun h6 => by unfold waitsL at hf'; rw [decide_eq_true h6] at hf'; cases hf'
 have hf2 : f ∈ (q.2.2.1.getD c n0).2.2.2 := by unfold waitsL at hf'; rw [decide_eq_false h6] at hf'; exact hf'
 obtain ⟨a, b, ha, rfl, r⟩ := hN.back hf2
 obtain ⟨j, e, hj, hP⟩ := hf (a : Int) (by unfold waitsL; rw [decide_eq_false (by omega)]; exact ha)
 obtain rfl : a = j := by omega
 exact ⟨b, rfl, (hS.node a b r).2.1, hP b r⟩
theorem nodeB_from {x : NodeD} {fr : List Int} {tb : Int} (h : nodeB x tb = true) (hl : fr.length = x.2.2.2.length) (hr : ∀ f ∈ fr, 0 ≤ f ∧ f ≤ 23) : nodeB (x.1, x.2.1, x.2.2.1, fr) tb = true := by
 simp only [nodeB, Bool.and_eq_true] at h ⊢
 obtain ⟨⟨⟨⟨⟨h1, h2⟩, h3⟩, h4⟩, h5⟩, h6⟩ := h
 exact ⟨⟨⟨⟨⟨h1, h2⟩, h3⟩, List.all_eq_true.2 fun f hf => inR_t (hr f hf).1 (hr f hf).2⟩, by rw [hl]; exact h5⟩, h6⟩
section
variable {p q : PatchD} {R : Nat → Nat → Prop} (hp : patchB p = true) (hq : patchB q = true) (hS : PSim p q R)
include hp hq hS in
theorem sim_vals {s s' : List (List Int)} {fr : List Int} (hst : ∀ i c, R i c → s.getD i [] = s'.getD c []) : ∀ i c, R i c → (valsL p s fr).getD i 0 = (valsL q s' fr).getD c 0 := by
 intro i c h
 refine ordInd_of (patchB_parts hp).2 (fun i => ∀ c, R i c → (valsL p s fr).getD i 0 = (valsL q s' fr).getD c 0) ?_ i (hS.node i c h).1 c h
 intro i hi hf c hc
 obtain ⟨_, hc2, hN⟩ := hS.node i c hc
 have hk := (key_parts hN.key).1
 rw [vals_at hp hi, vals_at hq hc2]
 unfold outP
 rw [← hS.tabs, ← outV_key hN.key, hst i c hc]
 by_cases h6 : (p.2.2.1.getD i n0).1 = 6
 · rw [h6]; rfl
 · rcases ins_sim (fr := fr) hN (v := valsL p s fr) (w := valsL q s' fr) (fun a b ha hab => by
    obtain ⟨j, e, hj, hP⟩ := hf (a : Int) (by unfold waitsL; rw [decide_eq_false h6]; exact ha)
    obtain rfl : a = j := by omega
    exact hP b hab) with e | ⟨hsw, e1, e2⟩
   · rw [e]
   · exact outV_swap (swapB_k hsw) e1 e2
theorem nextV_swap {kd : Int} {i s : List Int} {o : Int} (h : kd = 3 ∨ kd = 9) : nextV kd i s o = [] := by rcases h with rfl | rfl <;> rfl
include hS in
theorem sim_next {s s' : List (List Int)} {fr v w : List Int} (hst : ∀ i c, R i c → s.getD i [] = s'.getD c []) (hv : ∀ i c, R i c → v.getD i 0 = w.getD c 0) : ∀ i c, R i c → (nextL p s fr v).getD i [] = (nextL q s' fr w).getD c [] := by
 intro i c h
 obtain ⟨hi, hc, hN⟩ := hS.node i c h
 have hk := (key_parts hN.key).1
 rw [nextL_at hi, nextL_at hc]
 unfold nextP
 rw [← hk, hst i c h, hv i c h]
 rcases ins_sim (fr := fr) hN (v := v) (w := w) (fun a b _ hab => hv a b hab) with e | ⟨hsw, e1, e2⟩
 · rw [e]
 · rw [nextV_swap (swapB_k hsw), nextV_swap (swapB_k hsw)]
include hS in
theorem sim_start : ∀ i c, R i c → (startL p).getD i [] = (startL q).getD c [] := by
 intro i c h
 obtain ⟨hi, hc, hN⟩ := hS.node i c h
 have e1 : (startL p).getD i [] = startV (p.2.2.1.getD i n0) := by simp [startL, List.getD, hi]
 have e2 : (startL q).getD c [] = startV (q.2.2.1.getD c n0) := by simp [startL, List.getD, hc]
 rw [e1, e2, startV_key hN.key]
include hp hq hS in
theorem sim_st (ins : List (List Int)) : ∀ m i c, R i c → (stN p ins m).getD i [] = (stN q ins m).getD c [] := by
 intro m
 induction m with
 | zero => exact sim_start hS
 | succ m ih =>
   rw [stN_next, stN_next]
   exact sim_next hS ih (sim_vals hp hq hS ih)
include hp hq hS in
theorem sim_val (ins : List (List Int)) (m : Nat) : ∀ i c, R i c → (valN p ins m).getD i 0 = (valN q ins m).getD c 0 := sim_vals hp hq hS (sim_st hp hq hS ins m)
include hS in
theorem sim_outs {v w : List Int} (hv : ∀ i c, R i c → v.getD i 0 = w.getD c 0) : outsL p v = outsL q w := by
 obtain ⟨hl, ho⟩ := hS.outs
 refine extI (by rw [outsL_len, outsL_len, hl]) fun k hk => ?_
 rw [outsL_len] at hk
 obtain ⟨a, b, e1, e2, r⟩ := ho k (by omega)
 have f1 : (outsL p v).getD k 0 = v.getD (p.2.2.2.getD k 0).toNat 0 := by simp [outsL, List.getD, show k < p.2.2.2.length by omega]
 have f2 : (outsL q w).getD k 0 = w.getD (q.2.2.2.getD k 0).toNat 0 := by simp [outsL, List.getD, hk]
 rw [f1, f2, e1, e2, Int.toNat_natCast, Int.toNat_natCast]
 exact hv a b r
include hp hq hS in
theorem sim_render {ins : List (List Int)} (hi : insOk p ins) (m : Nat) : renderL p ins m = renderL q ins m := by
 have hF := (patchB_parts hp).1
 have hG := (patchB_parts hq).1
 have hj : insOk q ins := ⟨by rw [← hS.inp]; exact hi.1, hi.2⟩
 have hl := hS.outs.1
 refine extL (by rw [renderL_len hF hi, renderL_len hG hj, hl]) fun k hk => ?_
 rw [renderL_len hG hj] at hk
 have l1 := lenN hF hi (k := k) (by omega) m
 have l2 := lenN hG hj (k := k) hk m
 refine extI (by omega) fun i hi2 => ?_
 rw [colN hF hi (by omega) m (by omega), colN hG hj hk m (by omega), sim_outs hS (sim_val hp hq hS ins i)]
end
end Go.Proofs.YtflaacndokbddaaGreat
namespace Go.Proofs.YtflaacndokbddaaGreat
open Go.RowKit
section
variable {p : PatchD}
abbrev clsP (p : PatchD) : List Int := clsF p.2.1 p.2.2.1
abbrev repL (p : PatchD) : List Nat := (divC (clsE p) p.2.2.1.length).2
theorem clsE_ok (p : PatchD) : DivOk (clsE p) p.2.2.1.length (divC (clsE p) p.2.2.1.length) := divC_ok byKey_rfl _
theorem mrg_len (p : PatchD) : (mergeP p).2.2.1.length = (repL p).length := by simp [mergeP, mrgN]
theorem mrg_at {c : Nat} (hc : c < (repL p).length) : (mergeP p).2.2.1.getD c n0 = mrgX (clsP p) (p.2.2.1.getD ((repL p).getD c 0) n0) := by
 simp [mergeP, mrgN, List.getD, hc]
theorem rep_lt {c : Nat} (hc : c < (repL p).length) : (repL p).getD c 0 < p.2.2.1.length := (clsE_ok p).lt c hc
theorem cls_nat {i : Nat} (hi : i < p.2.2.1.length) : ∃ c : Nat, (clsP p).getD i 0 = (c : Int) ∧ c < (repL p).length := by
 obtain ⟨c, h1, h2, _⟩ := (clsE_ok p).at_ i hi
 exact ⟨c, by rw [clsE_all] at h1; exact h1, h2⟩
theorem cls_rep {c : Nat} (hc : c < (repL p).length) : (clsP p).getD ((repL p).getD c 0) 0 = (c : Int) := by
 obtain ⟨c', h1, h2, h3⟩ := (clsE_ok p).at_ _ (rep_lt hc)
 rw [clsE_all] at h1
 rcases Nat.lt_trichotomy c c' with h | h | h
 · have h4 := (clsE_ok p).ne c c' h h2
   exact absurd (h4.symm.trans (byKey_sym _ _ h3)) (by simp)
 · rw [h1, h]
 · have h4 := (clsE_ok p).ne c' c h hc
   exact absurd (h4.symm.trans h3) (by simp)
theorem cls_phi {i k : Nat} (hi : i < p.2.2.1.length) (hk : k < p.2.2.1.length) : (clsP p).getD i 0 = (clsP p).getD k 0 ↔ phi p.2.1 p.2.2.1 (clsP p) i = phi p.2.1 p.2.2.1 (clsP p) k := by
 have h := canon_rel (f := phi p.2.1 p.2.2.1 (clsP p)) hi hk
 rw [clsF_fix] at h
 exact h
theorem phi_parts {ts : List (List Int)} {ns : List NodeD} {cl : List Int} {i k : Nat} (h : phi ts ns cl i = phi ts ns cl k) : keyOf ts (ns.getD i n0) = keyOf ts (ns.getD k n0) ∧ insOf (ns.getD i n0) cl = insOf (ns.getD k n0) cl :=
 ⟨congrArg (fun (z : KeyT) => z.2.1) h, congrArg (fun (z : KeyT) => z.2.2) h⟩
def clsRel (p : PatchD) (i c : Nat) : Prop := i < p.2.2.1.length ∧ (clsP p).getD i 0 = (c : Int)
theorem swapB_eq {x y : NodeD} (h : x.1 = y.1) : swapB x = swapB y := by unfold swapB; rw [h]
theorem clsM_at {cl l : List Int} {k : Nat} (hk : k < l.length) : (clsM cl l).getD k 0 = cl.getD (l.getD k 0).toNat 0 := by simp [clsM, List.getD, hk]
theorem clsM_len (cl l : List Int) : (clsM cl l).length = l.length := by simp [clsM]
theorem node_from (hF : formedB p = true) {i : Nat} (hi : i < p.2.2.1.length) : idxs p.2.2.1.length (p.2.2.1.getD i n0).2.2.2 = true ∧ (swapB (p.2.2.1.getD i n0) = true → (p.2.2.1.getD i n0).2.2.2.length = 2) := by
 have h := (uOk_patch hF).2 _ (getD_mem (d := n0) hi)
 exact ⟨h.2.2.1, h.2.2.2⟩
theorem idxs_nat {n : Nat} {l : List Int} (h : idxs n l = true) {k : Nat} (hk : k < l.length) : ∃ a : Nat, l.getD k 0 = (a : Int) ∧ a < n := by
 have := idxs_at h (getD_mem (d := (0 : Int)) hk)
 exact ⟨(l.getD k 0).toNat, by omega, by omega⟩
theorem from_sim (hF : formedB p = true) {l m : List Int} (hl : idxs p.2.2.1.length l = true) (h : clsM (clsP p) l = m) : FromR (clsRel p) l m := by
 subst h
 refine ⟨(clsM_len _ _).symm, fun k hk => ?_⟩
 obtain ⟨a, ha, ha2⟩ := idxs_nat hl hk
 obtain ⟨b, hb, _⟩ := cls_nat ha2
 exact ⟨a, b, ha, by rw [clsM_at hk, ha, Int.toNat_natCast, hb], ha2, hb⟩
theorem merge_sim (hF : formedB p = true) : PSim p (mergeP p) (clsRel p) where
 inp := rfl
 tabs := rfl
 node := fun i c h => by
  obtain ⟨hi, hc⟩ := h
  obtain ⟨c', hc', hc2⟩ := cls_nat hi
  obtain rfl : c = c' := by omega
  refine ⟨hi, by rw [mrg_len]; exact hc2, ?_⟩
  rw [mrg_at hc2]
  have hr := rep_lt hc2
  obtain ⟨k1, k2⟩ := phi_parts ((cls_phi hi hr).1 (by rw [hc, cls_rep hc2]))
  have hk := (key_parts k1).1
  have hsw : swapB (p.2.2.1.getD ((repL p).getD c 0) n0) = swapB (p.2.2.1.getD i n0) := swapB_eq hk.symm
  obtain ⟨f1, f2⟩ := node_from hF hi
  obtain ⟨g1, g2⟩ := node_from hF hr
  refine ⟨k1, ?_⟩
  cases hs : swapB (p.2.2.1.getD i n0) with
  | false =>
    left
    rw [insOf_f hs, insOf_f (by rw [hsw]; exact hs)] at k2
    exact from_sim hF f1 k2
  | true =>
    have l1 := f2 hs
    have l2 := g2 (by rw [hsw]; exact hs)
    rw [insOf_t hs, insOf_t (by rw [hsw]; exact hs)] at k2
    rcases (srt_eq (by rw [clsM_len]; exact l1) (by rw [clsM_len]; exact l2)).1 k2 with e | ⟨e1, e2⟩
    · left; exact from_sim hF f1 e
    · right
      obtain ⟨a, ha, ha2⟩ := idxs_nat f1 (k := 0) (by omega)
      obtain ⟨b, hb, hb2⟩ := idxs_nat f1 (k := 1) (by omega)
      obtain ⟨ca, hca, _⟩ := cls_nat ha2
      obtain ⟨cb, hcb, _⟩ := cls_nat hb2
      rw [clsM_at (by omega), ha, Int.toNat_natCast, hca] at e1
      rw [clsM_at (by omega), hb, Int.toNat_natCast, hcb] at e2
      exact ⟨rfl, l1, by show (clsM _ _).length = 2; rw [clsM_len]; exact l2, a, b, cb, ca, ha, hb, e2.symm, e1.symm, ⟨ha2, hca⟩, ⟨hb2, hcb⟩⟩
 outs := from_sim hF (formedB_parts hF).2.2.2.2.2.1 rfl
theorem cls_idx (hF : formedB p = true) {l : List Int} (hl : idxs p.2.2.1.length l = true) : idxs (mergeP p).2.2.1.length (clsM (clsP p) l) = true := idxs_of fun j hj => by
 rw [clsM_len] at hj
 obtain ⟨a, ha, ha2⟩ := idxs_nat hl hj
 obtain ⟨b, hb, hb2⟩ := cls_nat ha2
 rw [clsM_at hj, ha, Int.toNat_natCast, hb, mrg_len]; omega
theorem rep_le (p : PatchD) : (repL p).length ≤ p.2.2.1.length := by have := mrgN_len p p.2.2.1.length; simpa [mrgN] using this
theorem merge_formed (hF : formedB p = true) : formedB (mergeP p) = true := by
 have h24 := (formedB_parts hF).1
 have hall := (formedB_parts hF).2.2.2.2.2.2
 have hidx := (formedB_parts hF).2.2.2.2.2.1
 have hF' := hF
 simp only [formedB, Bool.and_eq_true, decide_eq_true_eq] at hF' ⊢
 obtain ⟨⟨⟨⟨⟨h1, h2⟩, h3⟩, h4⟩, h5⟩, h6⟩ := hF'
 have hle := rep_le p
 have hml := mrg_len p
 refine ⟨⟨⟨⟨⟨h1, h2⟩, by omega⟩, by show (clsM _ _).length ≤ 4; rw [clsM_len]; exact h4⟩, cls_idx hF hidx⟩, List.all_eq_true.2 fun nd hd => ?_⟩
 obtain ⟨c, hc, rfl⟩ := List.mem_iff_getElem.1 hd
 rw [hml] at hc
 have e : (mergeP p).2.2.1[c]'(by rw [hml]; exact hc) = mrgX (clsP p) (p.2.2.1.getD ((repL p).getD c 0) n0) := by rw [← mrg_at hc]; simp [List.getD, hml, hc]
 rw [e]
 obtain ⟨q1, q2, q3⟩ := nodeIn_parts (node_at hF (rep_lt hc))
 have ix := cls_idx hF q2
 refine nodeIn_t (nodeB_from q1 (clsM_len _ _) fun f hf => ?_) ix q3
 have := idxs_at ix hf
 omega
theorem merge_patch (hP : patchB p = true) : patchB (mergeP p) = true := by
 have hF := (patchB_parts hP).1
 unfold patchB
 rw [merge_formed hF, Bool.true_and]
 refine decide_eq_true (ordL_ind (ordInd_sim hP (merge_sim hF) fun c hc => ?_))
 rw [mrg_len] at hc
 exact ⟨_, rep_lt hc, cls_rep hc⟩
theorem merge_render (hP : patchB p = true) {ins : List (List Int)} (hi : insOk p ins) (m : Nat) : renderL p ins m = renderL (mergeP p) ins m :=
 sim_render hP (merge_patch hP) (merge_sim (patchB_parts hP).1) hi m
theorem cls_val (hP : patchB p = true) (ins : List (List Int)) (m : Nat) {i k : Nat} (hi : i < p.2.2.1.length) (hk : k < p.2.2.1.length) (h : (clsP p).getD i 0 = (clsP p).getD k 0) : (valN p ins m).getD i 0 = (valN p ins m).getD k 0 := by
 obtain ⟨c, hc, _⟩ := cls_nat hi
 have hs := sim_val hP (merge_patch hP) (merge_sim (patchB_parts hP).1) ins m
 rw [hs i c ⟨hi, hc⟩, hs k c ⟨hk, by rw [← h]; exact hc⟩]
theorem cls_check (hP : patchB p = true) : checkB p (clsP p) = true := by
 have h24 := (formedB_parts (patchB_parts hP).1).1
 refine checkB_t hP clsF_len (idxs_of fun j hj => ?_) fun i k hi hk => ?_
 · rw [clsF_len] at hj
   obtain ⟨c, hc, hc2⟩ := cls_nat hj
   have h1 := rep_le p
   have h2 : (c : Int) < 24 := by omega
   rw [hc]; exact ⟨by omega, h2⟩
 · rw [clsF_len] at hi hk
   unfold okp
   by_cases h : (clsP p).getD i 0 = (clsP p).getD k 0
   · obtain ⟨k1, k2⟩ := phi_parts ((cls_phi hi hk).1 h)
     unfold alikeB keyB eqD
     rw [decide_eq_true k1, decide_eq_true k2]; simp
   · rw [decide_eq_false h]; rfl
end
theorem insOf_tr {x y : NodeD} (hk : x.1 = y.1) (hx : swapB x = true → x.2.2.2.length = 2) (hy : swapB y = true → y.2.2.2.length = 2) {g c : List Int} (h : insOf x g = insOf y g)
 (hgc : ∀ a ∈ x.2.2.2, ∀ b ∈ y.2.2.2, g.getD a.toNat 0 = g.getD b.toNat 0 → c.getD a.toNat 0 = c.getD b.toNat 0) : insOf x c = insOf y c := by
 have hsw : swapB y = swapB x := swapB_eq hk.symm
 have eqc : clsM g x.2.2.2 = clsM g y.2.2.2 → clsM c x.2.2.2 = clsM c y.2.2.2 := fun e => by
  have hl : x.2.2.2.length = y.2.2.2.length := by rw [← clsM_len g, e, clsM_len]
  refine extI (by rw [clsM_len, clsM_len, hl]) fun j hj => ?_
  rw [clsM_len] at hj
  rw [clsM_at (by omega), clsM_at hj]
  refine hgc _ (getD_mem (by omega)) _ (getD_mem hj) ?_
  rw [← clsM_at (by omega), e, clsM_at hj]
 cases hs : swapB x with
 | false =>
   rw [insOf_f hs, insOf_f (by rw [hsw]; exact hs)] at h ⊢
   exact eqc h
 | true =>
   have l1 := hx hs
   have l2 := hy (by rw [hsw]; exact hs)
   rw [insOf_t hs, insOf_t (by rw [hsw]; exact hs)] at h ⊢
   rcases (srt_eq (by rw [clsM_len]; exact l1) (by rw [clsM_len]; exact l2)).1 h with e | ⟨e1, e2⟩
   · rw [eqc e]
   · refine (srt_eq (by rw [clsM_len]; exact l1) (by rw [clsM_len]; exact l2)).2 (.inr ⟨?_, ?_⟩)
     · rw [clsM_at (by omega), clsM_at (by omega)] at e1 ⊢
       exact hgc _ (getD_mem (by omega)) _ (getD_mem (by omega)) e1
     · rw [clsM_at (by omega), clsM_at (by omega)] at e2 ⊢
       exact hgc _ (getD_mem (by omega)) _ (getD_mem (by omega)) e2
theorem coarse {p : PatchD} (hF : formedB p = true) {g : List Int} (h : ∀ i k, i < p.2.2.1.length → k < p.2.2.1.length → g.getD i 0 = g.getD k 0 → keyOf p.2.1 (p.2.2.1.getD i n0) = keyOf p.2.1 (p.2.2.1.getD k n0) ∧ insOf (p.2.2.1.getD i n0) g = insOf (p.2.2.1.getD k n0) g) :
 ∀ j i k, i < p.2.2.1.length → k < p.2.2.1.length → g.getD i 0 = g.getD k 0 → (clsI p.2.1 p.2.2.1 j).getD i 0 = (clsI p.2.1 p.2.2.1 j).getD k 0 := by
 intro j
 induction j with
 | zero => intro i k hi hk e; exact (canon_rel (f := phi0 p.2.1 p.2.2.1) hi hk).2 (h i k hi hk e).1
 | succ j ih =>
   intro i k hi hk e
   obtain ⟨h1, h2⟩ := h i k hi hk e
   refine (canon_rel (f := phi p.2.1 p.2.2.1 (clsI p.2.1 p.2.2.1 j)) hi hk).2 ?_
   unfold phi
   rw [ih i k hi hk e, h1, insOf_tr (key_parts h1).1 (node_from hF hi).2 (node_from hF hk).2 h2 fun a ha b hb e => ?_]
   have ra := idxs_at (node_from hF hi).1 ha
   have rb := idxs_at (node_from hF hk).1 hb
   exact ih a.toNat b.toNat (by omega) (by omega) e
theorem divC_inj {E : Nat → Nat → Bool} {n : Nat} (h : ∀ k i, k < i → i < n → E k i = false) : ∀ i, i ≤ n → (divC E i).2 = List.range i := by
 intro i
 induction i with
 | zero => intro _; rfl
 | succ i ih =>
   intro hi
   have ih := ih (by omega)
   have hn : ¬ idxF E i (divC E i).2 < (divC E i).2.length := fun hlt => by
    have := (idxF_spec E i (divC E i).2).2.2 hlt
    rw [ih, List.length_range] at hlt
    rw [ih] at this
    have e : (List.range i).getD (idxF E i (List.range i)) 0 = idxF E i (List.range i) := by simp [List.getD, hlt]
    rw [e, h _ _ hlt (by omega)] at this
    cases this
   simp only [divC]
   rw [decide_eq_false hn]
   simp only
   rw [ih, List.range_succ]
section
variable {p : PatchD}
theorem ins_merge (hF : formedB p = true) {K : List Int} {i c : Nat} (h : clsRel p i c) : insOf (p.2.2.1.getD i n0) (clsM K (clsP p)) = insOf ((mergeP p).2.2.1.getD c n0) K := by
 obtain ⟨hi, hc, hN⟩ := (merge_sim hF).node i c h
 have hk := (key_parts hN.key).1
 have hsw := swapB_eq hk
 have hcl : (clsP p).length = p.2.2.1.length := clsF_len
 have step : ∀ a b : Nat, clsRel p a b → (clsM K (clsP p)).getD a 0 = K.getD b 0 := fun a b r => by rw [clsM_at (by rw [hcl]; exact r.1), r.2, Int.toNat_natCast]
 rcases hN.ins with ⟨e, he⟩ | ⟨hs, l1, l2, a, b, c', d, q1, q2, q3, q4, r1, r2⟩
 · have ec : clsM (clsM K (clsP p)) (p.2.2.1.getD i n0).2.2.2 = clsM K ((mergeP p).2.2.1.getD c n0).2.2.2 := by
    refine extI (by rw [clsM_len, clsM_len, e]) fun j hj => ?_
    rw [clsM_len] at hj
    obtain ⟨a, b, e1, e2, r⟩ := he j (by omega)
    rw [clsM_at (by omega), clsM_at hj, e1, e2, Int.toNat_natCast, Int.toNat_natCast, step a b r]
   cases hs : swapB (p.2.2.1.getD i n0) with
   | false => rw [insOf_f hs, insOf_f (by rw [← hsw]; exact hs), ec]
   | true => rw [insOf_t hs, insOf_t (by rw [← hsw]; exact hs), ec]
 · rw [insOf_t hs, insOf_t (by rw [← hsw]; exact hs)]
   refine (srt_eq (by rw [clsM_len]; exact l1) (by rw [clsM_len]; exact l2)).2 (.inr ⟨?_, ?_⟩)
   · rw [clsM_at (l := (p.2.2.1.getD i n0).2.2.2) (by omega), clsM_at (l := ((mergeP p).2.2.1.getD c n0).2.2.2) (by omega), q1, q4, Int.toNat_natCast, Int.toNat_natCast, step a d r1]
   · rw [clsM_at (l := (p.2.2.1.getD i n0).2.2.2) (by omega), clsM_at (l := ((mergeP p).2.2.1.getD c n0).2.2.2) (by omega), q2, q3, Int.toNat_natCast, Int.toNat_natCast, step b c' r2]
theorem merge_red (hP : patchB p = true) : redB (mergeP p) = true := by
 have hF := (patchB_parts hP).1
 have hcl : (clsP p).length = p.2.2.1.length := clsF_len
 have inj : ∀ c d, c < (mergeP p).2.2.1.length → d < (mergeP p).2.2.1.length → (clsP (mergeP p)).getD c 0 = (clsP (mergeP p)).getD d 0 → c = d := by
  intro c d hc hd e
  rw [mrg_len] at hc hd
  have key := coarse hF (g := clsM (clsP (mergeP p)) (clsP p)) (fun i k hi hk e => by
   obtain ⟨ci, h1, h2⟩ := cls_nat hi
   obtain ⟨ck, h3, h4⟩ := cls_nat hk
   rw [clsM_at (by rw [hcl]; exact hi), clsM_at (by rw [hcl]; exact hk), h1, h3, Int.toNat_natCast, Int.toNat_natCast] at e
   obtain ⟨k1, k2⟩ := phi_parts ((cls_phi (p := mergeP p) (by rw [mrg_len]; exact h2) (by rw [mrg_len]; exact h4)).1 e)
   have n1 := ((merge_sim hF).node i ci ⟨hi, h1⟩).2.2.key
   have n2 := ((merge_sim hF).node k ck ⟨hk, h3⟩).2.2.key
   refine ⟨by rw [n1, n2]; exact k1, ?_⟩
   rw [ins_merge hF ⟨hi, h1⟩, ins_merge hF ⟨hk, h3⟩, k2]) p.2.2.1.length _ _ (rep_lt hc) (rep_lt hd)
    (by rw [clsM_at (by rw [hcl]; exact rep_lt hc), clsM_at (by rw [hcl]; exact rep_lt hd), cls_rep hc, cls_rep hd, Int.toNat_natCast, Int.toNat_natCast]; exact e)
  have r1 := cls_rep hc
  have r2 := cls_rep hd
  have key : (clsP p).getD ((repL p).getD c 0) 0 = (clsP p).getD ((repL p).getD d 0) 0 := key
  rw [r1, r2] at key
  omega
 have hcount : countF (mergeP p).2.1 (mergeP p).2.2.1 = ((mergeP p).2.2.1.length : Int) := by
  have hE : (divC (clsE (mergeP p)) (mergeP p).2.2.1.length).2 = List.range (mergeP p).2.2.1.length := divC_inj (n := (mergeP p).2.2.1.length) (fun k i hki hi => by
   cases h : clsE (mergeP p) k i with
   | false => rfl
   | true =>
     have := inj k i (by omega) hi ((cls_phi (by omega) hi).2 (of_decide_eq_true h))
     omega) _ (Nat.le_refl _)
  have h1 := countL_div (clsE (mergeP p)) (mergeP p).2.2.1.length
  rw [clsE_all, hE, List.length_range] at h1
  exact h1
 unfold redB
 rw [merge_patch hP, hcount]
 simp
theorem merge_count (hP : patchB p = true) : ((mergeP p).2.2.1.length : Int) = countF p.2.1 p.2.2.1 := by
 have h1 := countL_div (clsE p) p.2.2.1.length
 rw [clsE_all] at h1
 rw [mrg_len]; exact h1.symm
end
end Go.Proofs.YtflaacndokbddaaGreat
namespace Go.Proofs.YtflaacndokbddaaGreat
open Go.RowKit
def cpIx (n L : Int) (k : Nat) (fr : List Int) : DM (List Int) := bnd (oneD 2) fun b s => (match b && decide (fr.getD k 0 + n < L) with | true => fr.set k (fr.getD k 0 + n) | false => fr, s)
theorem cpIx_cost (n L : Int) (k : Nat) (fr : List Int) : Cost 2 (cpIx n L k fr) := (oneD_cost 2).bnd fun _ => Cost.pure _
def cpSwap (fr : List Int) : DM (List Int) := fun s => match decide (fr.length = 2) with
 | true => bnd (oneD 2) (fun b s => (match b with | true => (fr.set 0 (fr.getD 1 0)).set 1 (fr.getD 0 0) | false => fr, s)) s
 | false => (fr, s)
theorem cpSwap_cost (fr : List Int) : Cost 2 (cpSwap fr) := Cost.ite ((oneD_cost 2).bnd fun _ => Cost.pure _) ((Cost.pure _).le (by omega))
def cpA (nd : NodeD) (fr : List Int) : DM NodeD := bnd (oneD 9) fun g s => ((nd.1, match g && decide (nd.1 = 5) with | true => 7 | false => nd.2.1, nd.2.2.1, fr), s)
def cpNode (n L : Int) (nd : NodeD) : DM NodeD := bnd (itI (cpIx n L) nd.2.2.2.length nd.2.2.2) fun fr s => bnd (cpSwap fr) (cpA nd) s
def cpStep (ns : List NodeD) (i : Nat) (ms : List NodeD) : DM (List NodeD) := fun s => match decide (ms.length < 24) with
 | true => bnd (cpNode ns.length ms.length (ns.getD i n0)) (fun x s => (ms ++ [x], s)) s
 | false => (ms, s)
def copyD (p : PatchD) : DM PatchD := bnd (itI (cpStep p.2.2.1) p.2.2.1.length p.2.2.1) fun ms s => bnd (itI (cpIx p.2.2.1.length ms.length) p.2.2.2.length p.2.2.2) (fun os s => ((p.1, p.2.1, ms, os), s)) s
theorem cpIx_len {n L : Int} {k : Nat} {fr xs : List Int} {s s' : SrcD} (h : cpIx n L k fr s = (xs, s')) : xs.length = fr.length := by
 unfold cpIx bnd at h
 simp only [Prod.mk.injEq] at h
 rw [← h.1]
 split <;> simp
theorem cpIx_lens {n L : Int} {fr : List Int} : ∀ {k : Nat} {xs : List Int} {s s' : SrcD}, itI (cpIx n L) k fr s = (xs, s') → xs.length = fr.length := by
 intro k
 induction k with
 | zero => intro xs s s' h; simp only [itI, Prod.mk.injEq] at h; rw [← h.1]
 | succ k ih =>
   intro xs s s' h
   rcases h1 : itI (cpIx n L) k fr s with ⟨ys, s1⟩
   rw [itI_succ h1] at h
   rw [cpIx_len h, ih h1]
theorem cpIx_rest {n L : Int} {fr : List Int} : ∀ {k : Nat} {xs : List Int} {s s' : SrcD}, itI (cpIx n L) k fr s = (xs, s') → ∀ j, k ≤ j → xs.getD j 0 = fr.getD j 0 := by
 intro k
 induction k with
 | zero => intro xs s s' h j _; simp only [itI, Prod.mk.injEq] at h; rw [← h.1]
 | succ k ih =>
   intro xs s s' h j hj
   rcases h1 : itI (cpIx n L) k fr s with ⟨ys, s1⟩
   rw [itI_succ h1] at h
   have := ih h1 j (by omega)
   rw [← this]
   unfold cpIx bnd at h
   simp only [Prod.mk.injEq] at h
   rw [← h.1]
   split
   · rw [List.getD_eq_getElem?_getD, List.getElem?_set_ne (by omega), ← List.getD_eq_getElem?_getD]
   · rfl
theorem cpSwap_len {fr xs : List Int} {s s' : SrcD} (h : cpSwap fr s = (xs, s')) : xs.length = fr.length := by
 unfold cpSwap at h
 split at h
 · unfold bnd at h
   simp only [Prod.mk.injEq] at h
   rw [← h.1]
   split <;> simp
 · simp only [Prod.mk.injEq] at h; rw [← h.1]
theorem cpNode_cost {n L : Int} {nd : NodeD} (h : nd.2.2.2.length ≤ 3) : Cost 10 (cpNode n L nd) :=
 (((Cost.itI (cpIx_cost n L) nd.2.2.2.length nd.2.2.2).bnd (b := 4) fun fr => (cpSwap_cost fr).bnd (b := 2) fun fr => (oneD_cost 9).bnd fun _ => Cost.pure _)).le (by omega)
theorem cpStep_cost {ns : List NodeD} (h : ∀ nd ∈ ns, nd.2.2.2.length ≤ 3) (i : Nat) (ms : List NodeD) : Cost 10 (cpStep ns i ms) := by
 refine Cost.ite ?_ ((Cost.pure _).le (by omega))
 refine ((cpNode_cost ?_).bnd fun _ => Cost.pure _).le (by omega)
 by_cases hi : i < ns.length
 · exact h _ (getD_mem hi)
 · rw [List.getD_eq_getElem?_getD, List.getElem?_eq_none (by omega)]; exact Nat.zero_le _
theorem cpStep_full {ns ms : List NodeD} {i : Nat} (h : 24 ≤ ms.length) {s : SrcD} : cpStep ns i ms s = (ms, s) := by unfold cpStep; rw [decide_eq_false (by omega)]
theorem cpSteps_full {ns ms ms' : List NodeD} {i : Nat} {s s' : SrcD} (h : itI (cpStep ns) i ms s = (ms', s')) (hl : 24 ≤ ms'.length) : ∀ k, itI (cpStep ns) (i + k) ms s = (ms', s') := by
 intro k
 induction k with
 | zero => exact h
 | succ k ih => rw [← Nat.add_assoc, itI_succ ih, cpStep_full hl]
theorem cpSteps_len {ns ms : List NodeD} (h0 : ms.length ≤ 24) : ∀ {i : Nat} {ms' : List NodeD} {s s' : SrcD}, itI (cpStep ns) i ms s = (ms', s') → ms'.length ≤ 24 := by
 intro i
 induction i with
 | zero => intro ms' s s' h; simp only [itI, Prod.mk.injEq] at h; rw [← h.1]; exact h0
 | succ i ih =>
   intro ms' s s' h
   rcases h1 : itI (cpStep ns) i ms s with ⟨ys, s1⟩
   rw [itI_succ h1] at h
   have := ih h1
   unfold cpStep at h
   split at h
   · rename_i hk
     have hk := of_decide_eq_true hk
     unfold bnd at h
     simp only [Prod.mk.injEq] at h
     rw [← h.1]; simp; omega
   · simp only [Prod.mk.injEq] at h; rw [← h.1]; exact this
theorem copyD_cost {p : PatchD} (hF : formedB p = true) : Cost 250 (copyD p) := by
 have h24 := (formedB_parts hF).1
 have h4 := (formedB_parts hF).2.1
 have hl : ∀ nd ∈ p.2.2.1, nd.2.2.2.length ≤ 3 := fun nd hd => ((uOk_patch hF).2 nd hd).2.1
 exact ((Cost.itI (cpStep_cost hl) p.2.2.1.length p.2.2.1).bnd (b := 8) fun ms => ((Cost.itI (cpIx_cost _ _) p.2.2.2.length p.2.2.2).bnd fun _ => Cost.pure _).le (by omega)).le (by omega)
def clsD : DM PatchD := bnd l07B fun p s => match patchB p with
 | false => (p, s)
 | true => bnd (oneD 4) (fun b s => match b with | true => (p, s) | false => copyD p s) s
def clsC (cd : List Int) : PatchD := (clsD (cd, 0, 0)).1
theorem clsD_f {p : PatchD} {s s' : SrcD} (h : l07B s = (p, s')) (k : patchB p = false) : clsD s = (p, s') := by unfold clsD; rw [bnd_of h, k]
theorem clsD_1 {p : PatchD} {s s' s2 : SrcD} (h : l07B s = (p, s')) (k : patchB p = true) (e : oneD 4 s' = (true, s2)) : clsD s = (p, s2) := by unfold clsD; rw [bnd_of h, k]; exact bnd_of e
theorem clsD_2 {p : PatchD} {s s' s2 : SrcD} (h : l07B s = (p, s')) (k : patchB p = true) (e : oneD 4 s' = (false, s2)) : clsD s = copyD p s2 := by unfold clsD; rw [bnd_of h, k]; exact bnd_of e
def nvR (p : PatchD) (s : List (List Int)) (fr : List Int) : List Int × Int := match decide (codeF p s fr = 0) with
 | true => (valsL p s fr, 0)
 | false => ([], codeF p s fr)
theorem nvR_t {p : PatchD} {s : List (List Int)} {fr : List Int} (h : codeF p s fr = 0) : nvR p s fr = (valsL p s fr, 0) := by unfold nvR; rw [decide_eq_true h]
theorem nvR_f {p : PatchD} {s : List (List Int)} {fr : List Int} (h : ¬ codeF p s fr = 0) : nvR p s fr = ([], codeF p s fr) := by unfold nvR; rw [decide_eq_false h]
theorem codeN {p : PatchD} {ins : List (List Int)} (hP : patchB p = true) (hi : insOk p ins) (i : Nat) : codeF p (stN p ins i) (frameAt ins (i : Int)) = 0 := by
 have hF := (patchB_parts hP).1
 obtain ⟨f1, f2⟩ := frameAt_ok (p := p) hi (i : Int)
 unfold codeF
 rw [hP, stateB_iff.2 (stN_ok hF hi i)]
 simp only [Bool.and_self]
 rw [decide_eq_true f1, f2]
 rfl
def sgK (mr : List Int) (i k : Nat) : Int := 5000000 * (atD mr (4 * i + k) 256 - 128)
theorem sgK_rng {mr : List Int} (h : ∀ b ∈ mr, 0 ≤ b ∧ b ≤ 255) (i k : Nat) : -640000000 ≤ sgK mr i k ∧ sgK mr i k ≤ 635000000 := by
 have := atD_rng (i := 4 * (i : Int) + k) (n := 256) h (by omega) (by omega)
 unfold sgK; omega
def insQ (mr : List Int) (n i m : Nat) : List (List Int) := (List.range n).map fun k => rowN (fun j => sgK mr j k) (match decide (k < m) with | true => i + 1 | false => i)
theorem insQ_len (mr : List Int) (n i m : Nat) : (insQ mr n i m).length = n := by simp [insQ]
theorem insQ_at {mr : List Int} {n i m k : Nat} (h : k < n) : (insQ mr n i m).getD k [] = rowN (fun j => sgK mr j k) (match decide (k < m) with | true => i + 1 | false => i) := map_range_at h
theorem insQ_at1 {mr : List Int} {n i m : Nat} (h : m < n) : (insQ mr n i m).getD m [] = rowN (fun j => sgK mr j m) i := by rw [insQ_at h, decide_eq_false (by omega)]
theorem insQ_zero (mr : List Int) (n : Nat) : insQ mr n 0 0 = List.replicate n [] := by
 refine extL (by simp [insQ]) fun k hk => ?_
 have hk : k < n := by simpa using hk
 rw [insQ_at hk, decide_eq_false (by omega)]
 simp [rowN, List.getD, hk]
theorem insQ_set {mr : List Int} {n i m : Nat} (h : m < n) : (insQ mr n i m).set m (rowN (fun j => sgK mr j m) i ++ [sgK mr i m]) = insQ mr n i (m + 1) := by
 refine extL (by simp [insQ]) fun k hk => ?_
 rw [insQ_len] at hk
 rw [getD_set (by rw [insQ_len]; exact h), insQ_at hk, insQ_at hk]
 by_cases e : m = k
 · subst e
   rw [if_pos rfl, decide_eq_true (by omega)]
   exact rowN_next (fun j => sgK mr j m) i
 · rw [if_neg e]
   by_cases h2 : k < m
   · rw [decide_eq_true h2, decide_eq_true (by omega)]
   · rw [decide_eq_false h2, decide_eq_false (by omega)]
theorem insQ_next (mr : List Int) (n i : Nat) : insQ mr n i n = insQ mr n (i + 1) 0 := by
 refine extL (by simp [insQ]) fun k hk => ?_
 rw [insQ_len] at hk
 rw [insQ_at hk, insQ_at hk, decide_eq_true hk, decide_eq_false (by omega)]
theorem insQ_ok {mr : List Int} (h : ∀ b ∈ mr, 0 ≤ b ∧ b ≤ 255) {p : PatchD} {n : Nat} (hn : (n : Int) = p.1) : insOk p (insQ mr n 12 0) := by
 refine ⟨by rw [insQ_len]; exact hn, fun a ha => ?_⟩
 obtain ⟨k, hk, rfl⟩ := List.mem_map.1 ha
 have hk := List.mem_range.1 hk
 rw [decide_eq_false (by omega)]
 dsimp only
 refine ⟨by rw [rowN_len]; omega, smps_iff.2 fun x hx => ?_⟩
 obtain ⟨j, _, rfl⟩ := List.mem_map.1 hx
 have := sgK_rng h j k
 rw [smp_iff]; omega
theorem rowN_at {f : Nat → Int} {n k : Nat} (h : k < n) : (rowN f n).getD k 0 = f k := map_range_at h
theorem frame_insQ {mr : List Int} {n i : Nat} (hi : i < 12) : frameAt (insQ mr n 12 0) (i : Int) = rowN (fun k => sgK mr i k) n := by
 refine extI (by simp [frameAt, insQ, rowN]) fun k hk => ?_
 rw [rowN_len] at hk
 rw [frameAt_at (by rw [insQ_len]; exact hk), insQ_at hk, decide_eq_false (by omega), Int.toNat_natCast, rowN_at hi, rowN_at hk]
end Go.Proofs.YtflaacndokbddaaGreat