/-
  Classes of nodes: what the walks of both sides ask for.
-/
import Derived.Test.YthfopaimihmgiaaGreatPm
namespace Go.Proofs.YthfopaimihmgiaaGreat
open Go.RowKit
set_option linter.unusedSimpArgs false
set_option linter.unusedVariables false

def tabIx (ts : List (List Int)) (n : NodeD) : Prop := n.1 = 13 → 0 ≤ n.2.1 ∧ n.2.1 < ts.length
def insIx (m : Nat) (n : NodeD) : Prop := n.2.2.2.length ≤ 3 ∧ idxs m n.2.2.2 = true ∧ (swapB n = true → n.2.2.2.length = 2)
def uOk (ts : List (List Int)) (ns : List NodeD) : Prop := ns.length ≤ 48 ∧ ∀ n ∈ ns, tabIx ts n ∧ insIx ns.length n
theorem node_len {p : PatchD} {n : NodeD} (q : nodeB n p.2.1.length = true) : n.2.2.2.length ≤ 3 ∧ (swapB n = true → n.2.2.2.length = 2) ∧ (n.1 = 13 → 0 ≤ n.2.1 ∧ n.2.1 < p.2.1.length) := by
  obtain ⟨kd, a, b, fr⟩ := n
  obtain ⟨h1, h2, _⟩ := nodeB_parts q
  obtain ⟨_, _, _, _, _, h13, _, h3, h4, h5, h6⟩ := nodeB_ab q
  simp only at h1 h2 h13 ⊢
  refine ⟨?_, fun hs => ?_, fun e => ⟨(h13 e).1, (h13 e).2.2⟩⟩
  · have e3 : (kd = 3 ∨ kd = 4 ∨ kd = 9 ∨ kd = 16) ∨ (kd = 5 ∨ kd = 6 ∨ kd = 7 ∨ kd = 8 ∨ kd = 10 ∨ kd = 11 ∨ kd = 12 ∨ kd = 13 ∨ kd = 17) ∨ kd = 15 ∨ (kd = 1 ∨ kd = 2 ∨ kd = 14) := by omega
    rcases e3 with e | e | e | e
    · have := h3 e; omega
    · have := h4 e; omega
    · have := h5 e; omega
    · have := h6 e; omega
  · simp only [swapB, Bool.or_eq_true, decide_eq_true_eq] at hs
    exact h3 (by omega)
theorem uOk_patch {p : PatchD} (h : formedB p = true) : uOk p.2.1 p.2.2.1 := by
  refine ⟨by have := (formedB_parts h).1; omega, fun n hn => ?_⟩
  obtain ⟨q1, q2, _⟩ := nodeIn_parts (List.all_eq_true.1 (formedB_parts h).2.2.2.2.2.2 n hn)
  obtain ⟨a, b, c⟩ := node_len (p := p) q1
  exact ⟨c, a, q2, b⟩
theorem unite_one {p : PatchD} (h : patchB p = true) : uniteL [p] = p.2 := by
  have h2 := unite_two (p := p) (q := p) h
  have e1 : uniteL [p, p] = uStep (uniteL [p]) p := rfl
  have hs := (patchB_parts h).1
  have e0 : uniteL [p] = uStep ([], [], []) p := rfl
  have hF := formedB_parts hs
  have hn : p.2.2.1.map (shiftN 0 0) = p.2.2.1 := map_same fun n hn => by
    obtain ⟨q1, q2, _⟩ := nodeIn_parts (List.all_eq_true.1 hF.2.2.2.2.2.2 n hn)
    obtain ⟨_, _, c⟩ := node_len (p := p) q1
    obtain ⟨kd, a, b, fr⟩ := n
    have e2 : fr.map (plus 0) = fr := map_same fun f hf => plus_zero (by have := idxs_at q2 hf; omega)
    unfold shiftN
    simp only [e2]
    by_cases e : kd = 13
    · rw [decide_eq_true e]; simp only
      have := c e
      have := (tabsB_parts hF.2.2.1).1
      simp only at *
      rw [plus_zero (by omega)]
    · rw [decide_eq_false e]
  have ho : p.2.2.2.map (plus 0) = p.2.2.2 := map_same fun f hf => plus_zero (by have := idxs_at hF.2.2.2.2.2.1 hf; omega)
  rw [e0]
  unfold uStep
  simp only [List.nil_append, List.length_nil, Int.natCast_zero, Int.ofNat_zero, hn, ho]
  first | done | (simp only [show ((0 : Nat) : Int) = 0 from rfl, hn, ho])
theorem smallPs_one {p : PatchD} (h : patchB p = true) : smallPs [p] := ⟨by simp, fun q hq => by rw [List.mem_singleton.1 hq]; exact smallP_of h⟩
/-- A shifted node, within bounds. -/
theorem shift_in {x : NodeD} {a b m t : Nat} (hx : x.2.2.2.length ≤ 3) (hi : idxs m x.2.2.2 = true) (ha : a ≤ 24) (hm : m ≤ 24) (hb : b ≤ 4) (ht : t ≤ 4) (h13 : x.1 = 13 → 0 ≤ x.2.1 ∧ x.2.1 < t) (hs : swapB x = true → x.2.2.2.length = 2) {ts : List (List Int)} (hts : ts.length = b + t) :
    tabIx ts (shiftN a b x) ∧ insIx (a + m) (shiftN a b x) := by
  obtain ⟨kd, A, B, fr⟩ := x
  refine ⟨fun e => ?_, by simpa [shiftN] using hx, List.all_eq_true.2 fun f hf => ?_, fun h => by simpa [shiftN] using hs h⟩
  · have e : kd = 13 := e
    have := h13 e
    simp only at this
    simp only [shiftN, e, decide_true, plus]
    rw [wrapI (by omega)]
    omega
  · simp only [shiftN, List.mem_map] at hf
    obtain ⟨g, hg, rfl⟩ := hf
    have := idxs_at hi hg
    unfold plus
    rw [wrapI (by omega)]
    exact inR_t (by omega) (by omega)
theorem uOk_two {p q : PatchD} (hp : patchB p = true) (hq : patchB q = true) : uOk (l12U p q).2.1 (l12U p q).2.2.1 := by
  have Fp := formedB_parts (patchB_parts hp).1
  have Fq := formedB_parts (patchB_parts hq).1
  have tp := (tabsB_parts Fp.2.2.1).1
  have tq := (tabsB_parts Fq.2.2.1).1
  have np := Fp.1
  have nq := Fq.1
  have hl : (l12U p q).2.2.1.length = p.2.2.1.length + q.2.2.1.length := by simp [l12U]
  refine ⟨by rw [hl]; omega, fun n hn => ?_⟩
  rw [hl]
  simp only [l12U, List.mem_append, List.mem_map] at hn
  rcases hn with hn | ⟨x, hx, rfl⟩
  · obtain ⟨q1, q2, _⟩ := nodeIn_parts (List.all_eq_true.1 Fp.2.2.2.2.2.2 n hn)
    obtain ⟨a, b, c⟩ := node_len (p := p) q1
    refine ⟨fun e => ?_, a, List.all_eq_true.2 fun f hf => ?_, b⟩
    · have := c e; simp only [l12U, List.length_append]; omega
    · have := idxs_at q2 hf; exact inR_t (by omega) (by omega)
  · obtain ⟨q1, q2, _⟩ := nodeIn_parts (List.all_eq_true.1 Fq.2.2.2.2.2.2 x hx)
    obtain ⟨a, b, c⟩ := node_len (p := q) q1
    exact shift_in a q2 np nq tp tq c b (by simp [l12U])
/-- Sorting by insertion. -/
def bub (l : List Int) : Nat → List Int
  | 0 => l
  | j + 1 => match decide (l.getD (j + 1) 0 < l.getD j 0) with
    | true => bub ((l.set (j + 1) (l.getD j 0)).set j (l.getD (j + 1) 0)) j
    | false => l
theorem bub_t {l : List Int} {j : Nat} (h : l.getD (j + 1) 0 < l.getD j 0) : bub l (j + 1) = bub ((l.set (j + 1) (l.getD j 0)).set j (l.getD (j + 1) 0)) j := by
  show (match decide (l.getD (j + 1) 0 < l.getD j 0) with | true => _ | false => _) = _
  rw [decide_eq_true h]
theorem bub_f {l : List Int} {j : Nat} (h : ¬ l.getD (j + 1) 0 < l.getD j 0) : bub l (j + 1) = l := by
  show (match decide (l.getD (j + 1) 0 < l.getD j 0) with | true => _ | false => _) = _
  rw [decide_eq_false h]
def insI (xs : List Int) : Nat → List Int
  | 0 => xs
  | s + 1 => bub (insI xs s) (s + 1)
theorem bub_len : ∀ (j : Nat) (l : List Int), (bub l j).length = l.length := by
  intro j
  induction j with
  | zero => intro l; rfl
  | succ j ih =>
    intro l
    by_cases h : l.getD (j + 1) 0 < l.getD j 0
    · rw [bub_t h, ih]; simp
    · rw [bub_f h]
theorem insI_len (xs : List Int) : ∀ s, (insI xs s).length = xs.length := by
  intro s
  induction s with
  | zero => rfl
  | succ s ih => show (bub (insI xs s) (s + 1)).length = _; rw [bub_len, ih]
theorem insI_two {xs : List Int} (h : xs.length = 2) : insI xs (xs.length - 1) = srt xs := by
  match xs, h with
  | [a, b], _ =>
    show bub [a, b] 1 = srt [a, b]
    by_cases c : b < a
    · rw [bub_t (j := 0) (by simpa using c)]; simp [srt, c, bub]
    · rw [bub_f (j := 0) (by simpa using c)]; simp [srt, c]
/-- Looked up by a test. -/
def idxZ (E : Int → Bool) : List Int → Nat
  | [] => 0
  | x :: l => match E x with | true => 0 | false => idxZ E l + 1
theorem idxZ_spec (E : Int → Bool) : ∀ l : List Int, idxZ E l ≤ l.length ∧ (∀ j, j < idxZ E l → E (l.getD j 0) = false) ∧ (idxZ E l < l.length → E (l.getD (idxZ E l) 0) = true) := by
  intro l
  induction l with
  | nil => exact ⟨Nat.le_refl _, fun j hj => absurd hj (Nat.not_lt_zero _), fun h => absurd h (Nat.lt_irrefl _)⟩
  | cons k l ih =>
    unfold idxZ
    cases e : E k with
    | true => exact ⟨by simp, fun j hj => absurd hj (Nat.not_lt_zero _), fun _ => by simpa using e⟩
    | false =>
      simp only [List.length_cons]
      refine ⟨by omega, fun j hj => ?_, fun hl => ?_⟩
      · cases j with
        | zero => simpa using e
        | succ j => simpa using ih.2.1 j (by omega)
      · simpa using ih.2.2 (by omega)
def idxR (E : Int → Bool) (l : List Int) : Int := match decide (idxZ E l < l.length) with | true => (idxZ E l : Int) | false => -1
theorem idxR_hit {E : Int → Bool} {l : List Int} {j : Nat} (hj : j < l.length) (h1 : ∀ q, q < j → E (l.getD q 0) = false) (h2 : E (l.getD j 0) = true) : idxR E l = j := by
  obtain ⟨g1, g2, g3⟩ := idxZ_spec E l
  have e : idxZ E l = j := by
    rcases Nat.lt_trichotomy (idxZ E l) j with h | h | h
    · have := h1 _ h; rw [g3 (by omega)] at this; cases this
    · exact h
    · have := g2 _ h; rw [h2] at this; cases this
  unfold idxR; rw [e, decide_eq_true hj]
theorem idxR_none {E : Int → Bool} {l : List Int} {j : Nat} (hj : l.length ≤ j) (h1 : ∀ q, q < j → E (l.getD q 0) = false) : idxR E l = -1 := by
  obtain ⟨g1, g2, g3⟩ := idxZ_spec E l
  unfold idxR
  rw [decide_eq_false]
  intro h
  have := h1 _ (Nat.lt_of_lt_of_le h hj); rw [g3 h] at this; cases this
theorem idxZ_map {E : Nat → Nat → Bool} {i : Nat} : ∀ fs : List Nat, idxZ (fun k => E k.toNat i) (fs.map fun (n : Nat) => (n : Int)) = idxF E i fs := by
  intro fs
  induction fs with
  | nil => rfl
  | cons k l ih =>
    simp only [List.map_cons, idxZ, idxF, Int.toNat_natCast]
    cases E k i with
    | true => rfl
    | false => simp only []; rw [ih]
def firstZ (E : Nat → Nat → Bool) (i : Nat) : List Int := (divC E i).2.map fun (n : Nat) => (n : Int)
def foundZ (E : Nat → Nat → Bool) (i : Nat) : Int := idxR (fun k => E k.toNat i) (firstZ E i)
def outZ (E : Nat → Nat → Bool) (n i : Nat) : List Int := (divC E i).1 ++ List.replicate (n - i) 0
section
variable {E : Nat → Nat → Bool} {n i : Nat}
theorem firstZ_len : (firstZ E i).length = (divC E i).2.length := by simp [firstZ]
theorem foundZ_eq : foundZ E i = match decide (idxF E i (divC E i).2 < (divC E i).2.length) with | true => (idxF E i (divC E i).2 : Int) | false => -1 := by
  unfold foundZ idxR; rw [show idxZ (fun k => E k.toNat i) (firstZ E i) = idxF E i (divC E i).2 from idxZ_map _, firstZ_len]
theorem div_hit (h : 0 ≤ foundZ E i) : (divC E (i + 1)).1 = (divC E i).1 ++ [foundZ E i] ∧ firstZ E (i + 1) = firstZ E i := by
  have e := foundZ_eq (E := E) (i := i)
  simp only [divC, firstZ]
  cases c : decide (idxF E i (divC E i).2 < (divC E i).2.length) with
  | true => rw [c] at e; rw [e]; exact ⟨rfl, rfl⟩
  | false => rw [c] at e; rw [e] at h; simp at h
theorem div_new (h : foundZ E i < 0) : (divC E (i + 1)).1 = (divC E i).1 ++ [((firstZ E i).length : Int)] ∧ firstZ E (i + 1) = firstZ E i ++ [(i : Int)] := by
  have e := foundZ_eq (E := E) (i := i)
  rw [firstZ_len]
  simp only [divC, firstZ]
  cases c : decide (idxF E i (divC E i).2 < (divC E i).2.length) with
  | true => rw [c] at e; rw [e] at h; simp at h; omega
  | false => exact ⟨rfl, by simp⟩
theorem outZ_len (h1 : (divC E i).1.length = i) (hi : i ≤ n) : (outZ E n i).length = n := by simp [outZ, h1]; omega
theorem outZ_set {c : Int} (h1 : (divC E i).1.length = i) (hi : i < n) (hc : (divC E (i + 1)).1 = (divC E i).1 ++ [c]) : (outZ E n i).set i c = outZ E n (i + 1) := by
  unfold outZ
  rw [hc, List.set_append_right _ _ (by omega), h1, Nat.sub_self, show n - i = (n - (i + 1)) + 1 by omega, List.replicate_succ, List.set_cons_zero, List.append_assoc]
  rfl
theorem outZ_all (hi : n ≤ i) : outZ E n i = (divC E i).1 := by unfold outZ; rw [show n - i = 0 by omega]; simp
theorem specC_none (h : ∀ q, q < i → E q i = false) : specC E (i + 1) = ((specC E i).1 ++ [(specC E i).2], (specC E i).2 + 1) := by
  have : (List.range i).find? (fun k => E k i) = none := List.find?_eq_none.2 fun q hq => by rw [h q (List.mem_range.1 hq)]; simp
  simp only [specC, this]
theorem specC_hit {k : Nat} (hk : k < i) (h0 : ∀ q, q < k → E q i = false) (h1 : E k i = true) : specC E (i + 1) = ((specC E i).1 ++ [(specC E i).1.getD k 0], (specC E i).2) := by
  have : (List.range i).find? (fun k => E k i) = some k := by
    cases e : (List.range i).find? (fun k => E k i) with
    | none => have := List.find?_eq_none.1 e k (List.mem_range.2 hk); rw [h1] at this; simp at this
    | some q =>
      have e1 : E q i = true := by simpa using List.find?_some e
      rcases Nat.lt_trichotomy q k with h | h | h
      · rw [h0 q h] at e1; cases e1
      · rw [h]
      · exfalso
        have := List.find?_range_eq_some.1 e
        have := this.2.2 k h
        rw [h1] at this; simp at this
  simp only [specC, this]
end
def okp (ts : List (List Int)) (ns : List NodeD) (cl : List Int) (i k : Nat) : Bool := !decide (cl.getD i 0 = cl.getD k 0) || alikeB ts cl (ns.getD i n0) (ns.getD k n0)
/-- Whether classes prove equality. -/
def checkB (p : PatchD) (cl : List Int) : Bool := patchB p && (decide (cl.length = p.2.2.1.length) && (idxs 24 cl && (List.range cl.length).all fun i => (List.range cl.length).all fun k => okp p.2.1 p.2.2.1 cl i k))
theorem alikeB_symm {ts : List (List Int)} {cl : List Int} {a b : NodeD} : alikeB ts cl a b = alikeB ts cl b a := by
  unfold alikeB keyB eqD
  rw [← Bool.decide_and, ← Bool.decide_and]
  exact decide_eq_decide.2 ⟨fun h => ⟨h.1.symm, h.2.symm⟩, fun h => ⟨h.1.symm, h.2.symm⟩⟩
theorem alikeB_rfl {ts : List (List Int)} {cl : List Int} {a : NodeD} : alikeB ts cl a a = true := by simp [alikeB, keyB, eqD]
theorem okp_symm {ts : List (List Int)} {ns : List NodeD} {cl : List Int} {i k : Nat} : okp ts ns cl i k = okp ts ns cl k i := by
  unfold okp; rw [alikeB_symm, show decide (cl.getD i 0 = cl.getD k 0) = decide (cl.getD k 0 = cl.getD i 0) from decide_eq_decide.2 eq_comm]
theorem okp_rfl {ts : List (List Int)} {ns : List NodeD} {cl : List Int} {i : Nat} : okp ts ns cl i i = true := by unfold okp; rw [alikeB_rfl, Bool.or_true]
section
variable {p : PatchD} {cl : List Int}
theorem checkB_f1 (h : patchB p = false) : checkB p cl = false := by unfold checkB; rw [h, Bool.false_and]
theorem checkB_f2 (h : ¬ cl.length = p.2.2.1.length) : checkB p cl = false := by unfold checkB; rw [decide_eq_false h, Bool.false_and, Bool.and_false]
theorem checkB_f3 (h : idxs 24 cl = false) : checkB p cl = false := by unfold checkB; rw [h, Bool.false_and, Bool.and_false, Bool.and_false]
theorem checkB_f4 {i k : Nat} (hi : i < cl.length) (hk : k < cl.length) (h : okp p.2.1 p.2.2.1 cl i k = false) : checkB p cl = false := by
  cases e : checkB p cl with
  | false => rfl
  | true =>
    simp only [checkB, Bool.and_eq_true] at e
    have := List.all_eq_true.1 (List.all_eq_true.1 e.2.2.2 i (List.mem_range.2 hi)) k (List.mem_range.2 hk)
    rw [h] at this; cases this
theorem checkB_t (h1 : patchB p = true) (h2 : cl.length = p.2.2.1.length) (h3 : idxs 24 cl = true) (h : ∀ i k, i < cl.length → k < cl.length → okp p.2.1 p.2.2.1 cl i k = true) : checkB p cl = true := by
  unfold checkB
  rw [h1, decide_eq_true h2, h3, Bool.true_and, Bool.true_and, Bool.true_and]
  exact List.all_eq_true.2 fun i hi => List.all_eq_true.2 fun k hk => h i k (List.mem_range.1 hi) (List.mem_range.1 hk)
end
/-- The number of classes, counted. -/
def smallL (xs : List Int) : Bool := xs.all fun x => inR x 0 1000
theorem countL_next {xs : List Int} {k : Nat} (hk : k < xs.length) : countL (xs.take (k + 1)) = if countL (xs.take k) < xs.getD k 0 + 1 then xs.getD k 0 + 1 else countL (xs.take k) := by
  rw [take_next (d := (0 : Int)) hk, countL_app]; split <;> omega
theorem smallL_cls {ts : List (List Int)} {ns : List NodeD} (h : ns.length ≤ 48) : smallL (clsF ts ns) = true := List.all_eq_true.2 fun x hx => by
  obtain ⟨i, hi, rfl⟩ := List.mem_iff_getElem.1 hx
  rw [clsF_len] at hi
  have h1 := clsF_rng (ts := ts) hi
  have h2 := countF_le (ts := ts) (ns := ns)
  rw [List.getD_eq_getElem?_getD, List.getElem?_eq_getElem (by rw [clsF_len]; exact hi)] at h1
  simp only [Option.getD_some] at h1
  exact inR_t (by omega) (by omega)
/-- Whether two patches have outputs of the same classes. -/
def outCl (p q : PatchD) : List Int := (l12U p q).2.2.2.map fun z => (clsF (l12U p q).2.1 (l12U p q).2.2.1).getD z.toNat 0
def sameR (p q : PatchD) : Bool × Int := match decide (ask2 p q = 0) with
  | true => (eqD ((outCl p q).take p.2.2.2.length) ((outCl p q).drop p.2.2.2.length), 0)
  | false => (false, ask2 p q)
theorem sameR_t {p q : PatchD} (h : ask2 p q = 0) : sameR p q = (eqD ((outCl p q).take p.2.2.2.length) ((outCl p q).drop p.2.2.2.length), 0) := by unfold sameR; rw [decide_eq_true h]
theorem sameR_f {p q : PatchD} (h : ¬ ask2 p q = 0) : sameR p q = (false, ask2 p q) := by unfold sameR; rw [decide_eq_false h]
theorem outCl_len (p q : PatchD) : (outCl p q).length = p.2.2.2.length + q.2.2.2.length := by simp [outCl, l12U]
theorem outs_two {p q : PatchD} (hp : patchB p = true) (hq : patchB q = true) : idxs (l12U p q).2.2.1.length (l12U p q).2.2.2 = true := by
  have Fp := formedB_parts (patchB_parts hp).1
  have Fq := formedB_parts (patchB_parts hq).1
  have hl : (l12U p q).2.2.1.length = p.2.2.1.length + q.2.2.1.length := by simp [l12U]
  rw [hl]
  refine List.all_eq_true.2 fun f hf => ?_
  simp only [l12U, List.mem_append, List.mem_map] at hf
  have := Fp.1
  have := Fq.1
  rcases hf with hf | ⟨g, hg, rfl⟩
  · have := idxs_at Fp.2.2.2.2.2.1 hf; exact inR_t (by omega) (by omega)
  · have := idxs_at Fq.2.2.2.2.2.1 hg
    unfold plus
    rw [wrapI (by omega)]
    exact inR_t (by omega) (by omega)
def clsR (p : PatchD) : List Int × Int := match patchB p with | true => (clsF p.2.1 p.2.2.1, 0) | false => ([], 1)
theorem clsR_t {p : PatchD} (h : patchB p = true) : clsR p = (clsF p.2.1 p.2.2.1, 0) := by unfold clsR; rw [h]
theorem clsR_f {p : PatchD} (h : patchB p = false) : clsR p = ([], 1) := by unfold clsR; rw [h]
theorem clsR_bd (p : PatchD) : (clsR p).1.length ≤ 1000000 := by
  unfold clsR
  split
  · rename_i h; have := (formedB_parts (patchB_parts h).1).1; simp only [clsF_len]; omega
  · simp
def cntR (p : PatchD) : Int × Int := match patchB p with | true => (countF p.2.1 p.2.2.1, 0) | false => (0, 1)
theorem cntR_t {p : PatchD} (h : patchB p = true) : cntR p = (countF p.2.1 p.2.2.1, 0) := by unfold cntR; rw [h]
theorem cntR_f {p : PatchD} (h : patchB p = false) : cntR p = (0, 1) := by unfold cntR; rw [h]
def redB (p : PatchD) : Bool := patchB p && decide (countF p.2.1 p.2.2.1 = (p.2.2.1.length : Int))
end Go.Proofs.YthfopaimihmgiaaGreat
