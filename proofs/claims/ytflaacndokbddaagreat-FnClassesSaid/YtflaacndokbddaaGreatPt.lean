/-
 Texts joined: the logic of trees and plain laws. No condition beyond those of the theorems.
-/
import Derived.Test.YtflaacndokbddaaGreatPe
set_option linter.unusedSimpArgs false
set_option linter.unusedVariables false
namespace Go.Proofs.YtflaacndokbddaaGreat
open Go.RowKit
def specC (E : Nat → Nat → Bool) : Nat → List Int × Int
 | 0 => ([], 0)
 | i + 1 => match (List.range i).find? (fun k => E k i) with
   | some k => ((specC E i).1 ++ [(specC E i).1.getD k 0], (specC E i).2)
   | none => ((specC E i).1 ++ [(specC E i).2], (specC E i).2 + 1)
def idxF (E : Nat → Nat → Bool) (i : Nat) : List Nat → Nat
 | [] => 0
 | k :: l => match E k i with | true => 0 | false => idxF E i l + 1
def divC (E : Nat → Nat → Bool) : Nat → List Int × List Nat
 | 0 => ([], [])
 | i + 1 => match decide (idxF E i (divC E i).2 < (divC E i).2.length) with
   | true => ((divC E i).1 ++ [(idxF E i (divC E i).2 : Int)], (divC E i).2)
   | false => ((divC E i).1 ++ [((divC E i).2.length : Int)], (divC E i).2 ++ [i])
theorem idxF_spec (E : Nat → Nat → Bool) (i : Nat) : ∀ l : List Nat, idxF E i l ≤ l.length ∧ (∀ j, j < idxF E i l → E (l.getD j 0) i = false) ∧ (idxF E i l < l.length → E (l.getD (idxF E i l) 0) i = true) := by
 intro l
 induction l with
 | nil => exact ⟨Nat.le_refl _, fun j hj => absurd hj (Nat.not_lt_zero _), fun h => absurd h (Nat.lt_irrefl _)⟩
 | cons k l ih =>
   unfold idxF
   cases e : E k i with
   | true => exact ⟨by simp, fun j hj => absurd hj (Nat.not_lt_zero _), fun _ => by simpa using e⟩
   | false =>
     simp only [List.length_cons]
     refine ⟨by omega, fun j hj => ?_, fun hl => ?_⟩
     · cases j with
       | zero => simpa using e
       | succ j => simpa using ih.2.1 j (by omega)
     · simpa using ih.2.2 (by omega)
theorem idxF_eq {E : Nat → Nat → Bool} {i : Nat} {l : List Nat} {r : Nat} (h1 : r ≤ l.length) (h2 : ∀ j, j < r → E (l.getD j 0) i = false) (h3 : r < l.length → E (l.getD r 0) i = true) : idxF E i l = r := by
 obtain ⟨g1, g2, g3⟩ := idxF_spec E i l
 rcases Nat.lt_trichotomy (idxF E i l) r with h | h | h
 · have := h2 _ h; rw [g3 (by omega)] at this; cases this
 · exact h
 · have := g2 _ h; rw [h3 (by omega)] at this; cases this
theorem idxF_congr {E E' : Nat → Nat → Bool} {i : Nat} : ∀ {l : List Nat}, (∀ k ∈ l, E k i = E' k i) → idxF E i l = idxF E' i l := by
 intro l
 induction l with
 | nil => intro _; rfl
 | cons k l ih => intro h; unfold idxF; rw [h k List.mem_cons_self, ih fun k hk => h k (List.mem_cons_of_mem _ hk)]
theorem specC_congr {E E' : Nat → Nat → Bool} {n : Nat} (h : ∀ k i, k < i → i < n → E k i = E' k i) : ∀ i, i ≤ n → specC E i = specC E' i := by
 intro i
 induction i with
 | zero => intro _; rfl
 | succ i ih =>
   intro hi
   simp only [specC]
   have : (List.range i).find? (fun k => E k i) = (List.range i).find? (fun k => E' k i) := by
    have : ∀ l : List Nat, (∀ k ∈ l, k < i) → l.find? (fun k => E k i) = l.find? (fun k => E' k i) := by
     intro l
     induction l with
     | nil => intro _; rfl
     | cons k l ih2 =>
       intro hl
       simp only [List.find?_cons, h k i (hl k List.mem_cons_self) (by omega), ih2 fun k hk => hl k (List.mem_cons_of_mem _ hk)]
    exact this _ fun k hk => List.mem_range.1 hk
   rw [this, ih (by omega)]
structure DivOk (E : Nat → Nat → Bool) (i : Nat) (d : List Int × List Nat) : Prop where
 len : d.1.length = i
 lt : ∀ c, c < d.2.length → d.2.getD c 0 < i
 at_ : ∀ k, k < i → ∃ c : Nat, d.1.getD k 0 = (c : Int) ∧ c < d.2.length ∧ E (d.2.getD c 0) k = true
 ne : ∀ c c', c < c' → c' < d.2.length → E (d.2.getD c 0) (d.2.getD c' 0) = false
theorem getD_app1 {α : Type} {l : List α} {x d : α} {k : Nat} (h : k < l.length) : (l ++ [x]).getD k d = l.getD k d := by
 rw [List.getD_eq_getElem?_getD, List.getD_eq_getElem?_getD, List.getElem?_append_left h]
theorem getD_app2 {α : Type} {l : List α} {x d : α} {k : Nat} (h : k = l.length) : (l ++ [x]).getD k d = x := by
 subst h; simp [List.getD]
section
variable {E : Nat → Nat → Bool} {n : Nat} (rfl' : ∀ k, E k k = true) (sym : ∀ k i, E k i = true → E i k = true) (tr : ∀ k i j, E k i = true → E i j = true → E k j = true)
include rfl' in
theorem divC_ok : ∀ i, DivOk E i (divC E i) := by
 intro i
 induction i with
 | zero => exact ⟨rfl, fun c hc => absurd hc (Nat.not_lt_zero _), fun k hk => absurd hk (Nat.not_lt_zero _), fun c c' _ hc => absurd hc (Nat.not_lt_zero _)⟩
 | succ i ih =>
   obtain ⟨g1, g2, g3⟩ := idxF_spec E i (divC E i).2
   simp only [divC]
   by_cases c : idxF E i (divC E i).2 < (divC E i).2.length
   · rw [decide_eq_true c]
     refine ⟨by simp [ih.len], fun q hq => by have := ih.lt q hq; simp only; omega, fun k hk => ?_, ih.ne⟩
     rcases Nat.lt_succ_iff_lt_or_eq.1 hk with h | h
     · obtain ⟨q, q1, q2, q3⟩ := ih.at_ k h
       exact ⟨q, by simp only; rw [getD_app1 (by rw [ih.len]; exact h)]; exact q1, q2, q3⟩
     · subst h
       exact ⟨_, by simp only; rw [getD_app2 ih.len.symm], c, g3 c⟩
   · rw [decide_eq_false c]
     refine ⟨by simp [ih.len], fun q hq => ?_, fun k hk => ?_, fun q q' hqq hq' => ?_⟩
     · simp only [List.length_append, List.length_singleton] at hq ⊢
       rcases Nat.lt_succ_iff_lt_or_eq.1 hq with h | h
       · rw [getD_app1 h]; have := ih.lt q h; omega
       · rw [getD_app2 h]; omega
     · simp only
       rcases Nat.lt_succ_iff_lt_or_eq.1 hk with h | h
       · obtain ⟨q, q1, q2, q3⟩ := ih.at_ k h
         exact ⟨q, by rw [getD_app1 (by rw [ih.len]; exact h)]; exact q1, by simp; omega, by rw [getD_app1 q2]; exact q3⟩
       · subst h
         exact ⟨(divC E k).2.length, by rw [getD_app2 ih.len.symm], by simp, by rw [getD_app2 rfl]; exact rfl' k⟩
     · simp only [List.length_append, List.length_singleton] at hq' ⊢
       rcases Nat.lt_succ_iff_lt_or_eq.1 hq' with h | h
       · rw [getD_app1 h, getD_app1 (by omega)]; exact ih.ne q q' hqq h
       · rw [getD_app2 h, getD_app1 (by omega)]; exact g2 q (by omega)
include sym tr in
theorem DivOk.uniq {i : Nat} {d : List Int × List Nat} (h : DivOk E i d) {c c' : Nat} (hc : c < d.2.length) (hc' : c' < d.2.length) {k : Nat} (h1 : E (d.2.getD c 0) k = true) (h2 : E (d.2.getD c' 0) k = true) : c = c' := by
 have h3 := tr _ _ _ h1 (sym _ _ h2)
 rcases Nat.lt_trichotomy c c' with e | e | e
 · rw [h.ne c c' e hc'] at h3; cases h3
 · exact e
 · have h4 := sym _ _ h3
   rw [h.ne c' c e hc] at h4; cases h4
include sym tr in
theorem DivOk.rel {i : Nat} {d : List Int × List Nat} (h : DivOk E i d) {k j : Nat} (hk : k < i) (hj : j < i) : d.1.getD k 0 = d.1.getD j 0 ↔ E k j = true := by
 obtain ⟨c, c1, c2, c3⟩ := h.at_ k hk
 obtain ⟨c', c1', c2', c3'⟩ := h.at_ j hj
 rw [c1, c1']
 constructor
 · intro e
   obtain rfl : c = c' := by omega
   exact tr _ _ _ (sym _ _ c3) c3'
 · intro e
   rw [h.uniq sym tr c2 c2' (tr _ _ _ c3 e) c3']
include rfl' sym tr in
theorem spec_div : ∀ i, specC E i = ((divC E i).1, ((divC E i).2.length : Int)) := by
 intro i
 induction i with
 | zero => rfl
 | succ i ih =>
   have h := divC_ok rfl' (E := E) i
   obtain ⟨g1, g2, g3⟩ := idxF_spec E i (divC E i).2
   simp only [specC, divC]
   rw [ih]
   cases e : (List.range i).find? (fun k => E k i) with
   | none =>
     have hn : ¬ idxF E i (divC E i).2 < (divC E i).2.length := fun c => by
      have := g3 c
      have h2 := List.find?_eq_none.1 e _ (List.mem_range.2 (h.lt _ c))
      exact h2 this
     rw [decide_eq_false hn]
     simp
   | some k =>
     have h1 : E k i = true := by simpa using List.find?_some e
     have h2 : k < i := List.mem_range.1 (List.mem_of_find?_eq_some e)
     obtain ⟨c, c1, c2, c3⟩ := h.at_ k h2
     have c4 := tr _ _ _ c3 h1
     have hc : idxF E i (divC E i).2 < (divC E i).2.length := Nat.lt_of_le_of_ne g1 fun e2 => by
      have := g2 c (by omega); rw [c4] at this; cases this
     have : idxF E i (divC E i).2 = c := h.uniq sym tr hc c2 (g3 hc) c4
     rw [decide_eq_true hc]
     simp only
     rw [c1, this]
end
def byKey {κ : Type} [DecidableEq κ] (f : Nat → κ) (k i : Nat) : Bool := decide (f k = f i)
section
variable {κ : Type} [DecidableEq κ] {f : Nat → κ}
theorem byKey_rfl (k : Nat) : byKey f k k = true := decide_eq_true rfl
theorem byKey_sym (k i : Nat) (h : byKey f k i = true) : byKey f i k = true := decide_eq_true (of_decide_eq_true h).symm
theorem byKey_tr (k i j : Nat) (h1 : byKey f k i = true) (h2 : byKey f i j = true) : byKey f k j = true := decide_eq_true ((of_decide_eq_true h1).trans (of_decide_eq_true h2))
def canon (f : Nat → κ) (n : Nat) : List Int := (divC (byKey f) n).1
def canonN (f : Nat → κ) (n : Nat) : Nat := (divC (byKey f) n).2.length
theorem canon_ok (f : Nat → κ) (n : Nat) : DivOk (byKey f) n (divC (byKey f) n) := divC_ok byKey_rfl n
theorem canon_len (f : Nat → κ) (n : Nat) : (canon f n).length = n := (canon_ok f n).len
theorem canon_rel {n k j : Nat} (hk : k < n) (hj : j < n) : (canon f n).getD k 0 = (canon f n).getD j 0 ↔ f k = f j := by
 have := (canon_ok f n).rel byKey_sym byKey_tr hk hj
 unfold canon
 rw [this]
 exact ⟨of_decide_eq_true, decide_eq_true⟩
theorem canon_rng {n k : Nat} (hk : k < n) : 0 ≤ (canon f n).getD k 0 ∧ (canon f n).getD k 0 < canonN f n := by
 obtain ⟨c, c1, c2, _⟩ := (canon_ok f n).at_ k hk
 unfold canon canonN; rw [c1]; omega
theorem canonN_le (f : Nat → κ) : ∀ n, canonN f n ≤ n := by
 intro n
 induction n with
 | zero => exact Nat.le_refl _
 | succ n ih =>
   unfold canonN at *
   simp only [divC]
   split
   · simp only; omega
   · simp only [List.length_append, List.length_singleton]; omega
end
theorem canon_congr {κ κ' : Type} [DecidableEq κ] [DecidableEq κ'] {f : Nat → κ} {g : Nat → κ'} {n : Nat} (h : ∀ k i, k < n → i < n → (f k = f i ↔ g k = g i)) : ∀ i, i ≤ n → divC (byKey f) i = divC (byKey g) i := by
 intro i
 induction i with
 | zero => intro _; rfl
 | succ i ih =>
   intro hi
   have e := ih (by omega)
   have e2 : idxF (byKey f) i (divC (byKey g) i).2 = idxF (byKey g) i (divC (byKey g) i).2 := idxF_congr fun k hk => by
    have hok := canon_ok g i
    obtain ⟨c, hc, rfl⟩ := List.mem_iff_getElem.1 hk
    have hlt := hok.lt c hc
    rw [List.getD_eq_getElem?_getD, List.getElem?_eq_getElem hc] at hlt
    simp only [byKey]
    exact decide_eq_decide.2 (h _ _ (by simpa using Nat.lt_trans hlt (by omega)) (by omega))
   simp only [divC]
   rw [e, e2]
theorem canon_same {κ κ' : Type} [DecidableEq κ] [DecidableEq κ'] {f : Nat → κ} {g : Nat → κ'} {n : Nat} (hr : ∀ k i, k < n → i < n → f k = f i → g k = g i) (hc : canonN f n ≤ canonN g n) : canon f n = canon g n ∧ canonN f n = canonN g n := by
 have key : ∀ k i, k < n → i < n → (f k = f i ↔ g k = g i) := by
  -- the first ones of g's classes lie in different classes of f; there are as many
  have F := canon_ok f n
  have G' := canon_ok g n
  have gne : ∀ c c', c < (divC (byKey g) n).2.length → c' < (divC (byKey g) n).2.length → g ((divC (byKey g) n).2.getD c 0) = g ((divC (byKey g) n).2.getD c' 0) → c = c' := fun c c' h1 h2 e =>
   G'.uniq byKey_sym byKey_tr h1 h2 (k := (divC (byKey g) n).2.getD c' 0) (decide_eq_true e) (byKey_rfl _)
  -- each class of f has one of g: an injection from g's classes into f's
  obtain ⟨m, hm⟩ : ∃ m : Nat → Nat, ∀ c, c < (divC (byKey g) n).2.length → m c < (divC (byKey f) n).2.length ∧ f ((divC (byKey f) n).2.getD (m c) 0) = f ((divC (byKey g) n).2.getD c 0) := by
   refine ⟨fun c => ((divC (byKey f) n).1.getD ((divC (byKey g) n).2.getD c 0) 0).toNat, fun c hc' => ?_⟩
   obtain ⟨q, q1, q2, q3⟩ := F.at_ _ (G'.lt c hc')
   simp only [q1, Int.toNat_natCast]
   exact ⟨q2, of_decide_eq_true q3⟩
  have minj : ∀ c c', c < (divC (byKey g) n).2.length → c' < (divC (byKey g) n).2.length → m c = m c' → c = c' := fun c c' h1 h2 e => by
   obtain ⟨_, e1⟩ := hm c h1
   obtain ⟨_, e2⟩ := hm c' h2
   rw [e, e2] at e1
   exact gne c c' h1 h2 (hr _ _ (G'.lt _ h1) (G'.lt _ h2) e1.symm)
  -- so it is onto
  have onto : ∀ q, q < (divC (byKey f) n).2.length → ∃ c, c < (divC (byKey g) n).2.length ∧ m c = q := fun q hq => by
   have h1 : ((List.range (divC (byKey g) n).2.length).map fun c => (m c : Int)).Nodup := by
    rw [List.nodup_iff_pairwise_ne, List.pairwise_map]
    refine List.Pairwise.imp_of_mem (R := fun a b => a < b) ?_ List.pairwise_lt_range
    intro a b ha hb hab e
    have := minj a b (List.mem_range.1 ha) (List.mem_range.1 hb) (by omega)
    omega
   have h2 : ∀ x ∈ (List.range (divC (byKey g) n).2.length).map fun c => (m c : Int), 0 ≤ x ∧ x < ((divC (byKey f) n).2.length : Int) := fun x hx => by
    obtain ⟨c, hc', rfl⟩ := List.mem_map.1 hx
    have := (hm c (List.mem_range.1 hc')).1
    omega
   have h3 : ((List.range (divC (byKey g) n).2.length).map fun c => (m c : Int)).length = (divC (byKey f) n).2.length := by
    have := pigeon _ _ h1 h2
    simp only [List.length_map, List.length_range] at this ⊢
    unfold canonN at hc
    omega
   have h4 := full h1 h2 h3 q hq
   obtain ⟨c, hc', e⟩ := List.mem_map.1 h4
   exact ⟨c, List.mem_range.1 hc', by omega⟩
  intro k i hk hi
  refine ⟨hr k i hk hi, fun e => ?_⟩
  obtain ⟨q, q1, q2, q3⟩ := F.at_ k hk
  obtain ⟨q', q1', q2', q3'⟩ := F.at_ i hi
  obtain ⟨c, c1, rfl⟩ := onto q q2
  obtain ⟨c', c1', rfl⟩ := onto q' q2'
  have a1 := (hm c c1).2
  have a2 := (hm c' c1').2
  have b1 : g ((divC (byKey g) n).2.getD c 0) = g k := hr _ _ (G'.lt _ c1) hk (a1.symm.trans (of_decide_eq_true q3))
  have b2 : g ((divC (byKey g) n).2.getD c' 0) = g i := hr _ _ (G'.lt _ c1') hi (a2.symm.trans (of_decide_eq_true q3'))
  have := gne c c' c1 c1' (b1.trans (e.trans b2.symm))
  subst this
  exact (of_decide_eq_true q3 : _ = _).symm.trans (of_decide_eq_true q3')
 have := canon_congr key n (Nat.le_refl _)
 unfold canon canonN
 rw [this]
 exact ⟨rfl, rfl⟩
theorem canonN_mono {κ κ' : Type} [DecidableEq κ] [DecidableEq κ'] {f : Nat → κ} {g : Nat → κ'} {n : Nat} (hr : ∀ k i, k < n → i < n → f k = f i → g k = g i) : canonN g n ≤ canonN f n := by
 rcases Nat.le_total (canonN g n) (canonN f n) with h | h
 · exact h
 · exact Nat.le_of_eq (canon_same hr h).2.symm
end Go.Proofs.YtflaacndokbddaaGreat
namespace Go.Proofs.YtflaacndokbddaaGreat
open Go.RowKit
def keyOf (ts : List (List Int)) (n : NodeD) : Int × Int × Int × List Int := match decide (n.1 = 13) with
 | true => (n.1, n.2.2.1, 0, ts.getD n.2.1.toNat [])
 | false => (n.1, n.2.2.1, n.2.1, [])
def keyB (ts : List (List Int)) (a b : NodeD) : Bool := decide (keyOf ts a = keyOf ts b)
theorem keyOf_t {ts : List (List Int)} {n : NodeD} (h : n.1 = 13) : keyOf ts n = (n.1, n.2.2.1, 0, ts.getD n.2.1.toNat []) := by unfold keyOf; rw [decide_eq_true h]
theorem keyOf_f {ts : List (List Int)} {n : NodeD} (h : ¬ n.1 = 13) : keyOf ts n = (n.1, n.2.2.1, n.2.1, []) := by unfold keyOf; rw [decide_eq_false h]
theorem keyOf_k {ts : List (List Int)} {n : NodeD} : (keyOf ts n).1 = n.1 ∧ (keyOf ts n).2.1 = n.2.2.1 := by unfold keyOf; split <;> exact ⟨rfl, rfl⟩
theorem keyB_f1 {ts : List (List Int)} {a b : NodeD} (h : ¬ a.1 = b.1) : keyB ts a b = false := decide_eq_false fun e => h (by rw [← (keyOf_k (ts := ts) (n := a)).1, e, keyOf_k.1])
theorem keyB_f2 {ts : List (List Int)} {a b : NodeD} (h : ¬ a.2.2.1 = b.2.2.1) : keyB ts a b = false := decide_eq_false fun e => h (by rw [← (keyOf_k (ts := ts) (n := a)).2, e, keyOf_k.2])
theorem keyB_tab {ts : List (List Int)} {a b : NodeD} (h1 : a.1 = b.1) (h2 : a.2.2.1 = b.2.2.1) (h3 : a.1 = 13) : keyB ts a b = eqD (ts.getD a.2.1.toNat []) (ts.getD b.2.1.toNat []) := by
 unfold keyB eqD; rw [keyOf_t h3, keyOf_t (h1 ▸ h3)]
 exact decide_eq_decide.2 ⟨fun e => congrArg (fun (z : Int × Int × Int × List Int) => z.2.2.2) e, fun e => by rw [h1, h2, e]⟩
theorem keyB_A {ts : List (List Int)} {a b : NodeD} (h1 : a.1 = b.1) (h2 : a.2.2.1 = b.2.2.1) (h3 : ¬ a.1 = 13) : keyB ts a b = decide (a.2.1 = b.2.1) := by
 unfold keyB; rw [keyOf_f h3, keyOf_f (h1 ▸ h3)]
 exact decide_eq_decide.2 ⟨fun e => congrArg (fun (z : Int × Int × Int × List Int) => z.2.2.1) e, fun e => by rw [h1, h2, e]⟩
theorem keyB_kind {ts : List (List Int)} {a b : NodeD} (h : keyB ts a b = true) : a.1 = b.1 := by
 have e := of_decide_eq_true h
 rw [← (keyOf_k (ts := ts) (n := a)).1, e, keyOf_k.1]
def swapB (n : NodeD) : Bool := decide (n.1 = 3) || decide (n.1 = 9)
def srt : List Int → List Int
 | [a, b] => match decide (b < a) with | true => [b, a] | false => [a, b]
 | l => l
def clsM (cl fr : List Int) : List Int := fr.map fun q => cl.getD q.toNat 0
def insOf (n : NodeD) (cl : List Int) : List Int := match swapB n with | true => srt (clsM cl n.2.2.2) | false => clsM cl n.2.2.2
theorem insOf_t {n : NodeD} {cl : List Int} (h : swapB n = true) : insOf n cl = srt (clsM cl n.2.2.2) := by unfold insOf; rw [h]
theorem insOf_f {n : NodeD} {cl : List Int} (h : swapB n = false) : insOf n cl = clsM cl n.2.2.2 := by unfold insOf; rw [h]
def alikeB (ts : List (List Int)) (cl : List Int) (a b : NodeD) : Bool := keyB ts a b && eqD (insOf a cl) (insOf b cl)
theorem srt_eq {x y : List Int} (hx : x.length = 2) (hy : y.length = 2) : srt x = srt y ↔ x = y ∨ (x.getD 0 0 = y.getD 1 0 ∧ x.getD 1 0 = y.getD 0 0) := by
 match x, y, hx, hy with
 | [a, b], [c, d], _, _ =>
   simp only [srt]
   by_cases h1 : b < a <;> by_cases h2 : d < c <;> simp only [h1, h2, decide_true, decide_false, List.cons.injEq, and_true, List.getD_cons_zero, List.getD_cons_succ] <;> omega
theorem alike_spec {ts : List (List Int)} {cl : List Int} {a b : NodeD} (hk : keyB ts a b = true) (ha : swapB a = true → a.2.2.2.length = 2) (hb : swapB b = true → b.2.2.2.length = 2) :
 alikeB ts cl a b = (eqD (clsM cl a.2.2.2) (clsM cl b.2.2.2) || (swapB a && (decide ((clsM cl a.2.2.2).getD 0 0 = (clsM cl b.2.2.2).getD 1 0) && decide ((clsM cl a.2.2.2).getD 1 0 = (clsM cl b.2.2.2).getD 0 0)))) := by
 unfold alikeB
 rw [hk, Bool.true_and]
 have hsw : swapB b = swapB a := by unfold swapB; rw [keyB_kind hk]
 cases h : swapB a with
 | false =>
   rw [insOf_f h, insOf_f (by rw [hsw]; exact h)]; simp
 | true =>
   have l1 : (clsM cl a.2.2.2).length = 2 := by simp [clsM, ha h]
   have l2 : (clsM cl b.2.2.2).length = 2 := by simp [clsM, hb (by rw [hsw]; exact h)]
   rw [insOf_t h, insOf_t (by rw [hsw]; exact h)]
   unfold eqD
   rw [Bool.true_and, ← Bool.decide_and, ← Bool.decide_or]
   exact decide_eq_decide.2 (srt_eq l1 l2)
abbrev KeyT := Int × (Int × Int × Int × List Int) × List Int
def phi (ts : List (List Int)) (ns : List NodeD) (cl : List Int) (i : Nat) : KeyT := (cl.getD i 0, keyOf ts (ns.getD i n0), insOf (ns.getD i n0) cl)
def phi0 (ts : List (List Int)) (ns : List NodeD) (i : Nat) : Int × Int × Int × List Int := keyOf ts (ns.getD i n0)
theorem byKey0 {ts : List (List Int)} {ns : List NodeD} {k i : Nat} : byKey (phi0 ts ns) k i = keyB ts (ns.getD k n0) (ns.getD i n0) := rfl
theorem byKeyP {ts : List (List Int)} {ns : List NodeD} {cl : List Int} {k i : Nat} : byKey (phi ts ns cl) k i = (decide (cl.getD k 0 = cl.getD i 0) && alikeB ts cl (ns.getD k n0) (ns.getD i n0)) := by
 unfold byKey phi alikeB keyB eqD
 rw [← Bool.decide_and, ← Bool.decide_and]
 exact decide_eq_decide.2 (by simp only [Prod.mk.injEq])
def clsI (ts : List (List Int)) (ns : List NodeD) : Nat → List Int
 | 0 => canon (phi0 ts ns) ns.length
 | j + 1 => canon (phi ts ns (clsI ts ns j)) ns.length
def clsN (ts : List (List Int)) (ns : List NodeD) : Nat → Nat
 | 0 => canonN (phi0 ts ns) ns.length
 | j + 1 => canonN (phi ts ns (clsI ts ns j)) ns.length
def clsF (ts : List (List Int)) (ns : List NodeD) : List Int := clsI ts ns ns.length
section
variable {ts : List (List Int)} {ns : List NodeD}
theorem clsI_can : ∀ j, ∃ (κ : Type) (_ : DecidableEq κ) (g : Nat → κ), clsI ts ns j = canon g ns.length ∧ clsN ts ns j = canonN g ns.length := by
 intro j
 cases j with
 | zero => exact ⟨_, inferInstance, phi0 ts ns, rfl, rfl⟩
 | succ j => exact ⟨_, inferInstance, phi ts ns (clsI ts ns j), rfl, rfl⟩
theorem clsI_len (j : Nat) : (clsI ts ns j).length = ns.length := by
 obtain ⟨κ, _, g, h1, _⟩ := clsI_can (ts := ts) (ns := ns) j
 rw [h1]; exact canon_len _ _
theorem clsI_rng (j : Nat) {k : Nat} (hk : k < ns.length) : 0 ≤ (clsI ts ns j).getD k 0 ∧ (clsI ts ns j).getD k 0 < clsN ts ns j := by
 obtain ⟨κ, _, g, h1, h2⟩ := clsI_can (ts := ts) (ns := ns) j
 rw [h1, h2]; exact canon_rng hk
theorem clsN_le (j : Nat) : clsN ts ns j ≤ ns.length := by
 obtain ⟨κ, _, g, _, h2⟩ := clsI_can (ts := ts) (ns := ns) j
 rw [h2]; exact canonN_le _ _
theorem phi_fine {cl : List Int} {k i : Nat} (h : phi ts ns cl k = phi ts ns cl i) : cl.getD k 0 = cl.getD i 0 := congrArg (fun (z : KeyT) => z.1) h
theorem clsN_mono (j : Nat) : clsN ts ns j ≤ clsN ts ns (j + 1) := by
 obtain ⟨κ, _, g, h1, h2⟩ := clsI_can (ts := ts) (ns := ns) j
 rw [h2]
 exact canonN_mono fun k i hk hi e => (canon_rel hk hi).1 (by rw [← h1]; exact phi_fine e)
theorem clsI_stop {j : Nat} (h : clsN ts ns (j + 1) ≤ clsN ts ns j) : clsI ts ns (j + 1) = clsI ts ns j := by
 obtain ⟨κ, _, g, h1, h2⟩ := clsI_can (ts := ts) (ns := ns) j
 rw [h2] at h
 rw [h1]
 exact (canon_same (fun k i hk hi e => (canon_rel hk hi).1 (by rw [← h1]; exact phi_fine e)) h).1
theorem canonN_of {κ κ' : Type} [DecidableEq κ] [DecidableEq κ'] {f : Nat → κ} {g : Nat → κ'} {n : Nat} (h : canon f n = canon g n) : canonN f n = canonN g n := by
 unfold canonN
 rw [canon_congr (f := f) (g := g) (n := n) (fun k i hk hi => by rw [← canon_rel (f := f) hk hi, ← canon_rel (f := g) hk hi, h]) n (Nat.le_refl _)]
theorem clsN_stop {j : Nat} (h : clsI ts ns (j + 1) = clsI ts ns j) : clsN ts ns (j + 1) = clsN ts ns j := by
 obtain ⟨κ, _, g, h1, h2⟩ := clsI_can (ts := ts) (ns := ns) j
 rw [h2]
 exact canonN_of (by rw [← h1]; exact h)
theorem clsN_grow : ∀ j, (∀ i, i < j → clsI ts ns (i + 1) ≠ clsI ts ns i) → j ≤ clsN ts ns j := by
 intro j
 induction j with
 | zero => intro _; omega
 | succ j ih =>
   intro h
   have h1 := ih fun i hi => h i (by omega)
   rcases Nat.lt_or_ge (clsN ts ns j) (clsN ts ns (j + 1)) with c | c
   · omega
   · exact absurd (clsI_stop c) (h j (by omega))
theorem clsI_stay {j : Nat} (h : clsI ts ns (j + 1) = clsI ts ns j) : ∀ k, clsI ts ns (j + k) = clsI ts ns j := by
 intro k
 induction k with
 | zero => rfl
 | succ k ih =>
   have : clsI ts ns (j + k + 1) = canon (phi ts ns (clsI ts ns (j + k))) ns.length := rfl
   rw [← Nat.add_assoc, this, ih]
   exact h
theorem clsF_at {j : Nat} (hj : j ≤ ns.length) (h : clsI ts ns (j + 1) = clsI ts ns j) : clsF ts ns = clsI ts ns j := by
 unfold clsF
 rw [show ns.length = j + (ns.length - j) by omega]
 exact clsI_stay h _
def countL (cl : List Int) : Int := cl.foldl (fun c x => max c (x + 1)) 0
theorem countL_app {l : List Int} {x : Int} : countL (l ++ [x]) = max (countL l) (x + 1) := by unfold countL; rw [List.foldl_append]; rfl
theorem countL_div (E : Nat → Nat → Bool) : ∀ i, countL (divC E i).1 = ((divC E i).2.length : Int) := by
 intro i
 induction i with
 | zero => rfl
 | succ i ih =>
   simp only [divC]
   split
   · rename_i h
     have h := of_decide_eq_true h
     simp only
     rw [countL_app, ih]; omega
   · simp only
     rw [countL_app, ih, List.length_append, List.length_singleton]; omega
theorem countL_cls (j : Nat) : countL (clsI ts ns j) = clsN ts ns j := by
 obtain ⟨κ, _, g, h1, h2⟩ := clsI_can (ts := ts) (ns := ns) j
 rw [h1, h2]; exact countL_div _ _
def countF (ts : List (List Int)) (ns : List NodeD) : Int := countL (clsF ts ns)
theorem clsF_len : (clsF ts ns).length = ns.length := clsI_len _
theorem clsF_rng {k : Nat} (hk : k < ns.length) : 0 ≤ (clsF ts ns).getD k 0 ∧ (clsF ts ns).getD k 0 < countF ts ns := by
 unfold countF clsF
 rw [countL_cls]; exact clsI_rng _ hk
theorem countF_le : 0 ≤ countF ts ns ∧ countF ts ns ≤ ns.length := by
 unfold countF clsF
 rw [countL_cls]
 have := clsN_le (ts := ts) (ns := ns) ns.length
 omega
theorem clsF_fix : canon (phi ts ns (clsF ts ns)) ns.length = clsF ts ns := by
 have : ∃ j, j ≤ ns.length ∧ clsI ts ns (j + 1) = clsI ts ns j := by
  apply Classical.byContradiction
  intro hc
  have h := clsN_grow (ts := ts) (ns := ns) (ns.length + 1) fun i hi e => hc ⟨i, by omega, e⟩
  have := clsN_le (ts := ts) (ns := ns) (ns.length + 1)
  omega
 obtain ⟨j, h1, h2⟩ := this
 rw [clsF_at h1 h2]
 exact h2
end
end Go.Proofs.YtflaacndokbddaaGreat
namespace Go.Proofs.YtflaacndokbddaaGreat
open Go.RowKit
def tabIx (ts : List (List Int)) (n : NodeD) : Prop := n.1 = 13 → 0 ≤ n.2.1 ∧ n.2.1 < ts.length
def insIx (m : Nat) (n : NodeD) : Prop := n.2.2.2.length ≤ 3 ∧ idxs m n.2.2.2 = true ∧ (swapB n = true → n.2.2.2.length = 2)
def uOk (ts : List (List Int)) (ns : List NodeD) : Prop := ns.length ≤ 48 ∧ ∀ n ∈ ns, tabIx ts n ∧ insIx ns.length n
theorem node_len {p : PatchD} {n : NodeD} (q : nodeB n p.2.1.length = true) : n.2.2.2.length ≤ 3 ∧ (swapB n = true → n.2.2.2.length = 2) ∧ (n.1 = 13 → 0 ≤ n.2.1 ∧ n.2.1 < p.2.1.length) := by
 obtain ⟨kd, a, b, fr⟩ := n
 obtain ⟨h1, h2, _⟩ := nodeB_parts q
 obtain ⟨_, _, _, _, _, h13, _, h3, h4, h5, h6⟩ := nodeB_ab q
 simp only at h1 h2 h13 ⊢
 refine ⟨?_, fun hs => ?_, fun e => ⟨(h13 e).1, (h13 e).2.2⟩⟩
 · have e3 : (kd = 3 ∨ kd = 4 ∨ kd = 9 ∨ kd = 16) ∨ (kd = 5 ∨ kd = 6 ∨ kd = 7 ∨ kd = 8 ∨ kd = 10 ∨ kd = 11 ∨ kd = 12 ∨ kd = 13 ∨ kd = 17) ∨ kd = 15 ∨ (kd = 1 ∨ kd = 2 ∨ kd = 14) := by omega
   rcases e3 with e | e | e | e
   · have := h3 e; omega
   · have := h4 e; omega
   · have := h5 e; omega
   · have := h6 e; omega
 · simp only [swapB, Bool.or_eq_true, decide_eq_true_eq] at hs
   exact h3 (by omega)
theorem uOk_patch {p : PatchD} (h : formedB p = true) : uOk p.2.1 p.2.2.1 := by
 refine ⟨by have := (formedB_parts h).1; omega, fun n hn => ?_⟩
 obtain ⟨q1, q2, _⟩ := nodeIn_parts (List.all_eq_true.1 (formedB_parts h).2.2.2.2.2.2 n hn)
 obtain ⟨a, b, c⟩ := node_len (p := p) q1
 exact ⟨c, a, q2, b⟩
theorem unite_one {p : PatchD} (h : patchB p = true) : uniteL [p] = p.2 := by
 have h2 := unite_two (p := p) (q := p) h
 have e1 : uniteL [p, p] = uStep (uniteL [p]) p := rfl
 have hs := (patchB_parts h).1
 have e0 : uniteL [p] = uStep ([], [], []) p := rfl
 have hF := formedB_parts hs
 have hn : p.2.2.1.map (shiftN 0 0) = p.2.2.1 := map_same fun n hn => by
  obtain ⟨q1, q2, _⟩ := nodeIn_parts (List.all_eq_true.1 hF.2.2.2.2.2.2 n hn)
  obtain ⟨_, _, c⟩ := node_len (p := p) q1
  obtain ⟨kd, a, b, fr⟩ := n
  have e2 : fr.map (plus 0) = fr := map_same fun f hf => plus_zero (by have := idxs_at q2 hf; omega)
  unfold shiftN
  simp only [e2]
  by_cases e : kd = 13
  · rw [decide_eq_true e]; simp only
    have := c e
    have := (tabsB_parts hF.2.2.1).1
    simp only at *
    rw [plus_zero (by omega)]
  · rw [decide_eq_false e]
 have ho : p.2.2.2.map (plus 0) = p.2.2.2 := map_same fun f hf => plus_zero (by have := idxs_at hF.2.2.2.2.2.1 hf; omega)
 rw [e0]
 unfold uStep
 simp only [List.nil_append, List.length_nil, Int.natCast_zero, Int.ofNat_zero, hn, ho]
 first | done | (simp only [show ((0 : Nat) : Int) = 0 from rfl, hn, ho])
theorem smallPs_one {p : PatchD} (h : patchB p = true) : smallPs [p] := ⟨by simp, fun q hq => by rw [List.mem_singleton.1 hq]; exact smallP_of h⟩
theorem shift_in {x : NodeD} {a b m t : Nat} (hx : x.2.2.2.length ≤ 3) (hi : idxs m x.2.2.2 = true) (ha : a ≤ 24) (hm : m ≤ 24) (hb : b ≤ 4) (ht : t ≤ 4) (h13 : x.1 = 13 → 0 ≤ x.2.1 ∧ x.2.1 < t) (hs : swapB x = true → x.2.2.2.length = 2) {ts : List (List Int)} (hts : ts.length = b + t) :
 tabIx ts (shiftN a b x) ∧ insIx (a + m) (shiftN a b x) := by
 obtain ⟨kd, A, B, fr⟩ := x
 refine ⟨fun e => ?_, by simpa [shiftN] using hx, List.all_eq_true.2 fun f hf => ?_, fun h => by simpa [shiftN] using hs h⟩
 · have e : kd = 13 := e
   have := h13 e
   simp only at this
   simp only [shiftN, e, decide_true, plus]
   rw [wrapI (by omega)]
   omega
 · simp only [shiftN, List.mem_map] at hf
   obtain ⟨g, hg, rfl⟩ := hf
   have := idxs_at hi hg
   unfold plus
   rw [wrapI (by omega)]
   exact inR_t (by omega) (by omega)
theorem uOk_two {p q : PatchD} (hp : patchB p = true) (hq : patchB q = true) : uOk (l12U p q).2.1 (l12U p q).2.2.1 := by
 have Fp := formedB_parts (patchB_parts hp).1
 have Fq := formedB_parts (patchB_parts hq).1
 have tp := (tabsB_parts Fp.2.2.1).1
 have tq := (tabsB_parts Fq.2.2.1).1
 have np := Fp.1
 have nq := Fq.1
 have hl : (l12U p q).2.2.1.length = p.2.2.1.length + q.2.2.1.length := by simp [l12U]
 refine ⟨by rw [hl]; omega, fun n hn => ?_⟩
 rw [hl]
 simp only [l12U, List.mem_append, List.mem_map] at hn
 rcases hn with hn | ⟨x, hx, rfl⟩
 · obtain ⟨q1, q2, _⟩ := nodeIn_parts (List.all_eq_true.1 Fp.2.2.2.2.2.2 n hn)
   obtain ⟨a, b, c⟩ := node_len (p := p) q1
   refine ⟨fun e => ?_, a, List.all_eq_true.2 fun f hf => ?_, b⟩
   · have := c e; simp only [l12U, List.length_append]; omega
   · have := idxs_at q2 hf; exact inR_t (by omega) (by omega)
 · obtain ⟨q1, q2, _⟩ := nodeIn_parts (List.all_eq_true.1 Fq.2.2.2.2.2.2 x hx)
   obtain ⟨a, b, c⟩ := node_len (p := q) q1
   exact shift_in a q2 np nq tp tq c b (by simp [l12U])
def bub (l : List Int) : Nat → List Int
 | 0 => l
 | j + 1 => match decide (l.getD (j + 1) 0 < l.getD j 0) with
   | true => bub ((l.set (j + 1) (l.getD j 0)).set j (l.getD (j + 1) 0)) j
   | false => l
theorem bub_t {l : List Int} {j : Nat} (h : l.getD (j + 1) 0 < l.getD j 0) : bub l (j + 1) = bub ((l.set (j + 1) (l.getD j 0)).set j (l.getD (j + 1) 0)) j := by
 show (match decide (l.getD (j + 1) 0 < l.getD j 0) with | true => _ | false => _) = _
 rw [decide_eq_true h]
theorem bub_f {l : List Int} {j : Nat} (h : ¬ l.getD (j + 1) 0 < l.getD j 0) : bub l (j + 1) = l := by
 show (match decide (l.getD (j + 1) 0 < l.getD j 0) with | true => _ | false => _) = _
 rw [decide_eq_false h]
def insI (xs : List Int) : Nat → List Int
 | 0 => xs
 | s + 1 => bub (insI xs s) (s + 1)
theorem bub_len : ∀ (j : Nat) (l : List Int), (bub l j).length = l.length := by
 intro j
 induction j with
 | zero => intro l; rfl
 | succ j ih =>
   intro l
   by_cases h : l.getD (j + 1) 0 < l.getD j 0
   · rw [bub_t h, ih]; simp
   · rw [bub_f h]
theorem insI_len (xs : List Int) : ∀ s, (insI xs s).length = xs.length := by
 intro s
 induction s with
 | zero => rfl
 | succ s ih => show (bub (insI xs s) (s + 1)).length = _; rw [bub_len, ih]
theorem insI_two {xs : List Int} (h : xs.length = 2) : insI xs (xs.length - 1) = srt xs := by
 match xs, h with
 | [a, b], _ =>
   show bub [a, b] 1 = srt [a, b]
   by_cases c : b < a
   · rw [bub_t (j := 0) (by simpa using c)]; simp [srt, c, bub]
   · rw [bub_f (j := 0) (by simpa using c)]; simp [srt, c]
def idxZ (E : Int → Bool) : List Int → Nat
 | [] => 0
 | x :: l => match E x with | true => 0 | false => idxZ E l + 1
theorem idxZ_spec (E : Int → Bool) : ∀ l : List Int, idxZ E l ≤ l.length ∧ (∀ j, j < idxZ E l → E (l.getD j 0) = false) ∧ (idxZ E l < l.length → E (l.getD (idxZ E l) 0) = true) := by
 intro l
 induction l with
 | nil => exact ⟨Nat.le_refl _, fun j hj => absurd hj (Nat.not_lt_zero _), fun h => absurd h (Nat.lt_irrefl _)⟩
 | cons k l ih =>
   unfold idxZ
   cases e : E k with
   | true => exact ⟨by simp, fun j hj => absurd hj (Nat.not_lt_zero _), fun _ => by simpa using e⟩
   | false =>
     simp only [List.length_cons]
     refine ⟨by omega, fun j hj => ?_, fun hl => ?_⟩
     · cases j with
       | zero => simpa using e
       | succ j => simpa using ih.2.1 j (by omega)
     · simpa using ih.2.2 (by omega)
def idxR (E : Int → Bool) (l : List Int) : Int := match decide (idxZ E l < l.length) with | true => (idxZ E l : Int) | false => -1
theorem idxR_hit {E : Int → Bool} {l : List Int} {j : Nat} (hj : j < l.length) (h1 : ∀ q, q < j → E (l.getD q 0) = false) (h2 : E (l.getD j 0) = true) : idxR E l = j := by
 obtain ⟨g1, g2, g3⟩ := idxZ_spec E l
 have e : idxZ E l = j := by
  rcases Nat.lt_trichotomy (idxZ E l) j with h | h | h
  · have := h1 _ h; rw [g3 (by omega)] at this; cases this
  · exact h
  · have := g2 _ h; rw [h2] at this; cases this
 unfold idxR; rw [e, decide_eq_true hj]
theorem idxR_none {E : Int → Bool} {l : List Int} {j : Nat} (hj : l.length ≤ j) (h1 : ∀ q, q < j → E (l.getD q 0) = false) : idxR E l = -1 := by
 obtain ⟨g1, g2, g3⟩ := idxZ_spec E l
 unfold idxR
 rw [decide_eq_false]
 intro h
 have := h1 _ (Nat.lt_of_lt_of_le h hj); rw [g3 h] at this; cases this
theorem idxZ_map {E : Nat → Nat → Bool} {i : Nat} : ∀ fs : List Nat, idxZ (fun k => E k.toNat i) (fs.map fun (n : Nat) => (n : Int)) = idxF E i fs := by
 intro fs
 induction fs with
 | nil => rfl
 | cons k l ih =>
   simp only [List.map_cons, idxZ, idxF, Int.toNat_natCast]
   cases E k i with
   | true => rfl
   | false => simp only []; rw [ih]
def firstZ (E : Nat → Nat → Bool) (i : Nat) : List Int := (divC E i).2.map fun (n : Nat) => (n : Int)
def foundZ (E : Nat → Nat → Bool) (i : Nat) : Int := idxR (fun k => E k.toNat i) (firstZ E i)
def outZ (E : Nat → Nat → Bool) (n i : Nat) : List Int := (divC E i).1 ++ List.replicate (n - i) 0
section
variable {E : Nat → Nat → Bool} {n i : Nat}
theorem firstZ_len : (firstZ E i).length = (divC E i).2.length := by simp [firstZ]
theorem foundZ_eq : foundZ E i = match decide (idxF E i (divC E i).2 < (divC E i).2.length) with | true => (idxF E i (divC E i).2 : Int) | false => -1 := by
 unfold foundZ idxR; rw [show idxZ (fun k => E k.toNat i) (firstZ E i) = idxF E i (divC E i).2 from idxZ_map _, firstZ_len]
theorem div_hit (h : 0 ≤ foundZ E i) : (divC E (i + 1)).1 = (divC E i).1 ++ [foundZ E i] ∧ firstZ E (i + 1) = firstZ E i := by
 have e := foundZ_eq (E := E) (i := i)
 simp only [divC, firstZ]
 cases c : decide (idxF E i (divC E i).2 < (divC E i).2.length) with
 | true => rw [c] at e; rw [e]; exact ⟨rfl, rfl⟩
 | false => rw [c] at e; rw [e] at h; simp at h
theorem div_new (h : foundZ E i < 0) : (divC E (i + 1)).1 = (divC E i).1 ++ [((firstZ E i).length : Int)] ∧ firstZ E (i + 1) = firstZ E i ++ [(i : Int)] := by
 have e := foundZ_eq (E := E) (i := i)
 rw [firstZ_len]
 simp only [divC, firstZ]
 cases c : decide (idxF E i (divC E i).2 < (divC E i).2.length) with
 | true => rw [c] at e; rw [e] at h; simp at h; omega
 | false => exact ⟨rfl, by simp⟩
theorem outZ_len (h1 : (divC E i).1.length = i) (hi : i ≤ n) : (outZ E n i).length = n := by simp [outZ, h1]; omega
theorem outZ_set {c : Int} (h1 : (divC E i).1.length = i) (hi : i < n) (hc : (divC E (i + 1)).1 = (divC E i).1 ++ [c]) : (outZ E n i).set i c = outZ E n (i + 1) := by
 unfold outZ
 rw [hc, List.set_append_right _ _ (by omega), h1, Nat.sub_self, show n - i = (n - (i + 1)) + 1 by omega, List.replicate_succ, List.set_cons_zero, List.append_assoc]
 rfl
theorem outZ_all (hi : n ≤ i) : outZ E n i = (divC E i).1 := by unfold outZ; rw [show n - i = 0 by omega]; simp
theorem specC_none (h : ∀ q, q < i → E q i = false) : specC E (i + 1) = ((specC E i).1 ++ [(specC E i).2], (specC E i).2 + 1) := by
 have : (List.range i).find? (fun k => E k i) = none := List.find?_eq_none.2 fun q hq => by rw [h q (List.mem_range.1 hq)]; simp
 simp only [specC, this]
theorem specC_hit {k : Nat} (hk : k < i) (h0 : ∀ q, q < k → E q i = false) (h1 : E k i = true) : specC E (i + 1) = ((specC E i).1 ++ [(specC E i).1.getD k 0], (specC E i).2) := by
 have : (List.range i).find? (fun k => E k i) = some k := by
  cases e : (List.range i).find? (fun k => E k i) with
  | none => have := List.find?_eq_none.1 e k (List.mem_range.2 hk); rw [h1] at this; simp at this
  | some q =>
    have e1 : E q i = true := by simpa using List.find?_some e
    rcases Nat.lt_trichotomy q k with h | h | h
    · rw [h0 q h] at e1; cases e1
    · rw [h]
    · exfalso
      have := List.find?_range_eq_some.1 e
      have := this.2.2 k h
      rw [h1] at this; simp at this
 simp only [specC, this]
end
def okp (ts : List (List Int)) (ns : List NodeD) (cl : List Int) (i k : Nat) : Bool := !decide (cl.getD i 0 = cl.getD k 0) || alikeB ts cl (ns.getD i n0) (ns.getD k n0)
def checkB (p : PatchD) (cl : List Int) : Bool := patchB p && (decide (cl.length = p.2.2.1.length) && (idxs 24 cl && (List.range cl.length).all fun i => (List.range cl.length).all fun k => okp p.2.1 p.2.2.1 cl i k))
theorem alikeB_symm {ts : List (List Int)} {cl : List Int} {a b : NodeD} : alikeB ts cl a b = alikeB ts cl b a := by
 unfold alikeB keyB eqD
 rw [← Bool.decide_and, ← Bool.decide_and]
 exact decide_eq_decide.2 ⟨fun h => ⟨h.1.symm, h.2.symm⟩, fun h => ⟨h.1.symm, h.2.symm⟩⟩
theorem alikeB_rfl {ts : List (List Int)} {cl : List Int} {a : NodeD} : alikeB ts cl a a = true := by simp [alikeB, keyB, eqD]
theorem okp_symm {ts : List (List Int)} {ns : List NodeD} {cl : List Int} {i k : Nat} : okp ts ns cl i k = okp ts ns cl k i := by
 unfold okp; rw [alikeB_symm, show decide (cl.getD i 0 = cl.getD k 0) = decide (cl.getD k 0 = cl.getD i 0) from decide_eq_decide.2 eq_comm]
theorem okp_rfl {ts : List (List Int)} {ns : List NodeD} {cl : List Int} {i : Nat} : okp ts ns cl i i = true := by unfold okp; rw [alikeB_rfl, Bool.or_true]
section
variable {p : PatchD} {cl : List Int}
theorem checkB_f1 (h : patchB p = false) : checkB p cl = false := by unfold checkB; rw [h, Bool.false_and]
theorem checkB_f2 (h : ¬ cl.length = p.2.2.1.length) : checkB p cl = false := by unfold checkB; rw [decide_eq_false h, Bool.false_and, Bool.and_false]
theorem checkB_f3 (h : idxs 24 cl = false) : checkB p cl = false := by unfold checkB; rw [h, Bool.false_and, Bool.and_false, Bool.and_false]
theorem checkB_f4 {i k : Nat} (hi : i < cl.length) (hk : k < cl.length) (h : okp p.2.1 p.2.2.1 cl i k = false) : checkB p cl = false := by
 cases e : checkB p cl with
 | false => rfl
 | true =>
   simp only [checkB, Bool.and_eq_true] at e
   have := List.all_eq_true.1 (List.all_eq_true.1 e.2.2.2 i (List.mem_range.2 hi)) k (List.mem_range.2 hk)
   rw [h] at this; cases this
theorem checkB_t (h1 : patchB p = true) (h2 : cl.length = p.2.2.1.length) (h3 : idxs 24 cl = true) (h : ∀ i k, i < cl.length → k < cl.length → okp p.2.1 p.2.2.1 cl i k = true) : checkB p cl = true := by
 unfold checkB
 rw [h1, decide_eq_true h2, h3, Bool.true_and, Bool.true_and, Bool.true_and]
 exact List.all_eq_true.2 fun i hi => List.all_eq_true.2 fun k hk => h i k (List.mem_range.1 hi) (List.mem_range.1 hk)
end
def smallL (xs : List Int) : Bool := xs.all fun x => inR x 0 1000
theorem countL_next {xs : List Int} {k : Nat} (hk : k < xs.length) : countL (xs.take (k + 1)) = if countL (xs.take k) < xs.getD k 0 + 1 then xs.getD k 0 + 1 else countL (xs.take k) := by
 rw [take_next (d := (0 : Int)) hk, countL_app]; split <;> omega
theorem smallL_cls {ts : List (List Int)} {ns : List NodeD} (h : ns.length ≤ 48) : smallL (clsF ts ns) = true := List.all_eq_true.2 fun x hx => by
 obtain ⟨i, hi, rfl⟩ := List.mem_iff_getElem.1 hx
 rw [clsF_len] at hi
 have h1 := clsF_rng (ts := ts) hi
 have h2 := countF_le (ts := ts) (ns := ns)
 rw [List.getD_eq_getElem?_getD, List.getElem?_eq_getElem (by rw [clsF_len]; exact hi)] at h1
 simp only [Option.getD_some] at h1
 exact inR_t (by omega) (by omega)
def outCl (p q : PatchD) : List Int := (l12U p q).2.2.2.map fun z => (clsF (l12U p q).2.1 (l12U p q).2.2.1).getD z.toNat 0
def sameR (p q : PatchD) : Bool × Int := match decide (ask2 p q = 0) with
 | true => (eqD ((outCl p q).take p.2.2.2.length) ((outCl p q).drop p.2.2.2.length), 0)
 | false => (false, ask2 p q)
theorem sameR_t {p q : PatchD} (h : ask2 p q = 0) : sameR p q = (eqD ((outCl p q).take p.2.2.2.length) ((outCl p q).drop p.2.2.2.length), 0) := by unfold sameR; rw [decide_eq_true h]
theorem sameR_f {p q : PatchD} (h : ¬ ask2 p q = 0) : sameR p q = (false, ask2 p q) := by unfold sameR; rw [decide_eq_false h]
theorem outCl_len (p q : PatchD) : (outCl p q).length = p.2.2.2.length + q.2.2.2.length := by simp [outCl, l12U]
theorem outs_two {p q : PatchD} (hp : patchB p = true) (hq : patchB q = true) : idxs (l12U p q).2.2.1.length (l12U p q).2.2.2 = true := by
 have Fp := formedB_parts (patchB_parts hp).1
 have Fq := formedB_parts (patchB_parts hq).1
 have hl : (l12U p q).2.2.1.length = p.2.2.1.length + q.2.2.1.length := by simp [l12U]
 rw [hl]
 refine List.all_eq_true.2 fun f hf => ?_
 simp only [l12U, List.mem_append, List.mem_map] at hf
 have := Fp.1
 have := Fq.1
 rcases hf with hf | ⟨g, hg, rfl⟩
 · have := idxs_at Fp.2.2.2.2.2.1 hf; exact inR_t (by omega) (by omega)
 · have := idxs_at Fq.2.2.2.2.2.1 hg
   unfold plus
   rw [wrapI (by omega)]
   exact inR_t (by omega) (by omega)
def clsR (p : PatchD) : List Int × Int := match patchB p with | true => (clsF p.2.1 p.2.2.1, 0) | false => ([], 1)
theorem clsR_t {p : PatchD} (h : patchB p = true) : clsR p = (clsF p.2.1 p.2.2.1, 0) := by unfold clsR; rw [h]
theorem clsR_f {p : PatchD} (h : patchB p = false) : clsR p = ([], 1) := by unfold clsR; rw [h]
theorem clsR_bd (p : PatchD) : (clsR p).1.length ≤ 1000000 := by
 unfold clsR
 split
 · rename_i h; have := (formedB_parts (patchB_parts h).1).1; simp only [clsF_len]; omega
 · simp
def cntR (p : PatchD) : Int × Int := match patchB p with | true => (countF p.2.1 p.2.2.1, 0) | false => (0, 1)
theorem cntR_t {p : PatchD} (h : patchB p = true) : cntR p = (countF p.2.1 p.2.2.1, 0) := by unfold cntR; rw [h]
theorem cntR_f {p : PatchD} (h : patchB p = false) : cntR p = (0, 1) := by unfold cntR; rw [h]
def redB (p : PatchD) : Bool := patchB p && decide (countF p.2.1 p.2.2.1 = (p.2.2.1.length : Int))
end Go.Proofs.YtflaacndokbddaaGreat
namespace Go.Proofs.YtflaacndokbddaaGreat
open Go.RowKit
def idxV (c : Int) (l : List Int) : Int := idxR (fun x => decide (x = c)) l
def matchL (cl : List Int) (n : Nat) : List Int := (cl.take n).map fun c => idxV c (cl.drop n)
def matchR (p q : PatchD) : List Int × Int := match decide (ask2 p q = 0) with
 | true => (matchL (clsF (l12U p q).2.1 (l12U p q).2.2.1) p.2.2.1.length, 0)
 | false => ([], ask2 p q)
theorem matchR_t {p q : PatchD} (h : ask2 p q = 0) : matchR p q = (matchL (clsF (l12U p q).2.1 (l12U p q).2.2.1) p.2.2.1.length, 0) := by unfold matchR; rw [decide_eq_true h]
theorem matchR_f {p q : PatchD} (h : ¬ ask2 p q = 0) : matchR p q = ([], ask2 p q) := by unfold matchR; rw [decide_eq_false h]
theorem matchR_bd (p q : PatchD) : (matchR p q).1.length ≤ 1000000 := by
 unfold matchR
 split
 · rename_i h
   have := (formedB_parts (patchB_parts (ask2_ok (of_decide_eq_true h)).1).1).1
   simp only [matchL, List.length_map, List.length_take]; omega
 · simp
theorem matchL_len {cl : List Int} {n : Nat} (hn : n ≤ cl.length) : (matchL cl n).length = n := by simp only [matchL, List.length_map, List.length_take]; omega
theorem match_next {cl : List Int} {n k : Nat} (hn : n ≤ cl.length) (hk : k < n) : (matchL cl n).take (k + 1) = (matchL cl n).take k ++ [idxV ((cl.take n).getD k 0) (cl.drop n)] := by
 have hl := matchL_len hn
 have ht : k < (cl.take n).length := by rw [List.length_take]; omega
 rw [take_next (d := (0 : Int)) (by omega)]
 have : (matchL cl n).getD k 0 = idxV ((cl.take n).getD k 0) (cl.drop n) := by
  unfold matchL
  rw [List.getD_eq_getElem?_getD, List.getD_eq_getElem?_getD, List.getElem?_map, List.getElem?_eq_getElem ht]
  rfl
 rw [this]
theorem match_take {cl : List Int} {n k : Nat} (hk : k < n) : (cl.take n).getD k 0 = cl.getD k 0 := by simp [List.getD, hk]
theorem match_drop {cl : List Int} {n k : Nat} : (cl.drop n).getD k 0 = cl.getD (n + k) 0 := by simp [List.getD, List.getElem?_drop]
abbrev clsE (p : PatchD) : Nat → Nat → Bool := byKey (phi p.2.1 p.2.2.1 (clsF p.2.1 p.2.2.1))
def mrgX (cl : List Int) (n : NodeD) : NodeD := (n.1, n.2.1, n.2.2.1, clsM cl n.2.2.2)
def mrgN (p : PatchD) (i : Nat) : List NodeD := (divC (clsE p) i).2.map fun f => mrgX (clsF p.2.1 p.2.2.1) (p.2.2.1.getD f n0)
def mergeP (p : PatchD) : PatchD := (p.1, p.2.1, mrgN p p.2.2.1.length, clsM (clsF p.2.1 p.2.2.1) p.2.2.2)
def mergeR (p : PatchD) : PatchD × Int := match patchB p with | true => (mergeP p, 0) | false => ((0, [], [], []), 1)
theorem mergeR_t {p : PatchD} (h : patchB p = true) : mergeR p = (mergeP p, 0) := by unfold mergeR; rw [h]
theorem mergeR_f {p : PatchD} (h : patchB p = false) : mergeR p = ((0, [], [], []), 1) := by unfold mergeR; rw [h]
theorem clsE_all (p : PatchD) : (divC (clsE p) p.2.2.1.length).1 = clsF p.2.1 p.2.2.1 := clsF_fix
theorem divC_pre (E : Nat → Nat → Bool) (i : Nat) : ∀ k, ∃ t, (divC E (i + k)).1 = (divC E i).1 ++ t := by
 intro k
 induction k with
 | zero => exact ⟨[], by simp⟩
 | succ k ih =>
   obtain ⟨t, ht⟩ := ih
   rw [← Nat.add_assoc]
   simp only [divC]
   split
   · exact ⟨t ++ [_], by simp only; rw [ht, List.append_assoc]⟩
   · exact ⟨t ++ [_], by simp only; rw [ht, List.append_assoc]⟩
theorem divC_pre2 (E : Nat → Nat → Bool) (i : Nat) : ∀ k, ∃ t, (divC E (i + k)).2 = (divC E i).2 ++ t := by
 intro k
 induction k with
 | zero => exact ⟨[], by simp⟩
 | succ k ih =>
   obtain ⟨t, ht⟩ := ih
   rw [← Nat.add_assoc]
   simp only [divC]
   split
   · exact ⟨t, by simp only; rw [ht]⟩
   · exact ⟨t ++ [_], by simp only; rw [ht, List.append_assoc]⟩
theorem cls_at {p : PatchD} {i : Nat} (hi : i < p.2.2.1.length) : (clsF p.2.1 p.2.2.1).getD i 0 = (divC (clsE p) (i + 1)).1.getD i 0 := by
 obtain ⟨t, ht⟩ := divC_pre (clsE p) (i + 1) (p.2.2.1.length - (i + 1))
 rw [show i + 1 + (p.2.2.1.length - (i + 1)) = p.2.2.1.length by omega, clsE_all] at ht
 have hl : (divC (clsE p) (i + 1)).1.length = i + 1 := (divC_ok byKey_rfl (i + 1)).len
 rw [ht, List.getD_eq_getElem?_getD, List.getD_eq_getElem?_getD, List.getElem?_append_left (by omega)]
theorem mrg_new {p : PatchD} {i : Nat} (hi : i < p.2.2.1.length) (h : (clsF p.2.1 p.2.2.1).getD i 0 = ((mrgN p i).length : Int)) : mrgN p (i + 1) = mrgN p i ++ [mrgX (clsF p.2.1 p.2.2.1) (p.2.2.1.getD i n0)] := by
 rw [cls_at hi] at h
 have hl : (divC (clsE p) i).1.length = i := (divC_ok byKey_rfl i).len
 unfold mrgN at h ⊢
 simp only [List.length_map] at h
 simp only [divC] at h ⊢
 cases c : decide (idxF (clsE p) i (divC (clsE p) i).2 < (divC (clsE p) i).2.length) with
 | true =>
   rw [c] at h
   simp only at h
   rw [getD_app2 hl.symm] at h
   have := of_decide_eq_true c
   omega
 | false => simp
theorem mrg_old {p : PatchD} {i : Nat} (hi : i < p.2.2.1.length) (h : ¬ (clsF p.2.1 p.2.2.1).getD i 0 = ((mrgN p i).length : Int)) : mrgN p (i + 1) = mrgN p i := by
 rw [cls_at hi] at h
 have hl : (divC (clsE p) i).1.length = i := (divC_ok byKey_rfl i).len
 unfold mrgN at h ⊢
 simp only [List.length_map] at h
 simp only [divC] at h ⊢
 cases c : decide (idxF (clsE p) i (divC (clsE p) i).2 < (divC (clsE p) i).2.length) with
 | true => simp
 | false =>
   rw [c] at h
   simp only at h
   rw [getD_app2 hl.symm] at h
   exact absurd rfl h
theorem mrgN_len (p : PatchD) (i : Nat) : (mrgN p i).length ≤ i := by unfold mrgN; rw [List.length_map]; exact canonN_le _ i
theorem mrg_ct (p : PatchD) : ctP (0, (mergeR p).1.2.1, (mergeR p).1.2.2.1, (mergeR p).1.2.2.2) ≤ 1000000 := by
 unfold mergeR
 split
 · rename_i h
   have hF := formedB_parts (patchB_parts h).1
   have ht := tabsB_parts hF.2.2.1
   refine smallP_ct (a := 4) (b := 24) (c := 4) ht.1 (fun l hl => by have := (ht.2 l hl).1; omega) (Nat.le_trans (mrgN_len p _) hF.1) (fun x hx => ?_) (by simp only [mergeP, clsM, List.length_map]; exact hF.2.1) (by omega)
   simp only [mergeP, mrgN, List.mem_map] at hx
   obtain ⟨f, hf, rfl⟩ := hx
   simp only [mrgX, clsM, List.length_map]
   by_cases hlt : f < p.2.2.1.length
   · have := (smallP_of h).2.2.2.1 _ (getD_mem (d := n0) hlt); exact this
   · rw [List.getD_eq_getElem?_getD, List.getElem?_eq_none (by omega)]; simp [n0]
 · exact smallP_ct (a := 0) (b := 0) (c := 0) (by simp) (fun _ h => by cases h) (by simp) (fun _ h => by cases h) (by simp) (by omega)
def keepD (cl : List Int) (m : Nat) : Nat → List Int
 | 0 => List.replicate m 0
 | k + 1 => (keepD cl m k).set (cl.getD (cl.length - 1 - k) 0).toNat ((cl.length - 1 - k : Nat) : Int)
theorem keepD_len (cl : List Int) (m : Nat) : ∀ k, (keepD cl m k).length = m := by
 intro k
 induction k with
 | zero => simp [keepD]
 | succ k ih => simp [keepD, ih]
theorem keepD_at {cl : List Int} {m : Nat} (hr : ∀ i, i < cl.length → 0 ≤ cl.getD i 0 ∧ cl.getD i 0 < m) : ∀ k, k ≤ cl.length → ∀ c i : Nat, c < m → cl.length - k ≤ i → i < cl.length → cl.getD i 0 = (c : Int) → (∀ j, cl.length - k ≤ j → j < i → cl.getD j 0 ≠ (c : Int)) → (keepD cl m k).getD c 0 = (i : Int) := by
 intro k
 induction k with
 | zero => intro _ c i _ h1 h2; omega
 | succ k ih =>
   intro hk c i hc h1 h2 he hno
   have hl := keepD_len cl m k
   have hq := hr (cl.length - 1 - k) (by omega)
   simp only [keepD]
   rw [getD_set (by omega)]
   by_cases e : (cl.getD (cl.length - 1 - k) 0).toNat = c
   · rw [if_pos e]
     have : cl.length - 1 - k = i := by
      rcases Nat.lt_or_ge (cl.length - 1 - k) i with h | h
      · exact absurd (by omega) (hno (cl.length - 1 - k) (by omega) h)
      · omega
     rw [this]
   · rw [if_neg e]
     refine ih (by omega) c i hc ?_ h2 he fun j hj1 hj2 => hno j (by omega) hj2
     rcases Nat.lt_or_ge i (cl.length - k) with h | h
     · have : cl.length - 1 - k = i := by omega
       rw [this] at e; omega
     · exact h
theorem keepD_first {p : PatchD} {c : Nat} (hc : c < (divC (clsE p) p.2.2.1.length).2.length) : (keepD (clsF p.2.1 p.2.2.1) (divC (clsE p) p.2.2.1.length).2.length p.2.2.1.length).getD c 0 = (((divC (clsE p) p.2.2.1.length).2.getD c 0 : Nat) : Int) := by
 have hok := divC_ok (E := clsE p) byKey_rfl p.2.2.1.length
 have hcl : (clsF p.2.1 p.2.2.1).length = p.2.2.1.length := clsF_len
 have hlt := hok.lt c hc
 have hval : ∀ i, i < p.2.2.1.length → ∃ q : Nat, (clsF p.2.1 p.2.2.1).getD i 0 = (q : Int) ∧ q < (divC (clsE p) p.2.2.1.length).2.length ∧ clsE p ((divC (clsE p) p.2.2.1.length).2.getD q 0) i = true := fun i hi => by
  rw [← clsE_all]; exact hok.at_ i hi
 have hown : (clsF p.2.1 p.2.2.1).getD ((divC (clsE p) p.2.2.1.length).2.getD c 0) 0 = (c : Int) := by
  obtain ⟨q, q1, q2, q3⟩ := hval _ hlt
  rw [q1, hok.uniq byKey_sym byKey_tr q2 hc q3 (byKey_rfl _)]
 have hk := keepD_at (cl := clsF p.2.1 p.2.2.1) (m := (divC (clsE p) p.2.2.1.length).2.length) (fun i hi => by
  obtain ⟨q, q1, q2, _⟩ := hval i (by omega); rw [q1]; omega) p.2.2.1.length (by omega) c _ hc (by omega) (by omega) hown (fun j hj1 hj2 e => by
   -- no earlier node of this class
   have hj : j < p.2.2.1.length := by omega
   have hpre := cls_at (p := p) hj
   have hd := divC_ok (E := clsE p) byKey_rfl (j + 1)
   obtain ⟨q, q1, q2, q3⟩ := hd.at_ j (by omega)
   rw [hpre, q1] at e
   have hqc : q = c := by omega
   subst hqc
   obtain ⟨t, ht⟩ := divC_pre2 (clsE p) (j + 1) (p.2.2.1.length - (j + 1))
   rw [show j + 1 + (p.2.2.1.length - (j + 1)) = p.2.2.1.length by omega] at ht
   have h9 := hd.lt q q2
   rw [ht, List.getD_eq_getElem?_getD, List.getElem?_append_left q2, ← List.getD_eq_getElem?_getD] at hj2
   omega)
 exact hk
end Go.Proofs.YtflaacndokbddaaGreat
namespace Go.Proofs.YtflaacndokbddaaGreat
open Go.RowKit
def byL (n : Nat) (kp : List Int) : Nat → List Int
 | 0 => List.replicate n 0
 | k + 1 => (byL n kp k).set (kp.getD k 0).toNat (k : Int)
theorem byL_len (n : Nat) (kp : List Int) : ∀ k, (byL n kp k).length = n := by
 intro k
 induction k with
 | zero => simp [byL]
 | succ k ih => simp [byL, ih]
theorem byL_at {n : Nat} {kp : List Int} (hr : ∀ j, j < kp.length → 0 ≤ kp.getD j 0 ∧ kp.getD j 0 < n) (hd : ∀ i j, i < kp.length → j < kp.length → kp.getD i 0 = kp.getD j 0 → i = j) : ∀ k, k ≤ kp.length → ∀ j, j < k → (byL n kp k).getD (kp.getD j 0).toNat 0 = (j : Int) := by
 intro k
 induction k with
 | zero => intro _ j hj; omega
 | succ k ih =>
   intro hk j hj
   have h1 := hr k (by omega)
   have h2 := hr j (by omega)
   have hl := byL_len n kp k
   simp only [byL]
   rw [getD_set (by omega)]
   by_cases e : (kp.getD k 0).toNat = (kp.getD j 0).toNat
   · rw [if_pos e]
     have : k = j := hd k j (by omega) (by omega) (by omega)
     rw [this]
   · rw [if_neg e]
     refine ih (by omega) j ?_
     rcases Nat.lt_or_ge j k with h | h
     · exact h
     · have : j = k := by omega
       subst this; exact absurd rfl e
def keepN (ns : List NodeD) (b : List Int) (f : Int) : NodeD := mrgX b (ns.getD f.toNat n0)
def keepP (p : PatchD) (kp : List Int) : PatchD := (p.1, p.2.1, kp.map (keepN p.2.2.1 (byL p.2.2.1.length kp kp.length)), clsM (byL p.2.2.1.length kp kp.length) p.2.2.2)
structure KeepOk (p : PatchD) (kp : List Int) : Prop where
 fits : fitsP p
 n24 : p.2.2.1.length ≤ 24
 k24 : kp.length ≤ 24
 rng : idxs p.2.2.1.length kp = true
 frs : ∀ x ∈ p.2.2.1, x.2.2.2.length ≤ 23 ∧ idxs p.2.2.1.length x.2.2.2 = true
 o4 : p.2.2.2.length ≤ 4
 outs : idxs p.2.2.1.length p.2.2.2 = true
def firstsL (p : PatchD) : List Int := keepD (clsF p.2.1 p.2.2.1) (divC (clsE p) p.2.2.1.length).2.length p.2.2.1.length
theorem firstsL_len (p : PatchD) : (firstsL p).length = (divC (clsE p) p.2.2.1.length).2.length := keepD_len _ _ _
theorem cls_lt {p : PatchD} {q : Nat} (hq : q < p.2.2.1.length) : ∃ c : Nat, (clsF p.2.1 p.2.2.1).getD q 0 = (c : Int) ∧ c < (divC (clsE p) p.2.2.1.length).2.length := by
 obtain ⟨c, c1, c2, _⟩ := (divC_ok (E := clsE p) byKey_rfl p.2.2.1.length).at_ q hq
 rw [clsE_all] at c1
 exact ⟨c, c1, c2⟩
theorem firstsL_at {p : PatchD} {c : Nat} (hc : c < (divC (clsE p) p.2.2.1.length).2.length) : (firstsL p).getD c 0 = (((divC (clsE p) p.2.2.1.length).2.getD c 0 : Nat) : Int) := keepD_first hc
theorem firstsL_rng {p : PatchD} {j : Nat} (hj : j < (firstsL p).length) : 0 ≤ (firstsL p).getD j 0 ∧ (firstsL p).getD j 0 < p.2.2.1.length := by
 rw [firstsL_len] at hj
 have := (divC_ok (E := clsE p) byKey_rfl p.2.2.1.length).lt j hj
 rw [firstsL_at hj]; omega
theorem firstsL_inj {p : PatchD} {i j : Nat} (hi : i < (firstsL p).length) (hj : j < (firstsL p).length) (e : (firstsL p).getD i 0 = (firstsL p).getD j 0) : i = j := by
 rw [firstsL_len] at hi hj
 rw [firstsL_at hi, firstsL_at hj] at e
 have e' : (divC (clsE p) p.2.2.1.length).2.getD i 0 = (divC (clsE p) p.2.2.1.length).2.getD j 0 := by omega
 exact (divC_ok (E := clsE p) byKey_rfl p.2.2.1.length).uniq byKey_sym byKey_tr hi hj (k := (divC (clsE p) p.2.2.1.length).2.getD j 0) (by rw [e']; exact byKey_rfl _) (byKey_rfl _)
theorem map_getD {f : Int → Int} {l : List Int} {q : Nat} (hq : q < l.length) : (l.map f).getD q 0 = f (l.getD q 0) := by
 rw [List.getD_eq_getElem?_getD, List.getD_eq_getElem?_getD, List.getElem?_map, List.getElem?_eq_getElem hq]; rfl
theorem two_maps {p : PatchD} {l : List Int} (hl : idxs p.2.2.1.length l = true) : clsM (byL p.2.2.1.length (firstsL p) (firstsL p).length) (clsM (clsM (firstsL p) (clsF p.2.1 p.2.2.1)) l) = clsM (clsF p.2.1 p.2.2.1) l := by
 unfold clsM
 rw [List.map_map]
 refine List.map_congr_left fun q hq => ?_
 have hb := idxs_at hl hq
 have hcl : (clsF p.2.1 p.2.2.1).length = p.2.2.1.length := clsF_len
 obtain ⟨c, c1, c2⟩ := cls_lt (p := p) (q := q.toNat) (by omega)
 simp only [Function.comp]
 rw [map_getD (by omega), c1]
 simp only [Int.toNat_natCast]
 exact byL_at (fun j hj => firstsL_rng hj) (fun i j hi hj e => firstsL_inj hi hj e) _ (Nat.le_refl _) c (by rw [firstsL_len]; exact c2)
theorem mrgX_mrgX {a b : List Int} {x : NodeD} : mrgX b (mrgX a x) = (x.1, x.2.1, x.2.2.1, clsM b (clsM a x.2.2.2)) := rfl
def movedP (p : PatchD) : PatchD := (p.1, p.2.1, p.2.2.1.map (mrgX (clsM (firstsL p) (clsF p.2.1 p.2.2.1))), clsM (clsM (firstsL p) (clsF p.2.1 p.2.2.1)) p.2.2.2)
theorem movedP_n (p : PatchD) : (movedP p).2.2.1.length = p.2.2.1.length := by simp [movedP]
theorem firsts_map {p : PatchD} {g : Nat → NodeD} {f : Int → NodeD} (h : ∀ c, c < (divC (clsE p) p.2.2.1.length).2.length → f ((firstsL p).getD c 0) = g ((divC (clsE p) p.2.2.1.length).2.getD c 0)) : (firstsL p).map f = (divC (clsE p) p.2.2.1.length).2.map g := by
 refine List.ext_getElem (by rw [List.length_map, List.length_map, firstsL_len]) fun i h1 h2 => ?_
 have hi : i < (divC (clsE p) p.2.2.1.length).2.length := by simpa using h2
 have hi' : i < (firstsL p).length := by rw [firstsL_len]; exact hi
 have := h i hi
 rw [List.getD_eq_getElem?_getD, List.getD_eq_getElem?_getD, List.getElem?_eq_getElem hi, List.getElem?_eq_getElem hi'] at this
 simp only [List.getElem_map]
 exact this
theorem keep_merge {p : PatchD} (h : patchB p = true) : keepP (movedP p) (firstsL p) = mergeP p := by
 have hF := formedB_parts (patchB_parts h).1
 have hU := uOk_patch (patchB_parts h).1
 have hn : ∀ f, f < p.2.2.1.length → idxs p.2.2.1.length (p.2.2.1.getD f n0).2.2.2 = true := fun f hf => (hU.2 _ (getD_mem (d := n0) hf)).2.2.1
 unfold keepP mergeP
 rw [movedP_n]
 have e1 : (firstsL p).map (keepN (movedP p).2.2.1 (byL p.2.2.1.length (firstsL p) (firstsL p).length)) = mrgN p p.2.2.1.length := by
  refine firsts_map fun c hc => ?_
  have hlt := (divC_ok (E := clsE p) byKey_rfl p.2.2.1.length).lt c hc
  rw [firstsL_at hc]
  unfold keepN
  rw [Int.toNat_natCast]
  have : (movedP p).2.2.1.getD ((divC (clsE p) p.2.2.1.length).2.getD c 0) n0 = mrgX (clsM (firstsL p) (clsF p.2.1 p.2.2.1)) (p.2.2.1.getD ((divC (clsE p) p.2.2.1.length).2.getD c 0) n0) := by
   generalize (divC (clsE p) p.2.2.1.length).2.getD c 0 = f at hlt ⊢
   simp only [movedP]
   rw [List.getD_eq_getElem?_getD, List.getD_eq_getElem?_getD, List.getElem?_map, List.getElem?_eq_getElem hlt]; rfl
  rw [this, mrgX_mrgX, two_maps (hn _ hlt)]
  rfl
 rw [e1]
 have e2 : clsM (byL p.2.2.1.length (firstsL p) (firstsL p).length) (movedP p).2.2.2 = clsM (clsF p.2.1 p.2.2.1) p.2.2.2 := two_maps hF.2.2.2.2.2.1
 rw [e2]
 rfl
theorem idxs_of {n : Nat} {l : List Int} (h : ∀ j, j < l.length → 0 ≤ l.getD j 0 ∧ l.getD j 0 < n) : idxs n l = true := by
 refine List.all_eq_true.2 fun q hq => ?_
 obtain ⟨i, hi, rfl⟩ := List.mem_iff_getElem.1 hq
 have := h i hi
 rw [List.getD_eq_getElem?_getD, List.getElem?_eq_getElem hi] at this
 simp only [Option.getD_some] at this
 exact inR_iff.2 ⟨this.1, by omega⟩
theorem by1_rng {p : PatchD} {l : List Int} (hl : idxs p.2.2.1.length l = true) : idxs p.2.2.1.length (clsM (clsM (firstsL p) (clsF p.2.1 p.2.2.1)) l) = true := by
 refine idxs_of fun j hj => ?_
 have hj' : j < l.length := by simpa [clsM] using hj
 have hb := idxs_at hl (getD_mem (d := (0 : Int)) hj')
 have hcl : (clsF p.2.1 p.2.2.1).length = p.2.2.1.length := clsF_len
 obtain ⟨c, c1, c2⟩ := cls_lt (p := p) (q := (l.getD j 0).toNat) (by omega)
 have e : (clsM (clsM (firstsL p) (clsF p.2.1 p.2.2.1)) l).getD j 0 = (firstsL p).getD c 0 := by
  unfold clsM
  rw [map_getD hj', map_getD (by omega), c1]; rfl
 rw [e]
 exact firstsL_rng (by rw [firstsL_len]; exact c2)
theorem cls_idxs {p : PatchD} : idxs (firstsL p).length (clsF p.2.1 p.2.2.1) = true := by
 refine idxs_of fun j hj => ?_
 have hcl : (clsF p.2.1 p.2.2.1).length = p.2.2.1.length := clsF_len
 obtain ⟨c, c1, c2⟩ := cls_lt (p := p) (q := j) (by omega)
 rw [c1, firstsL_len]; omega
theorem keepOk_moved {p : PatchD} (h : patchB p = true) : KeepOk (movedP p) (firstsL p) := by
 have hF := formedB_parts (patchB_parts h).1
 have hU := uOk_patch (patchB_parts h).1
 have hf := smallP_fitsP (smallP_of h)
 have hx : ∀ x ∈ (movedP p).2.2.1, x.2.2.2.length ≤ 3 ∧ idxs p.2.2.1.length x.2.2.2 = true := fun x hx => by
  simp only [movedP, List.mem_map] at hx
  obtain ⟨y, hy, rfl⟩ := hx
  obtain ⟨a, b, _⟩ := (hU.2 _ hy).2
  exact ⟨by simp only [mrgX, clsM, List.length_map]; exact a, by1_rng b⟩
 have ho : (movedP p).2.2.2.length = p.2.2.2.length := by simp [movedP, clsM]
 refine ⟨⟨hf.1, ⟨by rw [movedP_n]; exact hf.2.1.1, fun x hq => by have := (hx x hq).1; omega⟩, by rw [ho]; exact hf.2.2⟩, by rw [movedP_n]; exact hF.1, ?_, ?_, fun x hq => ?_, by rw [ho]; exact hF.2.1, ?_⟩
 · rw [firstsL_len]; exact Nat.le_trans (canonN_le _ _) hF.1
 · rw [movedP_n]; exact idxs_of fun j hj => firstsL_rng hj
 · rw [movedP_n]; exact ⟨by have := (hx x hq).1; omega, (hx x hq).2⟩
 · rw [movedP_n]; exact by1_rng hF.2.2.2.2.2.1
theorem map_nx {α β : Type} {f : α → β} {xs : List α} {k : Nat} (d : α) (h : k < xs.length) : (xs.take k).map f ++ [f (xs.getD k d)] = (xs.take (k + 1)).map f := by
 rw [take_next (d := d) h, List.map_append]; rfl
theorem mixN_at {f : NodeD → NodeD} {xs : List NodeD} {k : Nat} (d : NodeD) (h : k < xs.length) : ((xs.take k).map f ++ xs.drop k).getD k d = xs.getD k d := by
 have hl : ((xs.take k).map f).length = k := by rw [List.length_map, List.length_take]; omega
 rw [List.getD_eq_getElem?_getD, List.getD_eq_getElem?_getD, List.getElem?_append_right (by omega), List.getElem?_drop, hl]
 congr 2; omega
theorem mixN_set {f : NodeD → NodeD} {xs : List NodeD} {k : Nat} (d : NodeD) (h : k < xs.length) : ((xs.take k).map f ++ xs.drop k).set k (f (xs.getD k d)) = (xs.take (k + 1)).map f ++ xs.drop (k + 1) := by
 have hl : ((xs.take k).map f).length = k := by rw [List.length_map, List.length_take]; omega
 rw [← map_nx d h, List.append_assoc, List.set_append_right _ _ (by omega), hl, Nat.sub_self, List.drop_eq_getElem_cons h, List.getD_eq_getElem?_getD, List.getElem?_eq_getElem h]
 rfl
theorem mixN_len {f : NodeD → NodeD} {xs : List NodeD} {k : Nat} (h : k ≤ xs.length) : ((xs.take k).map f).length + (xs.drop k).length = xs.length := by rw [List.length_map, List.length_take, List.length_drop]; omega
end Go.Proofs.YtflaacndokbddaaGreat