/-
  Texts joined: the logic of trees and plain laws. No condition beyond those of the theorems.
-/
import Derived.Test.YthfopaimihmgiaaGreatPe
set_option linter.unusedSimpArgs false
set_option linter.unusedVariables false
namespace Go.Proofs.YthfopaimihmgiaaGreat
open Go.RowKit
def specC (E : Nat → Nat → Bool) : Nat → List Int × Int
  | 0 => ([], 0)
  | i + 1 => match (List.range i).find? (fun k => E k i) with
    | some k => ((specC E i).1 ++ [(specC E i).1.getD k 0], (specC E i).2)
    | none => ((specC E i).1 ++ [(specC E i).2], (specC E i).2 + 1)
def idxF (E : Nat → Nat → Bool) (i : Nat) : List Nat → Nat
  | [] => 0
  | k :: l => match E k i with | true => 0 | false => idxF E i l + 1
def divC (E : Nat → Nat → Bool) : Nat → List Int × List Nat
  | 0 => ([], [])
  | i + 1 => match decide (idxF E i (divC E i).2 < (divC E i).2.length) with
    | true => ((divC E i).1 ++ [(idxF E i (divC E i).2 : Int)], (divC E i).2)
    | false => ((divC E i).1 ++ [((divC E i).2.length : Int)], (divC E i).2 ++ [i])
theorem idxF_spec (E : Nat → Nat → Bool) (i : Nat) : ∀ l : List Nat, idxF E i l ≤ l.length ∧ (∀ j, j < idxF E i l → E (l.getD j 0) i = false) ∧ (idxF E i l < l.length → E (l.getD (idxF E i l) 0) i = true) := by
  intro l
  induction l with
  | nil => exact ⟨Nat.le_refl _, fun j hj => absurd hj (Nat.not_lt_zero _), fun h => absurd h (Nat.lt_irrefl _)⟩
  | cons k l ih =>
    unfold idxF
    cases e : E k i with
    | true => exact ⟨by simp, fun j hj => absurd hj (Nat.not_lt_zero _), fun _ => by simpa using e⟩
    | false =>
      simp only [List.length_cons]
      refine ⟨by omega, fun j hj => ?_, fun hl => ?_⟩
      · cases j with
        | zero => simpa using e
        | succ j => simpa using ih.2.1 j (by omega)
      · simpa using ih.2.2 (by omega)
theorem idxF_eq {E : Nat → Nat → Bool} {i : Nat} {l : List Nat} {r : Nat} (h1 : r ≤ l.length) (h2 : ∀ j, j < r → E (l.getD j 0) i = false) (h3 : r < l.length → E (l.getD r 0) i = true) : idxF E i l = r := by
  obtain ⟨g1, g2, g3⟩ := idxF_spec E i l
  rcases Nat.lt_trichotomy (idxF E i l) r with h | h | h
  · have := h2 _ h; rw [g3 (by omega)] at this; cases this
  · exact h
  · have := g2 _ h; rw [h3 (by omega)] at this; cases this
theorem idxF_congr {E E' : Nat → Nat → Bool} {i : Nat} : ∀ {l : List Nat}, (∀ k ∈ l, E k i = E' k i) → idxF E i l = idxF E' i l := by
  intro l
  induction l with
  | nil => intro _; rfl
  | cons k l ih => intro h; unfold idxF; rw [h k List.mem_cons_self, ih fun k hk => h k (List.mem_cons_of_mem _ hk)]
theorem specC_congr {E E' : Nat → Nat → Bool} {n : Nat} (h : ∀ k i, k < i → i < n → E k i = E' k i) : ∀ i, i ≤ n → specC E i = specC E' i := by
  intro i
  induction i with
  | zero => intro _; rfl
  | succ i ih =>
    intro hi
    simp only [specC]
    have : (List.range i).find? (fun k => E k i) = (List.range i).find? (fun k => E' k i) := by
      have : ∀ l : List Nat, (∀ k ∈ l, k < i) → l.find? (fun k => E k i) = l.find? (fun k => E' k i) := by
        intro l
        induction l with
        | nil => intro _; rfl
        | cons k l ih2 =>
          intro hl
          simp only [List.find?_cons, h k i (hl k List.mem_cons_self) (by omega), ih2 fun k hk => hl k (List.mem_cons_of_mem _ hk)]
      exact this _ fun k hk => List.mem_range.1 hk
    rw [this, ih (by omega)]
structure DivOk (E : Nat → Nat → Bool) (i : Nat) (d : List Int × List Nat) : Prop where
  len : d.1.length = i
  lt : ∀ c, c < d.2.length → d.2.getD c 0 < i
  at_ : ∀ k, k < i → ∃ c : Nat, d.1.getD k 0 = (c : Int) ∧ c < d.2.length ∧ E (d.2.getD c 0) k = true
  ne : ∀ c c', c < c' → c' < d.2.length → E (d.2.getD c 0) (d.2.getD c' 0) = false
theorem getD_app1 {α : Type} {l : List α} {x d : α} {k : Nat} (h : k < l.length) : (l ++ [x]).getD k d = l.getD k d := by
  rw [List.getD_eq_getElem?_getD, List.getD_eq_getElem?_getD, List.getElem?_append_left h]
theorem getD_app2 {α : Type} {l : List α} {x d : α} {k : Nat} (h : k = l.length) : (l ++ [x]).getD k d = x := by
  subst h; simp [List.getD]
section
variable {E : Nat → Nat → Bool} {n : Nat} (rfl' : ∀ k, E k k = true) (sym : ∀ k i, E k i = true → E i k = true) (tr : ∀ k i j, E k i = true → E i j = true → E k j = true)
include rfl' in
theorem divC_ok : ∀ i, DivOk E i (divC E i) := by
  intro i
  induction i with
  | zero => exact ⟨rfl, fun c hc => absurd hc (Nat.not_lt_zero _), fun k hk => absurd hk (Nat.not_lt_zero _), fun c c' _ hc => absurd hc (Nat.not_lt_zero _)⟩
  | succ i ih =>
    obtain ⟨g1, g2, g3⟩ := idxF_spec E i (divC E i).2
    simp only [divC]
    by_cases c : idxF E i (divC E i).2 < (divC E i).2.length
    · rw [decide_eq_true c]
      refine ⟨by simp [ih.len], fun q hq => by have := ih.lt q hq; simp only; omega, fun k hk => ?_, ih.ne⟩
      rcases Nat.lt_succ_iff_lt_or_eq.1 hk with h | h
      · obtain ⟨q, q1, q2, q3⟩ := ih.at_ k h
        exact ⟨q, by simp only; rw [getD_app1 (by rw [ih.len]; exact h)]; exact q1, q2, q3⟩
      · subst h
        exact ⟨_, by simp only; rw [getD_app2 ih.len.symm], c, g3 c⟩
    · rw [decide_eq_false c]
      refine ⟨by simp [ih.len], fun q hq => ?_, fun k hk => ?_, fun q q' hqq hq' => ?_⟩
      · simp only [List.length_append, List.length_singleton] at hq ⊢
        rcases Nat.lt_succ_iff_lt_or_eq.1 hq with h | h
        · rw [getD_app1 h]; have := ih.lt q h; omega
        · rw [getD_app2 h]; omega
      · simp only
        rcases Nat.lt_succ_iff_lt_or_eq.1 hk with h | h
        · obtain ⟨q, q1, q2, q3⟩ := ih.at_ k h
          exact ⟨q, by rw [getD_app1 (by rw [ih.len]; exact h)]; exact q1, by simp; omega, by rw [getD_app1 q2]; exact q3⟩
        · subst h
          exact ⟨(divC E k).2.length, by rw [getD_app2 ih.len.symm], by simp, by rw [getD_app2 rfl]; exact rfl' k⟩
      · simp only [List.length_append, List.length_singleton] at hq' ⊢
        rcases Nat.lt_succ_iff_lt_or_eq.1 hq' with h | h
        · rw [getD_app1 h, getD_app1 (by omega)]; exact ih.ne q q' hqq h
        · rw [getD_app2 h, getD_app1 (by omega)]; exact g2 q (by omega)
include sym tr in
theorem DivOk.uniq {i : Nat} {d : List Int × List Nat} (h : DivOk E i d) {c c' : Nat} (hc : c < d.2.length) (hc' : c' < d.2.length) {k : Nat} (h1 : E (d.2.getD c 0) k = true) (h2 : E (d.2.getD c' 0) k = true) : c = c' := by
  have h3 := tr _ _ _ h1 (sym _ _ h2)
  rcases Nat.lt_trichotomy c c' with e | e | e
  · rw [h.ne c c' e hc'] at h3; cases h3
  · exact e
  · have h4 := sym _ _ h3
    rw [h.ne c' c e hc] at h4; cases h4
include sym tr in
theorem DivOk.rel {i : Nat} {d : List Int × List Nat} (h : DivOk E i d) {k j : Nat} (hk : k < i) (hj : j < i) : d.1.getD k 0 = d.1.getD j 0 ↔ E k j = true := by
  obtain ⟨c, c1, c2, c3⟩ := h.at_ k hk
  obtain ⟨c', c1', c2', c3'⟩ := h.at_ j hj
  rw [c1, c1']
  constructor
  · intro e
    obtain rfl : c = c' := by omega
    exact tr _ _ _ (sym _ _ c3) c3'
  · intro e
    rw [h.uniq sym tr c2 c2' (tr _ _ _ c3 e) c3']
include rfl' sym tr in
theorem spec_div : ∀ i, specC E i = ((divC E i).1, ((divC E i).2.length : Int)) := by
  intro i
  induction i with
  | zero => rfl
  | succ i ih =>
    have h := divC_ok rfl' (E := E) i
    obtain ⟨g1, g2, g3⟩ := idxF_spec E i (divC E i).2
    simp only [specC, divC]
    rw [ih]
    cases e : (List.range i).find? (fun k => E k i) with
    | none =>
      have hn : ¬ idxF E i (divC E i).2 < (divC E i).2.length := fun c => by
        have := g3 c
        have h2 := List.find?_eq_none.1 e _ (List.mem_range.2 (h.lt _ c))
        exact h2 this
      rw [decide_eq_false hn]
      simp
    | some k =>
      have h1 : E k i = true := by simpa using List.find?_some e
      have h2 : k < i := List.mem_range.1 (List.mem_of_find?_eq_some e)
      obtain ⟨c, c1, c2, c3⟩ := h.at_ k h2
      have c4 := tr _ _ _ c3 h1
      have hc : idxF E i (divC E i).2 < (divC E i).2.length := Nat.lt_of_le_of_ne g1 fun e2 => by
        have := g2 c (by omega); rw [c4] at this; cases this
      have : idxF E i (divC E i).2 = c := h.uniq sym tr hc c2 (g3 hc) c4
      rw [decide_eq_true hc]
      simp only
      rw [c1, this]
end
def byKey {κ : Type} [DecidableEq κ] (f : Nat → κ) (k i : Nat) : Bool := decide (f k = f i)
section
variable {κ : Type} [DecidableEq κ] {f : Nat → κ}
theorem byKey_rfl (k : Nat) : byKey f k k = true := decide_eq_true rfl
theorem byKey_sym (k i : Nat) (h : byKey f k i = true) : byKey f i k = true := decide_eq_true (of_decide_eq_true h).symm
theorem byKey_tr (k i j : Nat) (h1 : byKey f k i = true) (h2 : byKey f i j = true) : byKey f k j = true := decide_eq_true ((of_decide_eq_true h1).trans (of_decide_eq_true h2))
def canon (f : Nat → κ) (n : Nat) : List Int := (divC (byKey f) n).1
def canonN (f : Nat → κ) (n : Nat) : Nat := (divC (byKey f) n).2.length
theorem canon_ok (f : Nat → κ) (n : Nat) : DivOk (byKey f) n (divC (byKey f) n) := divC_ok byKey_rfl n
theorem canon_len (f : Nat → κ) (n : Nat) : (canon f n).length = n := (canon_ok f n).len
theorem canon_rel {n k j : Nat} (hk : k < n) (hj : j < n) : (canon f n).getD k 0 = (canon f n).getD j 0 ↔ f k = f j := by
  have := (canon_ok f n).rel byKey_sym byKey_tr hk hj
  unfold canon
  rw [this]
  exact ⟨of_decide_eq_true, decide_eq_true⟩
theorem canon_rng {n k : Nat} (hk : k < n) : 0 ≤ (canon f n).getD k 0 ∧ (canon f n).getD k 0 < canonN f n := by
  obtain ⟨c, c1, c2, _⟩ := (canon_ok f n).at_ k hk
  unfold canon canonN; rw [c1]; omega
theorem canonN_le (f : Nat → κ) : ∀ n, canonN f n ≤ n := by
  intro n
  induction n with
  | zero => exact Nat.le_refl _
  | succ n ih =>
    unfold canonN at *
    simp only [divC]
    split
    · simp only; omega
    · simp only [List.length_append, List.length_singleton]; omega
end
theorem canon_congr {κ κ' : Type} [DecidableEq κ] [DecidableEq κ'] {f : Nat → κ} {g : Nat → κ'} {n : Nat} (h : ∀ k i, k < n → i < n → (f k = f i ↔ g k = g i)) : ∀ i, i ≤ n → divC (byKey f) i = divC (byKey g) i := by
  intro i
  induction i with
  | zero => intro _; rfl
  | succ i ih =>
    intro hi
    have e := ih (by omega)
    have e2 : idxF (byKey f) i (divC (byKey g) i).2 = idxF (byKey g) i (divC (byKey g) i).2 := idxF_congr fun k hk => by
      have hok := canon_ok g i
      obtain ⟨c, hc, rfl⟩ := List.mem_iff_getElem.1 hk
      have hlt := hok.lt c hc
      rw [List.getD_eq_getElem?_getD, List.getElem?_eq_getElem hc] at hlt
      simp only [byKey]
      exact decide_eq_decide.2 (h _ _ (by simpa using Nat.lt_trans hlt (by omega)) (by omega))
    simp only [divC]
    rw [e, e2]
theorem canon_same {κ κ' : Type} [DecidableEq κ] [DecidableEq κ'] {f : Nat → κ} {g : Nat → κ'} {n : Nat} (hr : ∀ k i, k < n → i < n → f k = f i → g k = g i) (hc : canonN f n ≤ canonN g n) : canon f n = canon g n ∧ canonN f n = canonN g n := by
  have key : ∀ k i, k < n → i < n → (f k = f i ↔ g k = g i) := by
    -- the first ones of g's classes lie in different classes of f; there are as many
    have F := canon_ok f n
    have G' := canon_ok g n
    have gne : ∀ c c', c < (divC (byKey g) n).2.length → c' < (divC (byKey g) n).2.length → g ((divC (byKey g) n).2.getD c 0) = g ((divC (byKey g) n).2.getD c' 0) → c = c' := fun c c' h1 h2 e =>
      G'.uniq byKey_sym byKey_tr h1 h2 (k := (divC (byKey g) n).2.getD c' 0) (decide_eq_true e) (byKey_rfl _)
    -- each class of f has one of g: an injection from g's classes into f's
    obtain ⟨m, hm⟩ : ∃ m : Nat → Nat, ∀ c, c < (divC (byKey g) n).2.length → m c < (divC (byKey f) n).2.length ∧ f ((divC (byKey f) n).2.getD (m c) 0) = f ((divC (byKey g) n).2.getD c 0) := by
      refine ⟨fun c => ((divC (byKey f) n).1.getD ((divC (byKey g) n).2.getD c 0) 0).toNat, fun c hc' => ?_⟩
      obtain ⟨q, q1, q2, q3⟩ := F.at_ _ (G'.lt c hc')
      simp only [q1, Int.toNat_natCast]
      exact ⟨q2, of_decide_eq_true q3⟩
    have minj : ∀ c c', c < (divC (byKey g) n).2.length → c' < (divC (byKey g) n).2.length → m c = m c' → c = c' := fun c c' h1 h2 e => by
      obtain ⟨_, e1⟩ := hm c h1
      obtain ⟨_, e2⟩ := hm c' h2
      rw [e, e2] at e1
      exact gne c c' h1 h2 (hr _ _ (G'.lt _ h1) (G'.lt _ h2) e1.symm)
    -- so it is onto
    have onto : ∀ q, q < (divC (byKey f) n).2.length → ∃ c, c < (divC (byKey g) n).2.length ∧ m c = q := fun q hq => by
      have h1 : ((List.range (divC (byKey g) n).2.length).map fun c => (m c : Int)).Nodup := by
        rw [List.nodup_iff_pairwise_ne, List.pairwise_map]
        refine List.Pairwise.imp_of_mem (R := fun a b => a < b) ?_ List.pairwise_lt_range
        intro a b ha hb hab e
        have := minj a b (List.mem_range.1 ha) (List.mem_range.1 hb) (by omega)
        omega
      have h2 : ∀ x ∈ (List.range (divC (byKey g) n).2.length).map fun c => (m c : Int), 0 ≤ x ∧ x < ((divC (byKey f) n).2.length : Int) := fun x hx => by
        obtain ⟨c, hc', rfl⟩ := List.mem_map.1 hx
        have := (hm c (List.mem_range.1 hc')).1
        omega
      have h3 : ((List.range (divC (byKey g) n).2.length).map fun c => (m c : Int)).length = (divC (byKey f) n).2.length := by
        have := pigeon _ _ h1 h2
        simp only [List.length_map, List.length_range] at this ⊢
        unfold canonN at hc
        omega
      have h4 := full h1 h2 h3 q hq
      obtain ⟨c, hc', e⟩ := List.mem_map.1 h4
      exact ⟨c, List.mem_range.1 hc', by omega⟩
    intro k i hk hi
    refine ⟨hr k i hk hi, fun e => ?_⟩
    obtain ⟨q, q1, q2, q3⟩ := F.at_ k hk
    obtain ⟨q', q1', q2', q3'⟩ := F.at_ i hi
    obtain ⟨c, c1, rfl⟩ := onto q q2
    obtain ⟨c', c1', rfl⟩ := onto q' q2'
    have a1 := (hm c c1).2
    have a2 := (hm c' c1').2
    have b1 : g ((divC (byKey g) n).2.getD c 0) = g k := hr _ _ (G'.lt _ c1) hk (a1.symm.trans (of_decide_eq_true q3))
    have b2 : g ((divC (byKey g) n).2.getD c' 0) = g i := hr _ _ (G'.lt _ c1') hi (a2.symm.trans (of_decide_eq_true q3'))
    have := gne c c' c1 c1' (b1.trans (e.trans b2.symm))
    subst this
    exact (of_decide_eq_true q3 : _ = _).symm.trans (of_decide_eq_true q3')
  have := canon_congr key n (Nat.le_refl _)
  unfold canon canonN
  rw [this]
  exact ⟨rfl, rfl⟩
theorem canonN_mono {κ κ' : Type} [DecidableEq κ] [DecidableEq κ'] {f : Nat → κ} {g : Nat → κ'} {n : Nat} (hr : ∀ k i, k < n → i < n → f k = f i → g k = g i) : canonN g n ≤ canonN f n := by
  rcases Nat.le_total (canonN g n) (canonN f n) with h | h
  · exact h
  · exact Nat.le_of_eq (canon_same hr h).2.symm
end Go.Proofs.YthfopaimihmgiaaGreat
namespace Go.Proofs.YthfopaimihmgiaaGreat
open Go.RowKit
def keyOf (ts : List (List Int)) (n : NodeD) : Int × Int × Int × List Int := match decide (n.1 = 13) with
  | true => (n.1, n.2.2.1, 0, ts.getD n.2.1.toNat [])
  | false => (n.1, n.2.2.1, n.2.1, [])
def keyB (ts : List (List Int)) (a b : NodeD) : Bool := decide (keyOf ts a = keyOf ts b)
theorem keyOf_t {ts : List (List Int)} {n : NodeD} (h : n.1 = 13) : keyOf ts n = (n.1, n.2.2.1, 0, ts.getD n.2.1.toNat []) := by unfold keyOf; rw [decide_eq_true h]
theorem keyOf_f {ts : List (List Int)} {n : NodeD} (h : ¬ n.1 = 13) : keyOf ts n = (n.1, n.2.2.1, n.2.1, []) := by unfold keyOf; rw [decide_eq_false h]
theorem keyOf_k {ts : List (List Int)} {n : NodeD} : (keyOf ts n).1 = n.1 ∧ (keyOf ts n).2.1 = n.2.2.1 := by unfold keyOf; split <;> exact ⟨rfl, rfl⟩
theorem keyB_f1 {ts : List (List Int)} {a b : NodeD} (h : ¬ a.1 = b.1) : keyB ts a b = false := decide_eq_false fun e => h (by rw [← (keyOf_k (ts := ts) (n := a)).1, e, keyOf_k.1])
theorem keyB_f2 {ts : List (List Int)} {a b : NodeD} (h : ¬ a.2.2.1 = b.2.2.1) : keyB ts a b = false := decide_eq_false fun e => h (by rw [← (keyOf_k (ts := ts) (n := a)).2, e, keyOf_k.2])
theorem keyB_tab {ts : List (List Int)} {a b : NodeD} (h1 : a.1 = b.1) (h2 : a.2.2.1 = b.2.2.1) (h3 : a.1 = 13) : keyB ts a b = eqD (ts.getD a.2.1.toNat []) (ts.getD b.2.1.toNat []) := by
  unfold keyB eqD; rw [keyOf_t h3, keyOf_t (h1 ▸ h3)]
  exact decide_eq_decide.2 ⟨fun e => congrArg (fun (z : Int × Int × Int × List Int) => z.2.2.2) e, fun e => by rw [h1, h2, e]⟩
theorem keyB_A {ts : List (List Int)} {a b : NodeD} (h1 : a.1 = b.1) (h2 : a.2.2.1 = b.2.2.1) (h3 : ¬ a.1 = 13) : keyB ts a b = decide (a.2.1 = b.2.1) := by
  unfold keyB; rw [keyOf_f h3, keyOf_f (h1 ▸ h3)]
  exact decide_eq_decide.2 ⟨fun e => congrArg (fun (z : Int × Int × Int × List Int) => z.2.2.1) e, fun e => by rw [h1, h2, e]⟩
theorem keyB_kind {ts : List (List Int)} {a b : NodeD} (h : keyB ts a b = true) : a.1 = b.1 := by
  have e := of_decide_eq_true h
  rw [← (keyOf_k (ts := ts) (n := a)).1, e, keyOf_k.1]
def swapB (n : NodeD) : Bool := decide (n.1 = 3) || decide (n.1 = 9)
def srt : List Int → List Int
  | [a, b] => match decide (b < a) with | true => [b, a] | false => [a, b]
  | l => l
def clsM (cl fr : List Int) : List Int := fr.map fun q => cl.getD q.toNat 0
def insOf (n : NodeD) (cl : List Int) : List Int := match swapB n with | true => srt (clsM cl n.2.2.2) | false => clsM cl n.2.2.2
theorem insOf_t {n : NodeD} {cl : List Int} (h : swapB n = true) : insOf n cl = srt (clsM cl n.2.2.2) := by unfold insOf; rw [h]
theorem insOf_f {n : NodeD} {cl : List Int} (h : swapB n = false) : insOf n cl = clsM cl n.2.2.2 := by unfold insOf; rw [h]
def alikeB (ts : List (List Int)) (cl : List Int) (a b : NodeD) : Bool := keyB ts a b && eqD (insOf a cl) (insOf b cl)
theorem srt_eq {x y : List Int} (hx : x.length = 2) (hy : y.length = 2) : srt x = srt y ↔ x = y ∨ (x.getD 0 0 = y.getD 1 0 ∧ x.getD 1 0 = y.getD 0 0) := by
  match x, y, hx, hy with
  | [a, b], [c, d], _, _ =>
    simp only [srt]
    by_cases h1 : b < a <;> by_cases h2 : d < c <;> simp only [h1, h2, decide_true, decide_false, List.cons.injEq, and_true, List.getD_cons_zero, List.getD_cons_succ] <;> omega
theorem alike_spec {ts : List (List Int)} {cl : List Int} {a b : NodeD} (hk : keyB ts a b = true) (ha : swapB a = true → a.2.2.2.length = 2) (hb : swapB b = true → b.2.2.2.length = 2) :
    alikeB ts cl a b = (eqD (clsM cl a.2.2.2) (clsM cl b.2.2.2) || (swapB a && (decide ((clsM cl a.2.2.2).getD 0 0 = (clsM cl b.2.2.2).getD 1 0) && decide ((clsM cl a.2.2.2).getD 1 0 = (clsM cl b.2.2.2).getD 0 0)))) := by
  unfold alikeB
  rw [hk, Bool.true_and]
  have hsw : swapB b = swapB a := by unfold swapB; rw [keyB_kind hk]
  cases h : swapB a with
  | false =>
    rw [insOf_f h, insOf_f (by rw [hsw]; exact h)]; simp
  | true =>
    have l1 : (clsM cl a.2.2.2).length = 2 := by simp [clsM, ha h]
    have l2 : (clsM cl b.2.2.2).length = 2 := by simp [clsM, hb (by rw [hsw]; exact h)]
    rw [insOf_t h, insOf_t (by rw [hsw]; exact h)]
    unfold eqD
    rw [Bool.true_and, ← Bool.decide_and, ← Bool.decide_or]
    exact decide_eq_decide.2 (srt_eq l1 l2)
abbrev KeyT := Int × (Int × Int × Int × List Int) × List Int
def phi (ts : List (List Int)) (ns : List NodeD) (cl : List Int) (i : Nat) : KeyT := (cl.getD i 0, keyOf ts (ns.getD i n0), insOf (ns.getD i n0) cl)
def phi0 (ts : List (List Int)) (ns : List NodeD) (i : Nat) : Int × Int × Int × List Int := keyOf ts (ns.getD i n0)
theorem byKey0 {ts : List (List Int)} {ns : List NodeD} {k i : Nat} : byKey (phi0 ts ns) k i = keyB ts (ns.getD k n0) (ns.getD i n0) := rfl
theorem byKeyP {ts : List (List Int)} {ns : List NodeD} {cl : List Int} {k i : Nat} : byKey (phi ts ns cl) k i = (decide (cl.getD k 0 = cl.getD i 0) && alikeB ts cl (ns.getD k n0) (ns.getD i n0)) := by
  unfold byKey phi alikeB keyB eqD
  rw [← Bool.decide_and, ← Bool.decide_and]
  exact decide_eq_decide.2 (by simp only [Prod.mk.injEq])
def clsI (ts : List (List Int)) (ns : List NodeD) : Nat → List Int
  | 0 => canon (phi0 ts ns) ns.length
  | j + 1 => canon (phi ts ns (clsI ts ns j)) ns.length
def clsN (ts : List (List Int)) (ns : List NodeD) : Nat → Nat
  | 0 => canonN (phi0 ts ns) ns.length
  | j + 1 => canonN (phi ts ns (clsI ts ns j)) ns.length
def clsF (ts : List (List Int)) (ns : List NodeD) : List Int := clsI ts ns ns.length
section
variable {ts : List (List Int)} {ns : List NodeD}
theorem clsI_can : ∀ j, ∃ (κ : Type) (_ : DecidableEq κ) (g : Nat → κ), clsI ts ns j = canon g ns.length ∧ clsN ts ns j = canonN g ns.length := by
  intro j
  cases j with
  | zero => exact ⟨_, inferInstance, phi0 ts ns, rfl, rfl⟩
  | succ j => exact ⟨_, inferInstance, phi ts ns (clsI ts ns j), rfl, rfl⟩
theorem clsI_len (j : Nat) : (clsI ts ns j).length = ns.length := by
  obtain ⟨κ, _, g, h1, _⟩ := clsI_can (ts := ts) (ns := ns) j
  rw [h1]; exact canon_len _ _
theorem clsI_rng (j : Nat) {k : Nat} (hk : k < ns.length) : 0 ≤ (clsI ts ns j).getD k 0 ∧ (clsI ts ns j).getD k 0 < clsN ts ns j := by
  obtain ⟨κ, _, g, h1, h2⟩ := clsI_can (ts := ts) (ns := ns) j
  rw [h1, h2]; exact canon_rng hk
theorem clsN_le (j : Nat) : clsN ts ns j ≤ ns.length := by
  obtain ⟨κ, _, g, _, h2⟩ := clsI_can (ts := ts) (ns := ns) j
  rw [h2]; exact canonN_le _ _
theorem phi_fine {cl : List Int} {k i : Nat} (h : phi ts ns cl k = phi ts ns cl i) : cl.getD k 0 = cl.getD i 0 := congrArg (fun (z : KeyT) => z.1) h
theorem clsN_mono (j : Nat) : clsN ts ns j ≤ clsN ts ns (j + 1) := by
  obtain ⟨κ, _, g, h1, h2⟩ := clsI_can (ts := ts) (ns := ns) j
  rw [h2]
  exact canonN_mono fun k i hk hi e => (canon_rel hk hi).1 (by rw [← h1]; exact phi_fine e)
theorem clsI_stop {j : Nat} (h : clsN ts ns (j + 1) ≤ clsN ts ns j) : clsI ts ns (j + 1) = clsI ts ns j := by
  obtain ⟨κ, _, g, h1, h2⟩ := clsI_can (ts := ts) (ns := ns) j
  rw [h2] at h
  rw [h1]
  exact (canon_same (fun k i hk hi e => (canon_rel hk hi).1 (by rw [← h1]; exact phi_fine e)) h).1
theorem canonN_of {κ κ' : Type} [DecidableEq κ] [DecidableEq κ'] {f : Nat → κ} {g : Nat → κ'} {n : Nat} (h : canon f n = canon g n) : canonN f n = canonN g n := by
  unfold canonN
  rw [canon_congr (f := f) (g := g) (n := n) (fun k i hk hi => by rw [← canon_rel (f := f) hk hi, ← canon_rel (f := g) hk hi, h]) n (Nat.le_refl _)]
theorem clsN_stop {j : Nat} (h : clsI ts ns (j + 1) = clsI ts ns j) : clsN ts ns (j + 1) = clsN ts ns j := by
  obtain ⟨κ, _, g, h1, h2⟩ := clsI_can (ts := ts) (ns := ns) j
  rw [h2]
  exact canonN_of (by rw [← h1]; exact h)
theorem clsN_grow : ∀ j, (∀ i, i < j → clsI ts ns (i + 1) ≠ clsI ts ns i) → j ≤ clsN ts ns j := by
  intro j
  induction j with
  | zero => intro _; omega
  | succ j ih =>
    intro h
    have h1 := ih fun i hi => h i (by omega)
    rcases Nat.lt_or_ge (clsN ts ns j) (clsN ts ns (j + 1)) with c | c
    · omega
    · exact absurd (clsI_stop c) (h j (by omega))
theorem clsI_stay {j : Nat} (h : clsI ts ns (j + 1) = clsI ts ns j) : ∀ k, clsI ts ns (j + k) = clsI ts ns j := by
  intro k
  induction k with
  | zero => rfl
  | succ k ih =>
    have : clsI ts ns (j + k + 1) = canon (phi ts ns (clsI ts ns (j + k))) ns.length := rfl
    rw [← Nat.add_assoc, this, ih]
    exact h
theorem clsF_at {j : Nat} (hj : j ≤ ns.length) (h : clsI ts ns (j + 1) = clsI ts ns j) : clsF ts ns = clsI ts ns j := by
  unfold clsF
  rw [show ns.length = j + (ns.length - j) by omega]
  exact clsI_stay h _
def countL (cl : List Int) : Int := cl.foldl (fun c x => max c (x + 1)) 0
theorem countL_app {l : List Int} {x : Int} : countL (l ++ [x]) = max (countL l) (x + 1) := by unfold countL; rw [List.foldl_append]; rfl
theorem countL_div (E : Nat → Nat → Bool) : ∀ i, countL (divC E i).1 = ((divC E i).2.length : Int) := by
  intro i
  induction i with
  | zero => rfl
  | succ i ih =>
    simp only [divC]
    split
    · rename_i h
      have h := of_decide_eq_true h
      simp only
      rw [countL_app, ih]; omega
    · simp only
      rw [countL_app, ih, List.length_append, List.length_singleton]; omega
theorem countL_cls (j : Nat) : countL (clsI ts ns j) = clsN ts ns j := by
  obtain ⟨κ, _, g, h1, h2⟩ := clsI_can (ts := ts) (ns := ns) j
  rw [h1, h2]; exact countL_div _ _
def countF (ts : List (List Int)) (ns : List NodeD) : Int := countL (clsF ts ns)
theorem clsF_len : (clsF ts ns).length = ns.length := clsI_len _
theorem clsF_rng {k : Nat} (hk : k < ns.length) : 0 ≤ (clsF ts ns).getD k 0 ∧ (clsF ts ns).getD k 0 < countF ts ns := by
  unfold countF clsF
  rw [countL_cls]; exact clsI_rng _ hk
theorem countF_le : 0 ≤ countF ts ns ∧ countF ts ns ≤ ns.length := by
  unfold countF clsF
  rw [countL_cls]
  have := clsN_le (ts := ts) (ns := ns) ns.length
  omega
theorem clsF_fix : canon (phi ts ns (clsF ts ns)) ns.length = clsF ts ns := by
  have : ∃ j, j ≤ ns.length ∧ clsI ts ns (j + 1) = clsI ts ns j := by
    apply Classical.byContradiction
    intro hc
    have h := clsN_grow (ts := ts) (ns := ns) (ns.length + 1) fun i hi e => hc ⟨i, by omega, e⟩
    have := clsN_le (ts := ts) (ns := ns) (ns.length + 1)
    omega
  obtain ⟨j, h1, h2⟩ := this
  rw [clsF_at h1 h2]
  exact h2
end
end Go.Proofs.YthfopaimihmgiaaGreat