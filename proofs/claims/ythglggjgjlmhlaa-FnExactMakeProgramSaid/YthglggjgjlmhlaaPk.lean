/-
  Texts joined: the logic of trees and plain laws. No condition beyond those of the theorems.
-/
import Derived.Test.YthglggjgjlmhlaaPe
set_option linter.unusedSimpArgs false
set_option linter.unusedVariables false
namespace Go.Proofs.Ythglggjgjlmhlaa
open Go.RowKit
abbrev InstrD := Int × Int × Int × Int × List Int × Int
abbrev ProgD := Int × Int × List (List Int) × List InstrD × List Int
def x0 : InstrD := (0, 0, 0, 0, [], 0)
def nAt (ns : List NodeD) (i : Int) : NodeD := ns.getD i.toNat n0
def instrOf (n : NodeD) (i : Int) : InstrD := (n.1, n.2.1, n.2.2.1, i, waitsL n, i)
def storeOf (n : NodeD) (d : Nat) : InstrD := (18, 0, 0, d, n.2.2.2, 0)
abbrev CodeSt := List InstrD × List Int
def putB (ns : List NodeD) (done sto : List Int) (d : Nat) : Bool := decide ((ns.getD d n0).1 = 6) && (!sto.contains (d : Int) && (done.contains (d : Int) && done.contains ((ns.getD d n0).2.2.2.getD 0 0)))
def putS (ns : List NodeD) (done : List Int) (st : CodeSt) (d : Nat) : CodeSt := match putB ns done st.2 d with
  | true => (st.1 ++ [storeOf (ns.getD d n0) d], st.2 ++ [(d : Int)])
  | false => st
def putN (ns : List NodeD) (done : List Int) (st : CodeSt) : Nat → CodeSt
  | 0 => st
  | m + 1 => putS ns done (putN ns done st m) m
def codeK (ns : List NodeD) (o : List Int) : Nat → CodeSt
  | 0 => ([], [])
  | k + 1 => putN ns (o.take (k + 1)) ((codeK ns o k).1 ++ [instrOf (nAt ns (o.getD k 0)) (o.getD k 0)], (codeK ns o k).2) ns.length
def codeL (ns : List NodeD) : List InstrD := (codeK ns (ordL ns) (ordL ns).length).1
section
variable {ns : List NodeD} {done sto : List Int} {d : Nat}
theorem putB_t (h1 : (ns.getD d n0).1 = 6) (h2 : sto.contains (d : Int) = false) (h3 : done.contains (d : Int) = true) (h4 : done.contains ((ns.getD d n0).2.2.2.getD 0 0) = true) : putB ns done sto d = true := by
  unfold putB; rw [decide_eq_true h1, h2, h3, h4]; rfl
theorem putB_f1 (h1 : ¬ (ns.getD d n0).1 = 6) : putB ns done sto d = false := by unfold putB; rw [decide_eq_false h1]; rfl
theorem putB_f2 (h : sto.contains (d : Int) = true) : putB ns done sto d = false := by unfold putB; rw [h, Bool.not_true, Bool.false_and, Bool.and_false]
theorem putB_f3 (h : done.contains (d : Int) = false) : putB ns done sto d = false := by unfold putB; rw [h, Bool.false_and, Bool.and_false, Bool.and_false]
theorem putB_k (h : putB ns done sto d = true) : (ns.getD d n0).1 = 6 := by simp only [putB, Bool.and_eq_true, decide_eq_true_eq] at h; exact h.1
theorem putB_l (h1 : (ns.getD d n0).1 = 6) (h2 : sto.contains (d : Int) = false) (h3 : done.contains (d : Int) = true) : putB ns done sto d = done.contains ((ns.getD d n0).2.2.2.getD 0 0) := by unfold putB; rw [decide_eq_true h1, h2, h3]; rfl
theorem putB_f4 (h : done.contains ((ns.getD d n0).2.2.2.getD 0 0) = false) : putB ns done sto d = false := by unfold putB; rw [h, Bool.and_false, Bool.and_false, Bool.and_false]
end
theorem putS_t {ns : List NodeD} {done : List Int} {st : CodeSt} {d : Nat} (h : putB ns done st.2 d = true) : putS ns done st d = (st.1 ++ [storeOf (ns.getD d n0) d], st.2 ++ [(d : Int)]) := by unfold putS; rw [h]
theorem putS_f {ns : List NodeD} {done : List Int} {st : CodeSt} {d : Nat} (h : putB ns done st.2 d = false) : putS ns done st d = st := by unfold putS; rw [h]
def doneAt (ns : List NodeD) (k : Nat) : List Int := (ordL ns).take (k + 1)
def stB (ns : List NodeD) (k : Nat) : CodeSt := ((codeK ns (ordL ns) k).1 ++ [instrOf (nAt ns ((ordL ns).getD k 0)) ((ordL ns).getD k 0)], (codeK ns (ordL ns) k).2)
def putAt (ns : List NodeD) (k d : Nat) : CodeSt := putN ns (doneAt ns k) (stB ns k) d
theorem putAt_0 (ns : List NodeD) (k : Nat) : putAt ns k 0 = stB ns k := rfl
theorem putAt_all (ns : List NodeD) (k : Nat) : codeK ns (ordL ns) (k + 1) = putAt ns k ns.length := rfl
theorem putAt_t {ns : List NodeD} {k d : Nat} (h : putB ns (doneAt ns k) (putAt ns k d).2 d = true) : (putAt ns k (d + 1)).1 = (putAt ns k d).1 ++ [storeOf (ns.getD d n0) d] ∧ (putAt ns k (d + 1)).2 = (putAt ns k d).2 ++ [(d : Int)] := by
  show (putS ns (doneAt ns k) (putAt ns k d) d).1 = _ ∧ (putS ns (doneAt ns k) (putAt ns k d) d).2 = _
  rw [putS_t h]; exact ⟨rfl, rfl⟩
theorem putAt_f {ns : List NodeD} {k d : Nat} (h : putB ns (doneAt ns k) (putAt ns k d).2 d = false) : putAt ns k (d + 1) = putAt ns k d := putS_f h
def Marks (n : Nat) (bs : List Bool) (l : List Int) : Prop := bs.length = n ∧ ∀ d, d < n → bs.getD d false = l.contains (d : Int)
theorem Marks.nil (n : Nat) : Marks n (List.replicate n false) [] := ⟨by simp, fun d hd => by simp [List.getD, hd]⟩
theorem Marks.add {n : Nat} {bs : List Bool} {l : List Int} {i : Nat} (h : Marks n bs l) (hi : i < n) : Marks n (bs.set i true) (l ++ [(i : Int)]) := by
  refine ⟨by rw [List.length_set]; exact h.1, fun d hd => ?_⟩
  have hl := h.1
  rw [getD_set (by omega)]
  split
  · rename_i e; subst e; simp
  · rename_i e
    rw [h.2 d hd, List.contains_append]
    have : ([(i : Int)].contains (d : Int)) = false := by simp; omega
    rw [this, Bool.or_false]
theorem Marks.at {n : Nat} {bs : List Bool} {l : List Int} (h : Marks n bs l) {x : Int} (h0 : 0 ≤ x) (hx : x < n) : bs.getD x.toNat false = l.contains x := by
  rw [h.2 x.toNat (by omega), Int.toNat_of_nonneg h0]
def InstrOk (n : Nat) (x : InstrD) : Prop := (0 ≤ x.2.2.2.1 ∧ x.2.2.2.1 < n) ∧ idxs n x.2.2.2.2.1 = true ∧ x.2.2.2.2.1.length ≤ 3
theorem kind_at {p : PatchD} (h : formedB p = true) {i : Nat} (hi : i < p.2.2.1.length) : 1 ≤ (p.2.2.1.getD i n0).1 ∧ (p.2.2.1.getD i n0).1 ≤ 17 ∧ idxs p.2.2.1.length (p.2.2.1.getD i n0).2.2.2 = true ∧ (p.2.2.1.getD i n0).2.2.2.length ≤ 3 ∧ ((p.2.2.1.getD i n0).1 = 6 → (p.2.2.1.getD i n0).2.2.2.length = 1) := by
  obtain ⟨q1, q2, _⟩ := nodeIn_parts (node_at h hi)
  generalize p.2.2.1.getD i n0 = n at *
  obtain ⟨kd, a, b, fr⟩ := n
  obtain ⟨h1, h2, _⟩ := nodeB_parts q1
  obtain ⟨_, _, _, _, _, _, _, h3, h4, h5, h6⟩ := nodeB_ab q1
  simp only at h1 h2 q2 ⊢
  refine ⟨h1, h2, q2, ?_, fun e => h4 (by omega)⟩
  have : kd = 1 ∨ kd = 2 ∨ kd = 3 ∨ kd = 4 ∨ kd = 5 ∨ kd = 6 ∨ kd = 7 ∨ kd = 8 ∨ kd = 9 ∨ kd = 10 ∨ kd = 11 ∨ kd = 12 ∨ kd = 13 ∨ kd = 14 ∨ kd = 15 ∨ kd = 16 ∨ kd = 17 := by omega
  have e3 : (kd = 3 ∨ kd = 4 ∨ kd = 9 ∨ kd = 16) ∨ (kd = 5 ∨ kd = 6 ∨ kd = 7 ∨ kd = 8 ∨ kd = 10 ∨ kd = 11 ∨ kd = 12 ∨ kd = 13 ∨ kd = 17) ∨ kd = 15 ∨ (kd = 1 ∨ kd = 2 ∨ kd = 14) := by omega
  rcases e3 with e | e | e | e
  · have := h3 e; omega
  · have := h4 e; omega
  · have := h5 e; omega
  · have := h6 e; omega
theorem from0_at {p : PatchD} (h : formedB p = true) {i : Nat} (hi : i < p.2.2.1.length) : 0 ≤ (p.2.2.1.getD i n0).2.2.2.getD 0 0 ∧ (p.2.2.1.getD i n0).2.2.2.getD 0 0 < p.2.2.1.length := by
  obtain ⟨_, _, q3, _, _⟩ := kind_at h hi
  by_cases hl : 0 < (p.2.2.1.getD i n0).2.2.2.length
  · have := idxs_at q3 (getD_mem (d := (0 : Int)) hl); omega
  · rw [List.getD_eq_getElem?_getD, List.getElem?_eq_none (by omega)]; simp; omega
theorem one_of {l : List Int} (h : l.length = 1) : [l.getD 0 0] = l := by
  match l, h with
  | [x], _ => rfl
theorem idxs_sub {n : Int} {a b : List Int} (h : idxs n b = true) (hs : ∀ x ∈ a, x ∈ b) : idxs n a = true := List.all_eq_true.2 fun x hx => List.all_eq_true.1 h x (hs x hx)
theorem waitsL_sub (n : NodeD) : ∀ x ∈ waitsL n, x ∈ n.2.2.2 := fun x hx => by
  unfold waitsL at hx
  split at hx
  · cases hx
  · exact hx
theorem instrOf_ok {p : PatchD} (h : formedB p = true) {i : Nat} (hi : i < p.2.2.1.length) : InstrOk p.2.2.1.length (instrOf (p.2.2.1.getD i n0) i) := by
  obtain ⟨_, _, q3, q4, _⟩ := kind_at h hi
  exact ⟨⟨by simp [instrOf], by simp [instrOf]; omega⟩, idxs_sub q3 (waitsL_sub _), Nat.le_trans (waitsL_len _) q4⟩
theorem storeOf_ok {p : PatchD} (h : formedB p = true) {i : Nat} (hi : i < p.2.2.1.length) : InstrOk p.2.2.1.length (storeOf (p.2.2.1.getD i n0) i) := by
  obtain ⟨_, _, q3, q4, _⟩ := kind_at h hi
  exact ⟨⟨by simp [storeOf], by simp [storeOf]; omega⟩, q3, q4⟩
theorem mem_at {l : List Int} {x : Int} (h : x ∈ l) : ∃ j, j < l.length ∧ l.getD j 0 = x := by
  obtain ⟨i, hi, rfl⟩ := List.mem_iff_getElem.1 h
  exact ⟨i, hi, by simp [List.getD, hi]⟩
structure CodeOk (ns : List NodeD) (done : List Int) (st : CodeSt) : Prop where
  ok : ∀ x ∈ st.1, InstrOk ns.length x
  len : st.1.length = done.length + st.2.length
  nd : st.2.Nodup
  rng : ∀ x ∈ st.2, 0 ≤ x ∧ x < ns.length
  nodes : (st.1.filter fun x => !decide (x.1 = 18)).map (fun x => x.2.2.2.1) = done
theorem CodeOk.put {p : PatchD} (h : formedB p = true) {done : List Int} {st : CodeSt} {dn : List Int} (hc : CodeOk p.2.2.1 dn st) {d : Nat} (hd : d < p.2.2.1.length) : CodeOk p.2.2.1 dn (putS p.2.2.1 done st d) := by
  cases e : putB p.2.2.1 done st.2 d with
  | false => rw [putS_f e]; exact hc
  | true =>
    rw [putS_t e]
    have hn : (d : Int) ∉ st.2 := by
      simp only [putB, Bool.and_eq_true, Bool.not_eq_true', List.contains_eq_mem, decide_eq_false_iff_not] at e
      exact e.2.1
    refine ⟨fun x hx => ?_, ?_, ?_, fun x hx => ?_, ?_⟩
    · rcases List.mem_append.1 hx with hx | hx
      · exact hc.ok x hx
      · rw [List.mem_singleton.1 hx]; exact storeOf_ok h hd
    · simp only [List.length_append, hc.len, List.length_singleton]; omega
    · refine List.nodup_append.2 ⟨hc.nd, by simp, fun a ha b hb => ?_⟩
      rw [List.mem_singleton.1 hb]; rintro rfl; exact hn ha
    · rcases List.mem_append.1 hx with hx | hx
      · exact hc.rng x hx
      · rw [List.mem_singleton.1 hx]; omega
    · rw [List.filter_append, List.map_append, hc.nodes]
      simp [storeOf]
theorem CodeOk.putN {p : PatchD} (h : formedB p = true) {done dn : List Int} {st : CodeSt} (hc : CodeOk p.2.2.1 dn st) : ∀ m, m ≤ p.2.2.1.length → CodeOk p.2.2.1 dn (putN p.2.2.1 done st m) := by
  intro m
  induction m with
  | zero => intro _; exact hc
  | succ m ih => intro hm; exact (ih (by omega)).put h (by omega)
theorem CodeOk.add {p : PatchD} (h : formedB p = true) {dn : List Int} {st : CodeSt} (hc : CodeOk p.2.2.1 dn st) {i : Nat} (hi : i < p.2.2.1.length) : CodeOk p.2.2.1 (dn ++ [(i : Int)]) (st.1 ++ [instrOf (p.2.2.1.getD i n0) i], st.2) := by
  have hk := (kind_at h hi).2.1
  refine ⟨fun x hx => ?_, ?_, hc.nd, hc.rng, ?_⟩
  · rcases List.mem_append.1 hx with hx | hx
    · exact hc.ok x hx
    · rw [List.mem_singleton.1 hx]; exact instrOf_ok h hi
  · simp only [List.length_append, hc.len, List.length_singleton]; omega
  · rw [List.filter_append, List.map_append, hc.nodes]
    have : (instrOf (p.2.2.1.getD i n0) i).1 ≠ 18 := by show (p.2.2.1.getD i n0).1 ≠ 18; omega
    have e : ([instrOf (p.2.2.1.getD i n0) i].filter fun x => !decide (x.1 = 18)) = [instrOf (p.2.2.1.getD i n0) i] := by
      simp only [List.filter_cons, List.filter_nil]; rw [if_pos (by rw [decide_eq_false this]; rfl)]
    rw [e]; rfl
theorem ord_at {ns : List NodeD} {k : Nat} (hk : k < (ordL ns).length) : 0 ≤ (ordL ns).getD k 0 ∧ ((ordL ns).getD k 0).toNat < ns.length ∧ (ordL ns).getD k 0 < ns.length := by
  obtain ⟨i, h1, h2, _⟩ := ordL_good ns k hk
  rw [h1]; omega
theorem codeK_ok {p : PatchD} (h : formedB p = true) : ∀ k, k ≤ (ordL p.2.2.1).length → CodeOk p.2.2.1 ((ordL p.2.2.1).take k) (codeK p.2.2.1 (ordL p.2.2.1) k) := by
  intro k
  induction k with
  | zero => intro _; exact ⟨by simp [codeK], by simp [codeK], by simp [codeK], by simp [codeK], by simp [codeK]⟩
  | succ k ih =>
    intro hk
    obtain ⟨h0, h1, h2⟩ := ord_at (ns := p.2.2.1) (show k < (ordL p.2.2.1).length by omega)
    have := (ih (by omega)).add h h1
    rw [Int.toNat_of_nonneg h0, ← take_next (d := (0 : Int)) (by omega)] at this
    exact this.putN h _ (Nat.le_refl _)
theorem CodeOk.small {p : PatchD} (h : formedB p = true) {dn : List Int} {st : CodeSt} (hc : CodeOk p.2.2.1 dn st) : st.2.length ≤ p.2.2.1.length := pigeon _ _ hc.nd hc.rng
theorem putAt_ok {p : PatchD} (h : formedB p = true) {k d : Nat} (hk : k < (ordL p.2.2.1).length) (hd : d ≤ p.2.2.1.length) : CodeOk p.2.2.1 (doneAt p.2.2.1 k) (putAt p.2.2.1 k d) := by
  obtain ⟨h0, h1, h2⟩ := ord_at hk
  have := (codeK_ok h k (by omega)).add h h1
  rw [Int.toNat_of_nonneg h0, ← take_next (d := (0 : Int)) hk] at this
  exact this.putN h d hd
def setAll (l is : List Int) (v : Int) : List Int := is.foldl (fun l i => l.set i.toNat v) l
theorem setAll_len {l is : List Int} {v : Int} : (setAll l is v).length = l.length := by
  unfold setAll
  induction is generalizing l with
  | nil => rfl
  | cons i is ih => rw [List.foldl_cons, ih, List.length_set]
theorem setAll_next {l is : List Int} {v : Int} {k : Nat} (h : k < is.length) : setAll l (is.take (k + 1)) v = (setAll l (is.take k) v).set (is.getD k 0).toNat v := by
  unfold setAll; rw [take_next (d := (0 : Int)) h, List.foldl_append]; rfl
def lastK (n : Nat) (code : List InstrD) : Nat → List Int
  | 0 => List.replicate n (-1)
  | t + 1 => setAll (lastK n code t) (code.getD t x0).2.2.2.2.1 t
theorem lastK_len {n : Nat} {code : List InstrD} : ∀ t, (lastK n code t).length = n := by
  intro t
  induction t with
  | zero => simp [lastK]
  | succ t ih => simp only [lastK, setAll_len, ih]
def lastP (n : Nat) (code : List InstrD) (os : List Int) : List Int := setAll (lastK n code code.length) os code.length
theorem lastP_len {n : Nat} {code : List InstrD} {os : List Int} : (lastP n code os).length = n := by unfold lastP; rw [setAll_len, lastK_len]
def freeR (last : List Int) (t : Int) : List Int → Nat
  | [] => 0
  | h :: l => match decide (t < last.getD h.toNat 0) with | true => freeR last t l + 1 | false => 0
theorem freeR_spec (last : List Int) (t : Int) : ∀ (held : List Int), freeR last t held ≤ held.length ∧ (∀ j, j < freeR last t held → t < last.getD (held.getD j 0).toNat 0) ∧ (freeR last t held < held.length → ¬ t < last.getD (held.getD (freeR last t held) 0).toNat 0) := by
  intro held
  induction held with
  | nil => exact ⟨Nat.le_refl _, fun j hj => absurd hj (Nat.not_lt_zero _), fun h => absurd h (Nat.lt_irrefl _)⟩
  | cons x l ih =>
    unfold freeR
    by_cases c : t < last.getD x.toNat 0
    · rw [decide_eq_true c]
      simp only [List.length_cons]
      refine ⟨by omega, fun j hj => ?_, fun hl => ?_⟩
      · cases j with
        | zero => exact c
        | succ j => simpa using ih.2.1 j (by omega)
      · simpa using ih.2.2 (by omega)
    · rw [decide_eq_false c]
      exact ⟨by simp, fun j hj => absurd hj (Nat.not_lt_zero _), fun _ => by simpa using c⟩
theorem freeR_eq {last : List Int} {t : Int} {held : List Int} {r : Nat} (h1 : r ≤ held.length) (h2 : ∀ j, j < r → t < last.getD (held.getD j 0).toNat 0) (h3 : r < held.length → ¬ t < last.getD (held.getD r 0).toNat 0) : freeR last t held = r := by
  obtain ⟨g1, g2, g3⟩ := freeR_spec last t held
  rcases Nat.lt_trichotomy (freeR last t held) r with h | h | h
  · exact absurd (h2 _ h) (g3 (by omega))
  · exact h
  · exact absurd (g2 _ h) (h3 (by omega))
def setH (held : List Int) (r : Nat) (v : Int) : List Int := match decide (r = held.length) with | true => (held ++ [0]).set r v | false => held.set r v
theorem setH_len {held : List Int} {r : Nat} {v : Int} : (setH held r v).length = if r = held.length then held.length + 1 else held.length := by
  unfold setH
  by_cases c : r = held.length
  · rw [decide_eq_true c, if_pos c]; simp
  · rw [decide_eq_false c, if_neg c]; simp
theorem setH_at {held : List Int} {r : Nat} {v : Int} (hr : r ≤ held.length) {j : Nat} (hj : j < (setH held r v).length) : (setH held r v).getD j 0 = if j = r then v else held.getD j 0 := by
  rw [setH_len] at hj
  unfold setH
  by_cases c : r = held.length
  · rw [if_pos c] at hj
    rw [decide_eq_true c]
    simp only
    rw [getD_set (by simp; omega)]
    by_cases e : r = j
    · rw [if_pos e, if_pos e.symm]
    · rw [if_neg e, if_neg (fun h => e h.symm), List.getD_eq_getElem?_getD, List.getD_eq_getElem?_getD, List.getElem?_append_left (by omega)]
  · rw [if_neg c] at hj
    rw [decide_eq_false c]
    simp only
    rw [getD_set (by omega)]
    by_cases e : r = j
    · rw [if_pos e, if_pos e.symm]
    · rw [if_neg e, if_neg (fun h => e h.symm)]
theorem setH_t {held : List Int} {r : Nat} {v : Int} (h : r = held.length) : setH held r v = (held ++ [0]).set r v := by unfold setH; rw [decide_eq_true h]
theorem setH_f {held : List Int} {r : Nat} {v : Int} (h : ¬ r = held.length) : setH held r v = held.set r v := by unfold setH; rw [decide_eq_false h]
def mapR (regs fr : List Int) : List Int := fr.map fun q => regs.getD q.toNat 0
abbrev AllocSt := List Int × List Int × List InstrD
def allocS (last : List Int) (st : AllocSt) (t : Nat) (x : InstrD) : AllocSt := match decide (x.1 = 18) with
  | true => (st.1, st.2.1, st.2.2 ++ [(x.1, x.2.1, x.2.2.1, x.2.2.2.1, mapR st.2.1 x.2.2.2.2.1, x.2.2.2.2.2)])
  | false => (setH st.1 (freeR last t st.1) x.2.2.2.1, st.2.1.set x.2.2.2.1.toNat (freeR last t st.1), st.2.2 ++ [(x.1, x.2.1, x.2.2.1, x.2.2.2.1, mapR st.2.1 x.2.2.2.2.1, (freeR last t st.1 : Int))])
theorem allocS_t {last : List Int} {st : AllocSt} {t : Nat} {x : InstrD} (h : x.1 = 18) : allocS last st t x = (st.1, st.2.1, st.2.2 ++ [(x.1, x.2.1, x.2.2.1, x.2.2.2.1, mapR st.2.1 x.2.2.2.2.1, x.2.2.2.2.2)]) := by unfold allocS; rw [decide_eq_true h]
theorem allocS_f {last : List Int} {st : AllocSt} {t : Nat} {x : InstrD} (h : ¬ x.1 = 18) : allocS last st t x = (setH st.1 (freeR last t st.1) x.2.2.2.1, st.2.1.set x.2.2.2.1.toNat (freeR last t st.1), st.2.2 ++ [(x.1, x.2.1, x.2.2.1, x.2.2.2.1, mapR st.2.1 x.2.2.2.2.1, (freeR last t st.1 : Int))]) := by unfold allocS; rw [decide_eq_false h]
def allocK (last : List Int) (code : List InstrD) (n : Nat) : Nat → AllocSt
  | 0 => ([], List.replicate n 0, [])
  | t + 1 => allocS last (allocK last code n t) t (code.getD t x0)
theorem allocK_t {last : List Int} {code : List InstrD} {n t : Nat} (h : (code.getD t x0).1 = 18) : (allocK last code n (t + 1)).1 = (allocK last code n t).1 ∧ (allocK last code n (t + 1)).2.1 = (allocK last code n t).2.1 ∧
    (allocK last code n (t + 1)).2.2 = (allocK last code n t).2.2 ++ [((code.getD t x0).1, (code.getD t x0).2.1, (code.getD t x0).2.2.1, (code.getD t x0).2.2.2.1, mapR (allocK last code n t).2.1 (code.getD t x0).2.2.2.2.1, (code.getD t x0).2.2.2.2.2)] := by
  simp only [allocK]; rw [allocS_t h]; exact ⟨rfl, rfl, rfl⟩
theorem allocK_f {last : List Int} {code : List InstrD} {n t r : Nat} (h : ¬ (code.getD t x0).1 = 18) (hr : freeR last t (allocK last code n t).1 = r) : (allocK last code n (t + 1)).1 = setH (allocK last code n t).1 r (code.getD t x0).2.2.2.1 ∧ (allocK last code n (t + 1)).2.1 = (allocK last code n t).2.1.set (code.getD t x0).2.2.2.1.toNat (r : Int) ∧
    (allocK last code n (t + 1)).2.2 = (allocK last code n t).2.2 ++ [((code.getD t x0).1, (code.getD t x0).2.1, (code.getD t x0).2.2.1, (code.getD t x0).2.2.2.1, mapR (allocK last code n t).2.1 (code.getD t x0).2.2.2.2.1, (r : Int))] := by
  simp only [allocK]; rw [allocS_f h, hr]; exact ⟨rfl, rfl, rfl⟩
structure HeldOk (n : Nat) (code : List InstrD) (t : Nat) (st : AllocSt) : Prop where
  regs : st.2.1.length = n
  out : st.2.2.length = t
  small : st.1.length ≤ n
  rng : ∀ r, r < st.1.length → 0 ≤ st.1.getD r 0 ∧ st.1.getD r 0 < n
  at_ : ∀ r, r < st.1.length → st.2.1.getD (st.1.getD r 0).toNat 0 = (r : Int)
  old : ∀ r, r < st.1.length → ∃ q, q < t ∧ q < code.length ∧ ¬ (code.getD q x0).1 = 18 ∧ (code.getD q x0).2.2.2.1 = st.1.getD r 0
def Diff (code : List InstrD) : Prop := ∀ q t, q < t → t < code.length → ¬ (code.getD q x0).1 = 18 → ¬ (code.getD t x0).1 = 18 → (code.getD q x0).2.2.2.1 ≠ (code.getD t x0).2.2.2.1
theorem HeldOk.inj {n : Nat} {code : List InstrD} {t : Nat} {st : AllocSt} (h : HeldOk n code t st) {i j : Nat} (hi : i < st.1.length) (hj : j < st.1.length) (e : st.1.getD i 0 = st.1.getD j 0) : i = j := by
  have h1 := h.at_ i hi
  have h2 := h.at_ j hj
  rw [e, h2] at h1; omega
theorem allocK_ok {n : Nat} {code : List InstrD} {last : List Int} (hok : ∀ x ∈ code, InstrOk n x) (hd : Diff code) : ∀ t, t ≤ code.length → HeldOk n code t (allocK last code n t) := by
  intro t
  induction t with
  | zero => intro _; exact ⟨by simp [allocK], by simp [allocK], by simp [allocK], by simp [allocK], by simp [allocK], by simp [allocK]⟩
  | succ t ih =>
    intro ht
    have h := ih (by omega)
    have hx := hok _ (getD_mem (d := x0) (show t < code.length by omega))
    simp only [allocK]
    generalize hxe : code.getD t x0 = x at *
    by_cases c : x.1 = 18
    · rw [allocS_t c]
      exact ⟨h.regs, by simp [h.out], h.small, h.rng, h.at_, fun r hr => by obtain ⟨q, q1, q2⟩ := h.old r hr; exact ⟨q, by omega, q2⟩⟩
    · rw [allocS_f c]
      obtain ⟨g1, g2, g3⟩ := freeR_spec last t (allocK last code n t).1
      generalize freeR last t (allocK last code n t).1 = r at *
      obtain ⟨⟨x1, x2⟩, _, _⟩ := hx
      have hnew : ∀ j, j < (allocK last code n t).1.length → (allocK last code n t).1.getD j 0 ≠ x.2.2.2.1 := fun j hj => by
        obtain ⟨q, q1, q2, q3, q4⟩ := h.old j hj
        rw [← q4]
        have := hd q t q1 (by omega) q3 (by rw [hxe]; exact c)
        rw [hxe] at this; exact this
      have hat : ∀ j, j < (setH (allocK last code n t).1 r x.2.2.2.1).length → (setH (allocK last code n t).1 r x.2.2.2.1).getD j 0 = if j = r then x.2.2.2.1 else (allocK last code n t).1.getD j 0 := fun j hj => setH_at g1 hj
      have hjl : ∀ j, j < (setH (allocK last code n t).1 r x.2.2.2.1).length → j ≠ r → j < (allocK last code n t).1.length := fun j hj hne => by
        rw [setH_len] at hj; split at hj <;> omega
      have hat2 : ∀ j, j < (setH (allocK last code n t).1 r x.2.2.2.1).length → ((allocK last code n t).2.1.set x.2.2.2.1.toNat (r : Int)).getD ((setH (allocK last code n t).1 r x.2.2.2.1).getD j 0).toNat 0 = (j : Int) := fun j hj => by
        rw [hat j hj]
        have hr' := h.regs
        by_cases e : j = r
        · rw [if_pos e, getD_set (by omega), if_pos rfl, e]
        · rw [if_neg e]
          have hj' := hjl j hj e
          have := hnew j hj'
          have hr2 := h.rng j hj'
          rw [getD_set (by omega), if_neg (by omega)]
          exact h.at_ j hj'
      have hrng : ∀ j, j < (setH (allocK last code n t).1 r x.2.2.2.1).length → 0 ≤ (setH (allocK last code n t).1 r x.2.2.2.1).getD j 0 ∧ (setH (allocK last code n t).1 r x.2.2.2.1).getD j 0 < n := fun j hj => by
        rw [hat j hj]
        by_cases e : j = r
        · rw [if_pos e]; exact ⟨x1, x2⟩
        · rw [if_neg e]; exact h.rng j (hjl j hj e)
      refine ⟨by simp [h.regs], by simp [h.out], ?_, hrng, hat2, fun j hj => ?_⟩
      · refine pigeon n _ ?_ (fun y hy => ?_)
        · rw [List.nodup_iff_pairwise_ne]
          refine List.pairwise_iff_getElem.2 fun i j hi hj hij e => ?_
          have k1 := hat2 i hi
          have k2 := hat2 j hj
          rw [show (setH (allocK last code n t).1 r x.2.2.2.1).getD i 0 = (setH (allocK last code n t).1 r x.2.2.2.1).getD j 0 by simp only [List.getD_eq_getElem?_getD, List.getElem?_eq_getElem hi, List.getElem?_eq_getElem hj, e]] at k1
          rw [k2] at k1; omega
        · obtain ⟨i, hi, rfl⟩ := List.mem_iff_getElem.1 hy
          have := hrng i hi
          rwa [List.getD_eq_getElem?_getD, List.getElem?_eq_getElem hi] at this
      · by_cases e : j = r
        · exact ⟨t, by omega, by omega, by rw [hxe]; exact c, by rw [hat j hj, if_pos e, hxe]⟩
        · obtain ⟨q, q1, q2, q3, q4⟩ := h.old j (hjl j hj e)
          exact ⟨q, by omega, q2, q3, by rw [hat j hj, if_neg e]; exact q4⟩
def LiveOk (last held live : List Int) (t : Nat) : Prop := ∀ x, (t : Int) < last.getD x.toNat 0 → (x ∈ live ↔ x ∈ held)
def restL (last : List Int) (t : Int) (live : List Int) : List Int := live.filter fun x => decide (t < last.getD x.toNat 0)
theorem restL_t {last live : List Int} {t : Int} {m : Nat} (hm : m < live.length) (h : t < last.getD (live.getD m 0).toNat 0) : restL last t (live.take (m + 1)) = restL last t (live.take m) ++ [live.getD m 0] := by
  unfold restL; rw [take_next (d := (0 : Int)) hm, List.filter_append]; simp only [List.filter_cons, List.filter_nil]; rw [if_pos (decide_eq_true h)]
theorem restL_f {last live : List Int} {t : Int} {m : Nat} (hm : m < live.length) (h : ¬ t < last.getD (live.getD m 0).toNat 0) : restL last t (live.take (m + 1)) = restL last t (live.take m) := by
  unfold restL; rw [take_next (d := (0 : Int)) hm, List.filter_append]; simp only [List.filter_cons, List.filter_nil]; rw [if_neg (by rw [decide_eq_true_eq]; exact h), List.append_nil]
theorem LiveOk.rest {last held live : List Int} {t : Nat} (h : LiveOk last held live t) {x : Int} : x ∈ restL last t live ↔ (t : Int) < last.getD x.toNat 0 ∧ x ∈ held := by
  unfold restL
  rw [List.mem_filter, decide_eq_true_eq]
  exact ⟨fun ⟨a, b⟩ => ⟨b, (h x b).1 a⟩, fun ⟨a, b⟩ => ⟨(h x a).2 b, a⟩⟩
theorem used_iff {n : Nat} {code : List InstrD} {t : Nat} {st : AllocSt} {last live : List Int} (h : HeldOk n code t st) (hl : LiveOk last st.1 live t) (r : Nat) :
    ((restL last t live).map fun q => st.2.1.getD q.toNat 0).contains (r : Int) = true ↔ r < st.1.length ∧ (t : Int) < last.getD (st.1.getD r 0).toNat 0 := by
  rw [List.contains_iff_mem, List.mem_map]
  constructor
  · rintro ⟨x, hx, e⟩
    obtain ⟨h1, h2⟩ := hl.rest.1 hx
    obtain ⟨j, hj, rfl⟩ := mem_at h2
    have := h.at_ j hj
    rw [e] at this
    obtain rfl : r = j := by omega
    exact ⟨hj, h1⟩
  · rintro ⟨h1, h2⟩
    exact ⟨st.1.getD r 0, hl.rest.2 ⟨h2, getD_mem h1⟩, h.at_ r h1⟩
theorem used_free {n : Nat} {code : List InstrD} {t : Nat} {st : AllocSt} {last live : List Int} (h : HeldOk n code t st) (hl : LiveOk last st.1 live t) {r : Nat}
    (h1 : ∀ j, j < r → ((restL last t live).map fun q => st.2.1.getD q.toNat 0).contains (j : Int) = true) (h2 : ((restL last t live).map fun q => st.2.1.getD q.toNat 0).contains (r : Int) = false) : freeR last t st.1 = r := by
  have g1 : ∀ j, j < r → j < st.1.length ∧ (t : Int) < last.getD (st.1.getD j 0).toNat 0 := fun j hj => (used_iff h hl j).1 (h1 j hj)
  have g2 : ¬ (r < st.1.length ∧ (t : Int) < last.getD (st.1.getD r 0).toNat 0) := fun hh => by rw [(used_iff h hl r).2 hh] at h2; cases h2
  refine freeR_eq ?_ (fun j hj => (g1 j hj).2) fun hr hh => g2 ⟨hr, hh⟩
  rcases Nat.eq_zero_or_pos r with e | e
  · omega
  · have := (g1 (r - 1) (by omega)).1; omega
theorem LiveOk.store {last held live : List Int} {t : Nat} (h : LiveOk last held live t) : LiveOk last held (restL last t live) (t + 1) := fun x hx => by
  rw [h.rest]; exact ⟨fun g => g.2, fun g => ⟨by omega, g⟩⟩
theorem mem_setH {held : List Int} {r : Nat} {v : Int} (hr : r ≤ held.length) {x : Int} : x ∈ setH held r v ↔ x = v ∨ ∃ j, j < held.length ∧ j ≠ r ∧ held.getD j 0 = x := by
  constructor
  · intro hx
    obtain ⟨j, hj, rfl⟩ := mem_at hx
    rw [setH_at hr hj]
    by_cases e : j = r
    · rw [if_pos e]; exact .inl rfl
    · rw [if_neg e]
      refine .inr ⟨j, ?_, e, rfl⟩
      rw [setH_len] at hj; split at hj <;> omega
  · have hl : r < (setH held r v).length := by rw [setH_len]; split <;> omega
    rintro (rfl | ⟨j, hj, hne, rfl⟩)
    · have := getD_mem (d := (0 : Int)) hl
      rwa [setH_at hr hl, if_pos rfl] at this
    · have hl2 : j < (setH held r v).length := by rw [setH_len]; split <;> omega
      have := getD_mem (d := (0 : Int)) hl2
      rwa [setH_at hr hl2, if_neg hne] at this
theorem LiveOk.next {last held live : List Int} {t : Nat} (h : LiveOk last held live t) (v : Int) : LiveOk last (setH held (freeR last t held) v) (restL last t live ++ [v]) (t + 1) := fun x hx => by
  obtain ⟨g1, g2, g3⟩ := freeR_spec last t held
  rw [List.mem_append, List.mem_singleton, h.rest, mem_setH g1]
  constructor
  · rintro (⟨a, b⟩ | rfl)
    · obtain ⟨j, hj, rfl⟩ := mem_at b
      by_cases e : j = freeR last t held
      · exact absurd a (by rw [e]; exact g3 (by omega))
      · exact .inr ⟨j, hj, e, rfl⟩
    · exact .inl rfl
  · rintro (rfl | ⟨j, hj, hne, rfl⟩)
    · exact .inr rfl
    · exact .inl ⟨by omega, getD_mem hj⟩
theorem liveOk_nil (last : List Int) : LiveOk last [] [] 0 := fun x _ => Iff.rfl
def progP (p : PatchD) : ProgD :=
  (p.1, ((allocK (lastP p.2.2.1.length (codeL p.2.2.1) p.2.2.2) (codeL p.2.2.1) p.2.2.1.length (codeL p.2.2.1).length).1.length : Int), p.2.1,
    (allocK (lastP p.2.2.1.length (codeL p.2.2.1) p.2.2.2) (codeL p.2.2.1) p.2.2.1.length (codeL p.2.2.1).length).2.2,
    mapR (allocK (lastP p.2.2.1.length (codeL p.2.2.1) p.2.2.2) (codeL p.2.2.1) p.2.2.1.length (codeL p.2.2.1).length).2.1 p.2.2.2)
def progR (p : PatchD) : ProgD × Int := match patchB p with | true => (progP p, 0) | false => ((0, 0, [], [], []), 1)
theorem progR_t {p : PatchD} (h : patchB p = true) : progR p = (progP p, 0) := by unfold progR; rw [h]
theorem progR_f {p : PatchD} (h : patchB p = false) : progR p = ((0, 0, [], [], []), 1) := by unfold progR; rw [h]
theorem codeL_ok {p : PatchD} (h : formedB p = true) : CodeOk p.2.2.1 (ordL p.2.2.1) (codeK p.2.2.1 (ordL p.2.2.1) (ordL p.2.2.1).length) := by
  have := codeK_ok h _ (Nat.le_refl _)
  rwa [List.take_length] at this
theorem diff_of {code : List InstrD} (h : ((code.filter fun x => !decide (x.1 = 18)).map (fun x => x.2.2.2.1)).Nodup) : Diff code := fun q t hqt ht hq0 ht0 e => by
  have hq : q < code.length := by omega
  have e1 : code = code.take t ++ code[t] :: code.drop (t + 1) := by rw [← List.drop_eq_getElem_cons ht, List.take_append_drop]
  rw [e1, List.filter_append, List.map_append] at h
  have gq : code.getD q x0 = code[q] := by simp [List.getD, hq]
  have gt : code.getD t x0 = code[t] := by simp [List.getD, ht]
  rw [gq] at hq0 e
  rw [gt] at ht0 e
  have m1 : code[q].2.2.2.1 ∈ ((code.take t).filter fun x => !decide (x.1 = 18)).map (fun x => x.2.2.2.1) := by
    refine List.mem_map.2 ⟨code[q], List.mem_filter.2 ⟨?_, by simp [hq0]⟩, rfl⟩
    exact List.mem_iff_getElem.2 ⟨q, by simp; omega, by simp⟩
  have m2 : code[t].2.2.2.1 ∈ ((code[t] :: code.drop (t + 1)).filter fun x => !decide (x.1 = 18)).map (fun x => x.2.2.2.1) := by
    refine List.mem_map.2 ⟨code[t], List.mem_filter.2 ⟨List.mem_cons_self, by simp [ht0]⟩, rfl⟩
  exact (List.nodup_append.1 h).2.2 _ m1 _ m2 e
theorem codeL_parts {p : PatchD} (h : formedB p = true) : (∀ x ∈ codeL p.2.2.1, InstrOk p.2.2.1.length x) ∧ Diff (codeL p.2.2.1) ∧ (codeL p.2.2.1).length ≤ 48 := by
  have hc := codeL_ok h
  refine ⟨hc.ok, diff_of ?_, ?_⟩
  · rw [show codeL p.2.2.1 = (codeK p.2.2.1 (ordL p.2.2.1) (ordL p.2.2.1).length).1 from rfl, hc.nodes]
    exact (ordL_good p.2.2.1).nodup
  · have h1 := hc.len
    have h2 := hc.small h
    have h3 := pigeon p.2.2.1.length _ (ordL_good p.2.2.1).nodup fun x hx => by
      obtain ⟨j, hj, rfl⟩ := mem_at hx
      have := ord_at (ns := p.2.2.1) hj
      omega
    have h4 := (formedB_parts h).1
    show (codeK p.2.2.1 (ordL p.2.2.1) (ordL p.2.2.1).length).1.length ≤ 48
    omega
end Go.Proofs.Ythglggjgjlmhlaa
namespace Go.Proofs.Ythglggjgjlmhlaa
open Go.RowKit
instance : DecidableEq InstrD := inferInstanceAs (DecidableEq (Int × Int × Int × Int × List Int × Int))
instance : DecidableEq ProgD := instDecidableEqProd
def mkX (k : Int) (x : InstrD) : InstrD := (k, k + 1, k + 2, k + 3, markL (k + 4) x.2.2.2.2.1, k + 4 + (x.2.2.2.2.1.length : Int))
def ctX (x : InstrD) : Nat := 5 + x.2.2.2.2.1.length
abbrev markXs (k : Int) (t : List InstrD) : List InstrD := markA mkX ctX k t
theorem mkX_ct (k : Int) (n : InstrD) : ctX (mkX k n) = ctX n := by simp [ctX, mkX, markA_len]
theorem mkX_idem (k : Int) (n : InstrD) : mkX k (mkX k n) = mkX k n := by simp only [mkX, markL_idem, markA_len]
theorem markXs_idem (k : Int) (t : List InstrD) : markXs k (markXs k t) = markXs k t := markA_idem mkX_ct mkX_idem
def ctG (g : ProgD) : Nat := cntA List.length g.2.2.1 + cntA ctX g.2.2.2.1 + g.2.2.2.2.length
def mkG (k : Int) (g : ProgD) : ProgD := (g.1, g.2.1, markLL k g.2.2.1, markXs (k + cntA List.length g.2.2.1) g.2.2.2.1, markL (k + cntA List.length g.2.2.1 + cntA ctX g.2.2.2.1) g.2.2.2.2)
theorem ctG_mk (k : Int) (g : ProgD) : ctG (mkG k g) = ctG g := by
  simp only [ctG, mkG, markA_len, markA_cnt mkX_ct, markA_cnt (fun (_ : Int) (_ : List Int) => (markA_len : (markL _ _).length = _))]
theorem mkG_idem (k : Int) (g : ProgD) : mkG k (mkG k g) = mkG k g := by
  simp only [mkG, markA_cnt mkX_ct, markA_cnt (fun (_ : Int) (_ : List Int) => (markA_len : (markL _ _).length = _)), markL_idem, markLL_idem, markXs_idem]
def heldG (k : Int) (g : ProgD) : Int := match decide (g = mkG k g) with | true => k + ctG g | false => -1
theorem heldG_mark (k : Int) (g : ProgD) : heldG k (mkG k g) = k + ctG g := by
  unfold heldG; rw [decide_eq_true (mkG_idem k g).symm, ctG_mk]
theorem heldG_f1 {k a b : Int} {ts : List (List Int)} {xs : List InstrD} {os : List Int} (h : ¬ ts = markLL k ts) : heldG k (a, b, ts, xs, os) = -1 := by
  unfold heldG; rw [decide_eq_false]; intro e; exact h (congrArg (fun (z : ProgD) => z.2.2.1) e)
theorem heldG_f2 {k a b : Int} {ts : List (List Int)} {xs : List InstrD} {os : List Int} (h : ¬ xs = markXs (k + (cntA List.length ts : Nat)) xs) : heldG k (a, b, ts, xs, os) = -1 := by
  unfold heldG; rw [decide_eq_false]; intro e; exact h (congrArg (fun (z : ProgD) => z.2.2.2.1) e)
theorem heldG_f3 {k a b : Int} {ts : List (List Int)} {xs : List InstrD} {os : List Int} (h : ¬ os = markL (k + (cntA List.length ts : Nat) + (cntA ctX xs : Nat)) os) : heldG k (a, b, ts, xs, os) = -1 := by
  unfold heldG; rw [decide_eq_false]; intro e; exact h (congrArg (fun (z : ProgD) => z.2.2.2.2) e)
theorem heldG_t {k a b : Int} {ts : List (List Int)} {xs : List InstrD} {os : List Int} (h1 : ts = markLL k ts) (h2 : xs = markXs (k + (cntA List.length ts : Nat)) xs) (h3 : os = markL (k + (cntA List.length ts : Nat) + (cntA ctX xs : Nat)) os) :
    k + (cntA List.length ts : Nat) + (cntA ctX xs : Nat) + (cntA ctI os : Nat) = heldG k (a, b, ts, xs, os) := by
  unfold heldG
  rw [decide_eq_true (show (a, b, ts, xs, os) = mkG k (a, b, ts, xs, os) from Prod.ext rfl (Prod.ext rfl (Prod.ext h1 (Prod.ext h2 h3)))), cntI]
  simp only [ctG]; omega
theorem heldG_mark' (k a b : Int) (ts : List (List Int)) (xs : List InstrD) (os : List Int) : heldG k (a, b, markLL k ts, markXs (k + (cntA List.length ts : Nat)) xs, markL (k + (cntA List.length ts : Nat) + (cntA ctX xs : Nat)) os) = k + (ctG (0, 0, ts, xs, os) : Nat) := heldG_mark k (a, b, ts, xs, os)
theorem allocK_small {n : Nat} {code : List InstrD} {last : List Int} (hok : ∀ x ∈ code, InstrOk n x) : ∀ t, t ≤ code.length → ∀ x ∈ (allocK last code n t).2.2, x.2.2.2.2.1.length ≤ 3 := by
  intro t
  induction t with
  | zero => intro _ x hx; simp [allocK] at hx
  | succ t ih =>
    intro ht x hx
    have h3 := (hok _ (getD_mem (d := x0) (show t < code.length by omega))).2.2
    simp only [allocK] at hx
    generalize code.getD t x0 = y at *
    by_cases c : y.1 = 18
    · rw [allocS_t c, List.mem_append] at hx
      rcases hx with hx | hx
      · exact ih (by omega) x hx
      · rw [List.mem_singleton.1 hx]; simpa [mapR] using h3
    · rw [allocS_f c, List.mem_append] at hx
      rcases hx with hx | hx
      · exact ih (by omega) x hx
      · rw [List.mem_singleton.1 hx]; simpa [mapR] using h3
theorem progR_bd (p : PatchD) : ctG (0, 0, (progR p).1.2.2.1, (progR p).1.2.2.2.1, (progR p).1.2.2.2.2) ≤ 1000000 := by
  unfold progR
  split
  · rename_i h
    have hF := (patchB_parts h).1
    obtain ⟨c1, c2, c3⟩ := codeL_parts hF
    have hk := allocK_ok (last := lastP p.2.2.1.length (codeL p.2.2.1) p.2.2.2) c1 c2 _ (Nat.le_refl _)
    have hs := allocK_small (last := lastP p.2.2.1.length (codeL p.2.2.1) p.2.2.2) c1 _ (Nat.le_refl _)
    have ht := tabsB_parts (formedB_parts hF).2.2.1
    have ho := (formedB_parts hF).2.1
    have e1 := cntA_one (ct := List.length) (c := 16) (xs := p.2.1) fun t h => by have := (ht.2 t h).1; omega
    have e2 := cntA_one (ct := ctX) (c := 8) (xs := (allocK (lastP p.2.2.1.length (codeL p.2.2.1) p.2.2.2) (codeL p.2.2.1) p.2.2.1.length (codeL p.2.2.1).length).2.2) fun x h => by have := hs x h; unfold ctX; omega
    rw [hk.out] at e2
    have e3 : (mapR (allocK (lastP p.2.2.1.length (codeL p.2.2.1) p.2.2.2) (codeL p.2.2.1) p.2.2.1.length (codeL p.2.2.1).length).2.1 p.2.2.2).length = p.2.2.2.length := by simp [mapR]
    simp only [ctG, progP]
    have := ht.1
    omega
  · simp [ctG, cntA]
end Go.Proofs.Ythglggjgjlmhlaa