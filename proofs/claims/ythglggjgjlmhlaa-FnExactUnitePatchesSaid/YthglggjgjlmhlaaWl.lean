/-
  What the laws' own functions compute: sizes, marks.
-/
import Derived.Test.YthglggjgjlmhlaaPd
namespace Go.Proofs.Ythglggjgjlmhlaa
set_option linter.unusedSimpArgs false
set_option linter.unusedVariables false

instance : DecidableEq NodeD := inferInstanceAs (DecidableEq (Int × Int × Int × List Int))
instance : DecidableEq PatchD := instDecidableEqProd
/-- What is left behind a size. -/
def szR (n : Nat) (left : Int) : Int := match decide (left < n) with | true => -1 | false => left - n
abbrev szOk (left : Int) : Prop := 0 ≤ left ∧ left ≤ 1048576
abbrev mkOk (k : Int) (n : Nat) : Prop := 0 ≤ k ∧ k + n ≤ 4611686018427387904
theorem szR_lt {n : Nat} {l : Int} (h : 0 ≤ l) (c : szR n l < 0) : szR n l = -1 ∧ l < n := by
  unfold szR at *
  by_cases hh : l < n
  · rw [decide_eq_true hh] at *; exact ⟨rfl, hh⟩
  · rw [decide_eq_false hh] at c; simp only at c; omega
theorem szR_ge {n : Nat} {l : Int} (c : ¬ szR n l < 0) : szR n l = l - n ∧ n ≤ l := by
  unfold szR at *
  by_cases hh : l < n
  · rw [decide_eq_true hh] at c; simp only at c; omega
  · rw [decide_eq_false hh]; exact ⟨rfl, by omega⟩
theorem szR_ge' {n : Nat} {l : Int} (c : 0 ≤ szR n l) : szR n l = l - n ∧ n ≤ l := szR_ge (by omega)
theorem szR_t {n : Nat} {l : Int} (c : l < n) : szR n l = -1 := by unfold szR; rw [decide_eq_true c]
theorem szR_f {n : Nat} {l : Int} (c : n ≤ l) : szR n l = l - n := by unfold szR; rw [decide_eq_false (by omega)]
theorem szR_f' {n : Nat} {l y : Int} (c : n ≤ l) (e : y = l - n) : y = szR n l := by rw [szR_f c]; exact e
section
variable {α : Type} {mk : Int → α → α} {ct : α → Nat} {xs : List α} {k : Int} {m : Nat}
def cntA (ct : α → Nat) : List α → Nat
  | [] => 0
  | x :: l => ct x + cntA ct l
/-- Elements marked one after the other. -/
def markA (mk : Int → α → α) (ct : α → Nat) : Int → List α → List α
  | _, [] => []
  | k, x :: l => mk k x :: markA mk ct (k + ct x) l
theorem markA_len : ∀ {k : Int} {xs : List α}, (markA mk ct k xs).length = xs.length := by
  intro k xs
  induction xs generalizing k with
  | nil => rfl
  | cons x l ih => simp [markA, ih]
theorem cntA_append {ys : List α} : cntA ct (xs ++ ys) = cntA ct xs + cntA ct ys := by
  induction xs with
  | nil => simp [cntA]
  | cons x l ih => simp [cntA, ih]; omega
theorem cntA_next (d : α) (h : m < xs.length) : cntA ct (xs.take (m + 1)) = cntA ct (xs.take m) + ct (xs.getD m d) := by
  rw [take_next (d := d) h, cntA_append]; simp [cntA]
theorem cntA_take (m : Nat) : cntA ct (xs.take m) ≤ cntA ct xs := by
  have := @cntA_append α ct (xs.take m) (xs.drop m)
  rw [List.take_append_drop] at this; omega
theorem cntA_one {c : Nat} (h : ∀ x ∈ xs, ct x ≤ c) : cntA ct xs ≤ c * xs.length := by
  induction xs with
  | nil => simp [cntA]
  | cons x l ih =>
    have h1 := h x List.mem_cons_self
    have h2 := ih fun y hy => h y (List.mem_cons_of_mem _ hy)
    simp only [cntA, List.length_cons, Nat.mul_add, Nat.mul_one]; omega
theorem cntA_at (d : α) (h : m < xs.length) : cntA ct (xs.take m) + ct (xs.getD m d) ≤ cntA ct xs := by
  rw [← cntA_next d h]; exact cntA_take _
theorem markA_append {ys : List α} : markA mk ct k (xs ++ ys) = markA mk ct k xs ++ markA mk ct (k + cntA ct xs) ys := by
  induction xs generalizing k with
  | nil => simp [markA, cntA]
  | cons x l ih => simp only [List.cons_append, markA, ih, cntA]; rw [show k + ((ct x + cntA ct l : Nat) : Int) = k + ct x + cntA ct l by omega]
theorem markA_next (d : α) (h : m < xs.length) : markA mk ct k (xs.take (m + 1)) = markA mk ct k (xs.take m) ++ [mk (k + cntA ct (xs.take m)) (xs.getD m d)] := by
  rw [take_next (d := d) h, markA_append]; simp [markA]
/-- The first m elements are marked. -/
def markT (mk : Int → α → α) (ct : α → Nat) (k : Int) (xs : List α) (m : Nat) : List α := markA mk ct k (xs.take m) ++ xs.drop m
theorem markT_len (h : m ≤ xs.length) : (markT mk ct k xs m).length = xs.length := by
  simp only [markT, List.length_append, markA_len, List.length_take, List.length_drop]; omega
theorem markT_at (d : α) (h : m < xs.length) : (markT mk ct k xs m).getD m d = xs.getD m d := by
  unfold markT
  rw [List.getD_eq_getElem?_getD, List.getD_eq_getElem?_getD, List.getElem?_append_right (by rw [markA_len, List.length_take]; omega), List.getElem?_drop, markA_len, List.length_take]
  congr 2; omega
theorem markT_set (d : α) (h : m < xs.length) : (markT mk ct k xs m).set m (mk (k + cntA ct (xs.take m)) (xs.getD m d)) = markT mk ct k xs (m + 1) := by
  unfold markT
  rw [markA_next d h, List.set_append_right _ _ (by rw [markA_len, List.length_take]; omega), markA_len, List.length_take, (by omega : m - min m xs.length = 0)]
  rw [List.drop_eq_getElem_cons h, List.set_cons_zero, List.append_assoc]
  rfl
theorem markT_zero : markT mk ct k xs 0 = xs := by simp [markT, markA]
theorem markT_all (h : xs.length ≤ m) : markT mk ct k xs m = markA mk ct k xs := by
  unfold markT; rw [List.take_of_length_le h, List.drop_of_length_le h, List.append_nil]
/-- Whether the marks are held: the number behind, or -1. -/
def heldA [DecidableEq α] (mk : Int → α → α) (ct : α → Nat) (k : Int) (xs : List α) : Int := match decide (xs = markA mk ct k xs) with | true => k + cntA ct xs | false => -1
theorem held_next (d : α) (h : m < xs.length) (hp : xs.take m = markA mk ct k (xs.take m)) (hq : xs.getD m d = mk (k + cntA ct (xs.take m)) (xs.getD m d)) : xs.take (m + 1) = markA mk ct k (xs.take (m + 1)) := by
  rw [markA_next d h, ← hp, ← hq]; exact take_next h
theorem held_stop [DecidableEq α] (d : α) (h : m < xs.length) (hq : ¬ xs.getD m d = mk (k + cntA ct (xs.take m)) (xs.getD m d)) : heldA mk ct k xs = -1 := by
  unfold heldA
  rw [decide_eq_false]
  intro e
  apply hq
  have e2 : xs = markA mk ct k (xs.take (m + 1)) ++ markA mk ct (k + cntA ct (xs.take (m + 1))) (xs.drop (m + 1)) := by rw [← markA_append, List.take_append_drop]; exact e
  have e3 : xs[m]? = (markA mk ct k (xs.take (m + 1)) ++ markA mk ct (k + cntA ct (xs.take (m + 1))) (xs.drop (m + 1)))[m]? := by rw [← e2]
  rw [List.getElem?_append_left (by rw [markA_len, List.length_take]; omega), markA_next d h, List.getElem?_append_right (by rw [markA_len, List.length_take]; omega), markA_len, List.length_take, (by omega : m - min m xs.length = 0)] at e3
  have e4 : xs[m]?.getD d = mk (k + cntA ct (xs.take m)) (xs.getD m d) := by rw [e3]; rfl
  rw [← List.getD_eq_getElem?_getD] at e4; exact e4
theorem held_done [DecidableEq α] (h : xs.length ≤ m) (hp : xs.take m = markA mk ct k (xs.take m)) : heldA mk ct k xs = k + cntA ct xs := by
  rw [List.take_of_length_le h] at hp
  unfold heldA; rw [decide_eq_true hp]
theorem heldA_iff [DecidableEq α] : heldA mk ct k xs = k + cntA ct xs ∨ (heldA mk ct k xs = -1 ∧ xs ≠ markA mk ct k xs) := by
  unfold heldA
  by_cases h : xs = markA mk ct k xs
  · rw [decide_eq_true h]; exact .inl rfl
  · rw [decide_eq_false h]; exact .inr ⟨rfl, h⟩
theorem markA_cnt (h : ∀ k x, ct (mk k x) = ct x) : cntA ct (markA mk ct k xs) = cntA ct xs := by
  induction xs generalizing k with
  | nil => rfl
  | cons x l ih => simp only [markA, cntA, h, ih]
theorem markA_idem (h : ∀ k x, ct (mk k x) = ct x) (h2 : ∀ k x, mk k (mk k x) = mk k x) : markA mk ct k (markA mk ct k xs) = markA mk ct k xs := by
  induction xs generalizing k with
  | nil => rfl
  | cons x l ih => simp only [markA, h, h2, ih]
theorem heldA_mark [DecidableEq α] (h : ∀ k x, ct (mk k x) = ct x) (h2 : ∀ k x, mk k (mk k x) = mk k x) : heldA mk ct k (markA mk ct k xs) = k + cntA ct xs := by
  unfold heldA; rw [decide_eq_true (markA_idem h h2).symm, markA_cnt h]
theorem getD_setk {d x : α} (h : m < xs.length) : (xs.set m x).getD m d = x := by
  rw [List.getD_eq_getElem?_getD, List.getElem?_set_self h]; rfl
/-- The first m elements are filled in. -/
def fillT (z : α) (xs : List α) (m : Nat) : List α := xs.take m ++ List.replicate (xs.length - m) z
theorem fillT_len {z : α} (h : m ≤ xs.length) : (fillT z xs m).length = xs.length := by
  simp only [fillT, List.length_append, List.length_take, List.length_replicate]; omega
theorem fillT_zero {z : α} : fillT z xs 0 = List.replicate xs.length z := by simp [fillT]
theorem fillT_all {z : α} (h : xs.length ≤ m) : fillT z xs m = xs := by
  unfold fillT; rw [List.take_of_length_le h, Nat.sub_eq_zero_of_le h]; simp
theorem fillT_set {z : α} (d : α) (h : m < xs.length) : (fillT z xs m).set m (xs.getD m d) = fillT z xs (m + 1) := by
  unfold fillT
  rw [take_next (d := d) h, List.set_append_right _ _ (by rw [List.length_take]; omega), List.length_take, (by omega : m - min m xs.length = 0), show xs.length - m = (xs.length - (m + 1)) + 1 by omega, List.replicate_succ, List.set_cons_zero, List.append_assoc]
  rfl
/-- Whether they are equal. -/
def eqD (x y : α) [DecidableEq α] : Bool := decide (x = y)
theorem eqD_t [DecidableEq α] {x y : α} (h : eqD x y = true) : x = y := of_decide_eq_true h
theorem eqD_f [DecidableEq α] {x y : α} (h : eqD x y = false) : ¬ x = y := of_decide_eq_false h
theorem eqD_rfl [DecidableEq α] (x : α) : eqD x x = true := decide_eq_true rfl
theorem eq_next [DecidableEq α] {ys : List α} (d : α) (hx : m < xs.length) (hl : xs.length = ys.length) (hp : xs.take m = ys.take m) (hq : eqD (xs.getD m d) (ys.getD m d) = true) : xs.take (m + 1) = ys.take (m + 1) := by
  rw [take_next (d := d) hx, take_next (d := d) (by omega), hp, eqD_t hq]
theorem eq_done [DecidableEq α] {ys : List α} (hx : xs.length ≤ m) (hl : xs.length = ys.length) (hp : xs.take m = ys.take m) : eqD xs ys = true := by
  rw [List.take_of_length_le hx, List.take_of_length_le (by omega)] at hp; exact decide_eq_true hp
theorem eq_stop [DecidableEq α] {ys : List α} (d : α) (hq : eqD (xs.getD m d) (ys.getD m d) = false) : eqD xs ys = false := by
  refine decide_eq_false ?_; rintro rfl; exact eqD_f hq rfl
theorem eq_len [DecidableEq α] {ys : List α} (hq : ¬ xs.length = ys.length) : eqD xs ys = false := by
  refine decide_eq_false ?_; rintro rfl; exact hq rfl
end
theorem heldA_neg {α : Type} [DecidableEq α] {mk : Int → α → α} {ct : α → Nat} {xs : List α} {k : Int} (hk : 0 ≤ k) (c : heldA mk ct k xs < 0) : heldA mk ct k xs = -1 ∧ ¬ xs = markA mk ct k xs := by
  rcases @heldA_iff α mk ct xs k _ with h | ⟨h, h2⟩
  · omega
  · exact ⟨h, h2⟩
theorem heldA_pos {α : Type} [DecidableEq α] {mk : Int → α → α} {ct : α → Nat} {xs : List α} {k : Int} (c : 0 ≤ heldA mk ct k xs) : heldA mk ct k xs = k + cntA ct xs ∧ xs = markA mk ct k xs := by
  unfold heldA at *
  by_cases h : xs = markA mk ct k xs
  · rw [decide_eq_true h]; exact ⟨rfl, h⟩
  · rw [decide_eq_false h] at c; simp only at c; omega
def mkI (k : Int) (_ : Int) : Int := k
def ctI (_ : Int) : Nat := 1
abbrev markL (k : Int) (t : List Int) : List Int := markA mkI ctI k t
abbrev markLL (k : Int) (t : List (List Int)) : List (List Int) := markA markL List.length k t
theorem cntI (t : List Int) : cntA ctI t = t.length := by
  induction t with
  | nil => rfl
  | cons x l ih => simp [cntA, ih, ctI]; omega
def mkN (k : Int) (n : NodeD) : NodeD := (k, k + 1, k + 2, markL (k + 3) n.2.2.2)
def ctN (n : NodeD) : Nat := 3 + n.2.2.2.length
abbrev markNs (k : Int) (t : List NodeD) : List NodeD := markA mkN ctN k t
def fromLen (n : NodeD) : Nat := n.2.2.2.length
theorem markL_idem (k : Int) (t : List Int) : markL k (markL k t) = markL k t := markA_idem (fun _ _ => rfl) (fun _ _ => rfl)
theorem markLL_idem (k : Int) (t : List (List Int)) : markLL k (markLL k t) = markLL k t := markA_idem (fun _ _ => markA_len) markL_idem
theorem mkN_ct (k : Int) (n : NodeD) : ctN (mkN k n) = ctN n := by simp [ctN, mkN, markA_len]
theorem mkN_idem (k : Int) (n : NodeD) : mkN k (mkN k n) = mkN k n := by simp only [mkN, markL_idem]
theorem markNs_idem (k : Int) (t : List NodeD) : markNs k (markNs k t) = markNs k t := markA_idem mkN_ct mkN_idem
/-- Sizes. -/
def szL (t : List (List Int)) : Nat := t.length + cntA List.length t
def szNs (t : List NodeD) : Nat := t.length + cntA fromLen t
def szP (p : PatchD) : Nat := szL p.2.1 + szNs p.2.2.1 + p.2.2.2.length
def ctP (p : PatchD) : Nat := cntA List.length p.2.1 + cntA ctN p.2.2.1 + p.2.2.2.length
def mkP (k : Int) (p : PatchD) : PatchD := (p.1, markLL k p.2.1, markNs (k + cntA List.length p.2.1) p.2.2.1, markL (k + cntA List.length p.2.1 + cntA ctN p.2.2.1) p.2.2.2)
theorem ctNs (t : List NodeD) : cntA ctN t = 3 * t.length + cntA fromLen t := by
  induction t with
  | nil => rfl
  | cons x l ih => simp only [cntA, ih, List.length_cons, ctN, fromLen]; omega
theorem ctP_le (p : PatchD) : ctP p ≤ 3 * szP p := by
  unfold ctP szP szL szNs; rw [ctNs]; omega
theorem ctP_mk (k : Int) (p : PatchD) : ctP (mkP k p) = ctP p := by
  simp only [ctP, mkP, markA_len, markA_cnt mkN_ct, markA_cnt (fun (_ : Int) (_ : List Int) => (markA_len : (markL _ _).length = _))]
theorem mkP_idem (k : Int) (p : PatchD) : mkP k (mkP k p) = mkP k p := by
  simp only [mkP, markA_cnt mkN_ct, markA_cnt (fun (_ : Int) (_ : List Int) => (markA_len : (markL _ _).length = _)), markL_idem, markLL_idem, markNs_idem]
/-- The number behind a patch's marks, or -1. -/
def heldP (k : Int) (p : PatchD) : Int := match decide (p = mkP k p) with | true => k + ctP p | false => -1
theorem heldP_mark (k : Int) (p : PatchD) : heldP k (mkP k p) = k + ctP p := by
  unfold heldP; rw [decide_eq_true (mkP_idem k p).symm, ctP_mk]
theorem heldP_f1 {k pi : Int} {ts : List (List Int)} {ns : List NodeD} {os : List Int} (h : ¬ ts = markLL k ts) : heldP k (pi, ts, ns, os) = -1 := by
  unfold heldP; rw [decide_eq_false]; intro e; exact h (congrArg (fun (z : PatchD) => z.2.1) e)
theorem heldP_f2 {k pi : Int} {ts : List (List Int)} {ns : List NodeD} {os : List Int} (h : ¬ ns = markNs (k + (cntA List.length ts : Nat)) ns) : heldP k (pi, ts, ns, os) = -1 := by
  unfold heldP; rw [decide_eq_false]; intro e; exact h (congrArg (fun (z : PatchD) => z.2.2.1) e)
theorem heldP_f3 {k pi : Int} {ts : List (List Int)} {ns : List NodeD} {os : List Int} (h : ¬ os = markL (k + (cntA List.length ts : Nat) + (cntA ctN ns : Nat)) os) : heldP k (pi, ts, ns, os) = -1 := by
  unfold heldP; rw [decide_eq_false]; intro e; exact h (congrArg (fun (z : PatchD) => z.2.2.2) e)
theorem heldP_t {k pi : Int} {ts : List (List Int)} {ns : List NodeD} {os : List Int} (h1 : ts = markLL k ts) (h2 : ns = markNs (k + (cntA List.length ts : Nat)) ns) (h3 : os = markL (k + (cntA List.length ts : Nat) + (cntA ctN ns : Nat)) os) :
    k + (cntA List.length ts : Nat) + (cntA ctN ns : Nat) + (cntA ctI os : Nat) = heldP k (pi, ts, ns, os) := by
  unfold heldP
  rw [decide_eq_true (show (pi, ts, ns, os) = mkP k (pi, ts, ns, os) from Prod.ext rfl (Prod.ext h1 (Prod.ext h2 h3))), cntI]
  simp only [ctP]; omega
theorem cnt_mem {α : Type} {ct : α → Nat} {xs : List α} {x : α} (h : x ∈ xs) : ct x ≤ cntA ct xs := by
  induction xs with
  | nil => cases h
  | cons y l ih =>
    simp only [cntA]
    rcases List.mem_cons.1 h with rfl | h
    · omega
    · have := ih h; omega
theorem fitsP_sz {p : PatchD} (h : szP p ≤ 1099511627776) : fitsP p := by
  unfold szP szL szNs at h
  exact ⟨⟨by omega, fun l hl => by have := cnt_mem (ct := List.length) hl; omega⟩, ⟨by omega, fun l hl => by have := cnt_mem (ct := fromLen) hl; simp only [fromLen] at this; omega⟩, by omega⟩
theorem ctP_z (p : PatchD) : ctP (0, p.2.1, p.2.2.1, p.2.2.2) = ctP p := rfl
theorem smallP_ct {p : PatchD} {a b c d : Nat} (h1 : p.2.1.length ≤ a) (h2 : ∀ l ∈ p.2.1, l.length ≤ 16) (h3 : p.2.2.1.length ≤ b) (h4 : ∀ x ∈ p.2.2.1, x.2.2.2.length ≤ 23) (h5 : p.2.2.2.length ≤ c) (hd : 16 * a + 26 * b + c ≤ d) : ctP p ≤ d := by
  have e1 := cntA_one (ct := List.length) h2
  have e2 := cntA_one (ct := fromLen) (c := 23) h4
  unfold ctP; rw [ctNs]; omega
theorem unitedP_ct (p q : PatchD) : ctP (unitedP p q).1 ≤ 1000000 := by
  unfold unitedP
  cases h : decide (ask2 p q = 0) with
  | false => exact smallP_ct (a := 0) (b := 0) (c := 0) (by simp) (fun _ h => by cases h) (by simp) (fun _ h => by cases h) (by simp) (by omega)
  | true =>
    obtain ⟨h1, h2, _⟩ := ask2_ok (of_decide_eq_true h)
    obtain ⟨p1, p2, p3, p4, p5⟩ := smallP_of h1
    obtain ⟨q1, q2, q3, q4, q5⟩ := smallP_of h2
    simp only
    split
    · exact smallP_ct (a := 0) (b := 0) (c := 0) (by simp) (fun _ h => by cases h) (by simp) (fun _ h => by cases h) (by simp) (by omega)
    · refine smallP_ct (a := 8) (b := 48) (c := 8) ?_ ?_ ?_ ?_ ?_ (by omega)
      · simp only [l12U, List.length_append]; omega
      · intro l hl
        simp only [l12U, List.mem_append] at hl
        rcases hl with hl | hl
        · exact p2 l hl
        · exact q2 l hl
      · simp only [l12U, List.length_append, List.length_map]; omega
      · intro x hx
        simp only [l12U, List.mem_append, List.mem_map] at hx
        rcases hx with hx | ⟨y, hy, rfl⟩
        · exact p4 x hx
        · simp only [shiftN, List.length_map]; exact q4 y hy
      · simp only [l12U, List.length_append, List.length_map]; omega
theorem heldP_mark' (k pi : Int) (ts : List (List Int)) (ns : List NodeD) (os : List Int) : heldP k (pi, markLL k ts, markNs (k + (cntA List.length ts : Nat)) ns, markL (k + (cntA List.length ts : Nat) + (cntA ctN ns : Nat)) os) = k + (ctP (0, ts, ns, os) : Nat) := heldP_mark k (pi, ts, ns, os)
end Go.Proofs.Ythglggjgjlmhlaa
