/-
  The logic of trees, seventh part: rows that are made, written and lengthened.
-/
import Derived.Test.YthglggjgjlmhlaaGf
namespace Go.Proofs.Ythglggjgjlmhlaa
open Go.RowKit
set_option linter.unusedSimpArgs false
set_option linter.unusedVariables false

def castD {t' t : Ty} (h : t' = t) (xs : List t'.den) : List t.den := h ▸ xs
theorem castD_eq {t : Ty} (h : t = t) (xs : List t.den) : castD h xs = xs := rfl
/-- Two lists of names, without doubles. -/
def uni (S S' : List Nat) : List Nat := S ++ S'.filter (fun n => !S.contains n)
theorem uni_l {S S' : List Nat} {n : Nat} (h : n ∈ S) : n ∈ uni S S' := List.mem_append_left _ h
theorem uni_r {S S' : List Nat} {n : Nat} (h : n ∈ S') : n ∈ uni S S' := by
  unfold uni
  by_cases hn : n ∈ S
  · exact List.mem_append_left _ hn
  · exact List.mem_append_right _ (List.mem_filter.2 ⟨h, by simpa using hn⟩)
/-- Cells read as data of a type; the names that they depend on. -/
def rds (σ : St) : (t : Ty) → List CV → Option (t.den × List Nat)
  | .prod a b, l => match rds σ a (l.take a.w), rds σ b (l.drop a.w) with
    | some (x, S), some (y, S') => some ((x, y), uni S S')
    | _, _ => none
  | .int k, l => match l with
    | [.sc (.int k' n)] => if k' = k then some (n, []) else none
    | _ => none
  | .bool, l => match l with
    | [.sc (.bool b)] => some (b, [])
    | _ => none
  | .str, l => match l with
    | [.sc (.string s)] => some (s, [])
    | _ => none
  | .row _ t, l => match l with
    | [.sc (.slice none 0 0)] => some ([], [])
    | [.rd S _ t' xs] => if h : t' = t then some (castD h xs, S) else none
    | [.sub n _ _ _ _ t' xs] => if h : t' = t then some (castD h xs, [n]) else none
    | [.ow n] => match σ.look n with
      | some (.row _ t' xs S) => if h : t' = t then some (castD h xs, n :: S) else none
      | some (.tree _ t' xs none) => if h : t' = t then some (castD h xs, [n]) else none
      | _ => none
    | _ => none
def dfltCells : Ty → List Value
  | .int k => [.int k 0]
  | .bool => [.bool false]
  | .str => [.string ByteArray.empty]
  | .row _ _ => [.slice none 0 0]
  | .prod a b => dfltCells a ++ dfltCells b
theorem Rd.dflt (S : Nat → Prop) (w : World) (t : Ty) : Rd S w t (dfltCells t) t.dflt := by
  induction t with
  | prod a b ha hb => exact ⟨_, _, rfl, ha, hb⟩
  | row e t ih => exact ⟨none, 0, rfl, by simp [Ty.dflt], by simp, fun h => by simp [Ty.dflt] at h⟩
  | _ => simp [Rd, dfltCells, Ty.dflt]
theorem Rd.mono {S S' : Nat → Prop} {w : World} {t : Ty} {us : List Value} {x : t.den} (h : Rd S w t us x) (hS : ∀ b, S b → S' b) : Rd S' w t us x :=
  h.frame fun b _ hb => ⟨hS b hb, rfl⟩
theorem okS.mono {R : Rz} {S S' : List Nat} (h : ∀ n ∈ S, n ∈ S') : ∀ b, okS R S b → okS R S' b := fun _ hb => hb.imp id (h _)
section
variable {R : Rz} {w : World}
theorem one_cell {c : CV} {us : List Value} (h : VRs R w [c] us) : ∃ u, us = [u] ∧ VRc R w c u := by
  obtain ⟨u, us', rfl, h1, h2⟩ := h
  simp only [VRs] at h2
  subst h2
  exact ⟨u, rfl, h1⟩
end
theorem Rd.flat {S S' : Nat → Prop} {w w' : World} : ∀ {t : Ty} {us : List Value} {x : t.den}, t.flat = true → Rd S w t us x → Rd S' w' t us x := by
  intro t
  induction t with
  | row e t _ => intro us x hf; simp [Ty.flat] at hf
  | prod p q hp hq =>
    intro us x hf h
    simp only [Ty.flat, Bool.and_eq_true] at hf
    obtain ⟨u1, u2, rfl, k1, k2⟩ := h
    exact ⟨u1, u2, rfl, hp hf.1 k1, hq hf.2 k2⟩
  | int k => intro us x _ h; exact h
  | bool => intro us x _ h; exact h
  | str => intro us x _ h; exact h
section
variable {R R' : Rz} {w w' : World} {n n' : Nat}
theorem RowO.mv {e : TypeId} {t : Ty} {u : Value} {ys : List t.den} (hf : t.flat = true) (h : RowO R w n e t u ys)
    (k : ∀ (b l cap : Nat), u = .slice (some ⟨b, 0, none⟩) l cap → R.root b = n → b < w.heap.size → w'.heap[b]? = w.heap[b]? ∧ R'.root b = n') : RowO R' w' n' e t u ys := by
  rcases h with h | ⟨b, cap, cur, h1, h2, h3, h4, h5, h6, h7⟩
  · exact .inl h
  · obtain ⟨k1, k2⟩ := k b _ _ h1 h2 (Array.getElem?_eq_some_iff.1 h3).1
    exact .inr ⟨b, cap, cur, h1, k2, by rw [k1]; exact h3, h4, h5, h6, fun i hi => Rd.flat hf (h7 i hi)⟩
theorem ElO.mv {t : Ty} {us : List Value} {x : t.den} (h : ElO R w n t us x)
    (k : ∀ (c b l cap : Nat), us[c]? = some (.slice (some ⟨b, 0, none⟩) l cap) → R.root b = n → b < w.heap.size → w'.heap[b]? = w.heap[b]? ∧ R'.root b = n') : ElO R' w' n' t us x := by
  induction t generalizing us with
  | int _ => exact h
  | bool => exact h
  | str => exact h
  | prod a b ha hb =>
    obtain ⟨u1, u2, rfl, h1, h2⟩ := h
    refine ⟨u1, u2, rfl, ha h1 fun c b l cap hc => k c b l cap ?_, hb h2 fun c b l cap hc => k (u1.length + c) b l cap ?_⟩
    · rw [List.getElem?_append_left (List.getElem?_eq_some_iff.1 hc).1]; exact hc
    · rw [List.getElem?_append_right (by omega)]; simpa using hc
  | row e t ih =>
    obtain ⟨h1, u, rfl, h2⟩ := h
    exact ⟨h1, u, rfl, h2.mv h1 fun b l cap hu => k 0 b l cap (by simp [hu])⟩
theorem ElO.root {t : Ty} {us : List Value} {x : t.den} (h : ElO R w n t us x) {c b l cap : Nat} (hc : us[c]? = some (.slice (some ⟨b, 0, none⟩) l cap)) : R.root b = n ∧ b < w.heap.size := by
  induction t generalizing us c with
  | int _ => simp only [ElO] at h; subst h; cases c <;> simp at hc
  | bool => simp only [ElO] at h; subst h; cases c <;> simp at hc
  | str => simp only [ElO] at h; subst h; cases c <;> simp at hc
  | prod a b ha hb =>
    obtain ⟨u1, u2, rfl, h1, h2⟩ := h
    by_cases hl : c < u1.length
    · rw [List.getElem?_append_left hl] at hc; exact ha h1 hc
    · rw [List.getElem?_append_right (by omega)] at hc; exact hb h2 hc
  | row e t ih =>
    obtain ⟨h1, u, rfl, h2⟩ := h
    cases c with
    | succ c => simp at hc
    | zero =>
      simp only [List.getElem?_cons_zero, Option.some.injEq] at hc
      rcases h2 with ⟨h2, _⟩ | ⟨b', cap', cur, h3, h4, h5, _⟩
      · rw [hc] at h2; cases h2
      · rw [hc] at h3
        cases h3
        exact ⟨h4, (Array.getElem?_eq_some_iff.1 h5).1⟩
/-- The cells of a tree. -/
structure TrL (R : Rz) (w : World) (n b0 : Nat) (t : Ty) (h : Option (Nat × Nat)) (us : List Value) (xs : List t.den) : Prop where
  len : us.length = xs.length * t.w
  el : ∀ i (hi : i < xs.length), ¬ inH h i → ElO R w n t ((us.drop (i * t.w)).take t.w) xs[i]
  inj : InjC us xs.length t.w h b0
theorem TrL.nil (R : Rz) (w : World) (n b0 : Nat) (t : Ty) (h : Option (Nat × Nat)) : TrL R w n b0 t h [] [] := ⟨by simp, fun i h => by simp at h, fun c b l k hc => by simp at hc⟩
theorem div_at {c wd i : Nat} (h : i * wd ≤ c) (h2 : c < i * wd + wd) : c / wd = i := by
  have hw : 0 < wd := by omega
  rw [Nat.div_eq_iff hw]
  omega
theorem div_at' {c wd : Nat} (i : Nat) (h : c < wd) : (i * wd + c) / wd = i := div_at (by omega) (by omega)
theorem TrL.root {b0 : Nat} {t : Ty} {h : Option (Nat × Nat)} {us : List Value} {xs : List t.den} (k : TrL R w n b0 t h us xs) {c b l cap : Nat} (hc : us[c]? = some (.slice (some ⟨b, 0, none⟩) l cap)) (hh : ¬ inH h (c / t.w)) : R.root b = n ∧ b < w.heap.size := by
  have hw := t.w_pos
  have hl := (List.getElem?_eq_some_iff.1 hc).1
  rw [k.len] at hl
  have hi : c / t.w < xs.length := by rw [Nat.div_lt_iff_lt_mul hw]; exact hl
  have e : (c / t.w) * t.w + c % t.w = c := by rw [Nat.mul_comm]; exact Nat.div_add_mod c t.w
  refine (k.el _ hi hh).root (c := c % t.w) (l := l) (cap := cap) ?_
  rw [drop_take_get (Nat.mod_lt _ hw), e]
  exact hc
/-- The cells move into other hands. -/
theorem TrL.mv {b0 b1 : Nat} {t : Ty} {us : List Value} {xs : List t.den} (h : TrL R w n b0 t none us xs)
    (k : ∀ b, R.root b = n → b ≠ b0 → b < w.heap.size → w'.heap[b]? = w.heap[b]? ∧ R'.root b = n' ∧ b ≠ b1) : TrL R' w' n' b1 t none us xs := by
  have hw := t.w_pos
  have key : ∀ (c b l cap : Nat), us[c]? = some (.slice (some ⟨b, 0, none⟩) l cap) → R.root b = n ∧ b < w.heap.size ∧ b ≠ b0 := fun c b l cap hc => by
    obtain ⟨h1, h2⟩ := h.root hc (by simp [inH])
    have hl := (List.getElem?_eq_some_iff.1 hc).1
    rw [h.len] at hl
    exact ⟨h1, h2, (h.inj c b l cap hl (by simp [inH]) hc).1⟩
  refine ⟨h.len, fun i hi hh => (h.el i hi hh).mv fun c b l cap hc hr hlt => ?_, fun c b l cap hc hh hcell => ?_⟩
  · have hcw : c < t.w := by have := (List.getElem?_eq_some_iff.1 hc).1; simp at this; omega
    rw [drop_take_get hcw] at hc
    obtain ⟨_, _, k3⟩ := key _ b l cap hc
    obtain ⟨q1, q2, _⟩ := k b hr k3 hlt
    exact ⟨q1, q2⟩
  · obtain ⟨k1, k2, k3⟩ := key _ b l cap hcell
    exact ⟨(k b k1 k3 k2).2.2, (h.inj c b l cap hc hh hcell).2⟩
theorem TrL.append {b0 : Nat} {t : Ty} {us vs : List Value} {xs ys : List t.den} (h1 : TrL R w n b0 t none us xs) (h2 : TrL R w n b0 t none vs ys)
    (hd : ∀ (c c' b l k l' k' : Nat), us[c]? = some (.slice (some ⟨b, 0, none⟩) l k) → vs[c']? = some (.slice (some ⟨b, 0, none⟩) l' k') → False) : TrL R w n b0 t none (us ++ vs) (xs ++ ys) := by
  have hw := t.w_pos
  refine ⟨by simp [h1.len, h2.len, Nat.add_mul], fun i hi hh => ?_, ?_⟩
  · have hlen : i < xs.length + ys.length := by simpa using hi
    by_cases hx : i < xs.length
    · have h3 := h1.el i hx (by simp [inH])
      have hle : i * t.w + t.w ≤ xs.length * t.w := by rw [← Nat.succ_mul]; exact Nat.mul_le_mul_right _ hx
      rw [List.drop_append_of_le_length (by rw [h1.len]; omega), List.take_append_of_le_length (by simp [h1.len]; omega), List.getElem_append_left hx]
      exact h3
    · have h3 := h2.el (i - xs.length) (by omega) (by simp [inH])
      have e : i * t.w = us.length + (i - xs.length) * t.w := by rw [h1.len, ← Nat.add_mul]; congr 1; omega
      have e2 : (us ++ vs).drop (i * t.w) = vs.drop ((i - xs.length) * t.w) := by
        rw [e, ← List.drop_drop, List.drop_left]
      rw [e2, List.getElem_append_right (by omega)]
      exact h3
  · have at1 : ∀ c v, (us ++ vs)[c]? = some v → (c < us.length ∧ us[c]? = some v) ∨ (us.length ≤ c ∧ vs[c - us.length]? = some v) := fun c v hc => by
      by_cases hl : c < us.length
      · rw [List.getElem?_append_left hl] at hc; exact .inl ⟨hl, hc⟩
      · rw [List.getElem?_append_right (by omega)] at hc; exact .inr ⟨by omega, hc⟩
    have lt1 : ∀ c v, us[c]? = some v → c < xs.length * t.w := fun c v hc => by rw [← h1.len]; exact (List.getElem?_eq_some_iff.1 hc).1
    have lt2 : ∀ c v, vs[c]? = some v → c < ys.length * t.w := fun c v hc => by rw [← h2.len]; exact (List.getElem?_eq_some_iff.1 hc).1
    intro c b l k hc _ hcell
    rcases at1 c _ hcell with ⟨q1, q2⟩ | ⟨q1, q2⟩
    · obtain ⟨k1, k2⟩ := h1.inj c b l k (lt1 _ _ q2) (by simp [inH]) q2
      refine ⟨k1, fun c' l' k' hc' _ hcell' => ?_⟩
      rcases at1 c' _ hcell' with ⟨r1, r2⟩ | ⟨r1, r2⟩
      · exact k2 c' l' k' (lt1 _ _ r2) (by simp [inH]) r2
      · exact (hd _ _ _ _ _ _ _ q2 r2).elim
    · obtain ⟨k1, k2⟩ := h2.inj _ b l k (lt2 _ _ q2) (by simp [inH]) q2
      refine ⟨k1, fun c' l' k' hc' _ hcell' => ?_⟩
      rcases at1 c' _ hcell' with ⟨r1, r2⟩ | ⟨r1, r2⟩
      · exact (hd _ _ _ _ _ _ _ r2 q2).elim
      · have := k2 _ l' k' (lt2 _ _ r2) (by simp [inH]) r2
        omega
/-- A tree object out of a block. -/
theorem OR_tree {e : TypeId} {t : Ty} {h : Option (Nat × Nat)} {xs : List t.den} {cap : Nat} {cur : Array Value} (h1 : R.hd n = .slice (some ⟨R.bk n, 0, none⟩) xs.length cap) (h2 : R.root (R.bk n) = n)
    (h3 : w.heap[R.bk n]? = some (.cells cur e (0, 0))) (h4 : xs.length ≤ cap) (h5 : cap ≤ maxLen) (h6 : cur.size = cap * t.w) (h7 : TrL R w n (R.bk n) t h (cur.toList.take (xs.length * t.w)) xs) : OR R w n (.tree e t xs h) := by
  refine .inr ⟨cap, cur, h1, h2, h3, h4, h5, h6, fun i hi hh => ?_, fun c b l k hc hh hcell => ?_⟩
  · have h8 := h7.el i hi hh
    have hle : i * t.w + t.w ≤ xs.length * t.w := by rw [← Nat.succ_mul]; exact Nat.mul_le_mul_right _ hi
    rw [List.drop_take, List.take_take, Nat.min_eq_left (by omega)] at h8
    exact h8
  · obtain ⟨k1, k2⟩ := h7.inj c b l k hc hh (by rw [List.getElem?_take_of_lt hc]; exact hcell)
    exact ⟨k1, fun c' l' k' hc' hh' hcell' => k2 c' l' k' hc' hh' (by rw [List.getElem?_take_of_lt hc']; exact hcell')⟩
/-- The cells of a tree object. -/
theorem OR_trL {e : TypeId} {t : Ty} {h : Option (Nat × Nat)} {xs : List t.den} (k : OR R w n (.tree e t xs h)) :
    ∃ us, w.ownsRow 0 e t.w (R.hd n) xs.length us ∧ TrL R w n (R.bk n) t h us xs ∧ (R.hd n = .slice none 0 0 ∨ (R.hd n).ownBlock = some (R.bk n) ∧ R.root (R.bk n) = n) := by
  rcases k with ⟨h1, h2⟩ | ⟨cap, cur, h1, h2, h3, h4, h5, h6, h7, h8⟩
  · subst h2
    rw [h1]
    exact ⟨[], World.ownsRow_nil _ _ _ _, TrL.nil _ _ _ _ _ _, .inl rfl⟩
  · rw [h1]
    have hle : xs.length * t.w ≤ cur.size := by rw [h6]; exact Nat.mul_le_mul_right _ h4
    have hl : (cur.toList.take (xs.length * t.w)).length = xs.length * t.w := by simp; omega
    refine ⟨cur.toList.take (xs.length * t.w), ⟨hl, .inr ⟨R.bk n, cap, cur, rfl, Nat.zero_le _, h3, h4, h5, h6, rfl⟩⟩, ⟨hl, fun i hi hh => ?_, fun c b l k hc hh hcell => ?_⟩, .inr ⟨rfl, h2⟩⟩
    · have h9 := h7 i hi hh
      have hle : i * t.w + t.w ≤ xs.length * t.w := by rw [← Nat.succ_mul]; exact Nat.mul_le_mul_right _ hi
      rw [List.drop_take, List.take_take, Nat.min_eq_left (by omega)]
      exact h9
    · rw [List.getElem?_take_of_lt hc] at hcell
      obtain ⟨k1, k2⟩ := h8 c b l k hc hh hcell
      exact ⟨k1, fun c' l' k' hc' hh' hcell' => k2 c' l' k' hc' hh' (by rw [List.getElem?_take_of_lt hc'] at hcell'; exact hcell')⟩
/-- Cells whose slices lie in blocks of the names ms, each in its own. -/
structure Sep (R : Rz) (us : List Value) (ms : List Nat) : Prop where
  src : ∀ (c b l k : Nat), us[c]? = some (.slice (some ⟨b, 0, none⟩) l k) → R.root b ∈ ms
  inj : ∀ (c c' b l k l' k' : Nat), us[c]? = some (.slice (some ⟨b, 0, none⟩) l k) → us[c']? = some (.slice (some ⟨b, 0, none⟩) l' k') → c = c'
theorem Sep.append {us vs : List Value} {ms ns : List Nat} (h1 : Sep R us ms) (h2 : Sep R vs ns) (hd : ∀ m ∈ ms, m ∉ ns) : Sep R (us ++ vs) (ms ++ ns) := by
  have at1 : ∀ c v, (us ++ vs)[c]? = some v → (c < us.length ∧ us[c]? = some v) ∨ (us.length ≤ c ∧ vs[c - us.length]? = some v) := fun c v hc => by
    by_cases hl : c < us.length
    · rw [List.getElem?_append_left hl] at hc; exact .inl ⟨hl, hc⟩
    · rw [List.getElem?_append_right (by omega)] at hc; exact .inr ⟨by omega, hc⟩
  refine ⟨fun c b l k hc => ?_, fun c c' b l k l' k' hc hc' => ?_⟩
  · rcases at1 c _ hc with ⟨_, q⟩ | ⟨_, q⟩
    · exact List.mem_append_left _ (h1.src _ _ _ _ q)
    · exact List.mem_append_right _ (h2.src _ _ _ _ q)
  · rcases at1 c _ hc with ⟨p, q⟩ | ⟨p, q⟩ <;> rcases at1 c' _ hc' with ⟨p', q'⟩ | ⟨p', q'⟩
    · exact h1.inj _ _ _ _ _ _ _ q q'
    · exact (hd _ (h1.src _ _ _ _ q) (h2.src _ _ _ _ q')).elim
    · exact (hd _ (h1.src _ _ _ _ q') (h2.src _ _ _ _ q)).elim
    · have := h2.inj _ _ _ _ _ _ _ q q'; omega
theorem Sep.one {u : Value} {ms : List Nat} (h : ∀ (b l k : Nat), u = .slice (some ⟨b, 0, none⟩) l k → R.root b ∈ ms) : Sep R [u] ms := by
  refine ⟨fun c b l k hc => ?_, fun c c' b l k l' k' hc hc' => ?_⟩
  · cases c with
    | zero => exact h b l k (by simpa using hc)
    | succ c => simp at hc
  · cases c with
    | zero =>
      cases c' with
      | zero => rfl
      | succ c => simp at hc'
    | succ c => simp at hc
end
/-- Cells that become an element of a tree: what they read as, and the rows that move into it. -/
def elT (σ : St) (pos : Option (Nat × Nat × Nat)) : Nat → (t : Ty) → List CV → Option (t.den × List Nat)
  | o, .prod a b, l => match elT σ pos o a (l.take a.w), elT σ pos (o + a.w) b (l.drop a.w) with
    | some (x, ms), some (y, ms') => some ((x, y), ms ++ ms')
    | _, _ => none
  | _, .int k, l => match l with
    | [.sc (.int k' n)] => if k' = k then some (n, []) else none
    | _ => none
  | _, .bool, l => match l with
    | [.sc (.bool b)] => some (b, [])
    | _ => none
  | _, .str, l => match l with
    | [.sc (.string s)] => some (s, [])
    | _ => none
  | o, .row e t, l => match t.flat with
    | false => none
    | true => match l with
      | [.sc (.slice none 0 0)] => some ([], [])
      | [.ow m] => match σ.look m with
        | some (.row e' t' xs _) => if e' = e ∧ 5 < m then if h : t' = t then some (castD h xs, [m]) else none else none
        | _ => none
      | [.sub n i wd o' e' t' xs] => if pos = some (n, i, wd) ∧ o' = o ∧ e' = e then if h : t' = t then some (castD h xs, []) else none else none
      | _ => none
def elemsT (σ : St) (t : Ty) : List AV → Option (List t.den × List Nat)
  | [] => some ([], [])
  | v :: l => match cellsA v with
    | some cs => if cs.all (cvOne σ) then match elT σ none 0 t cs, elemsT σ t l with
      | some (x, ms), some (xs, ms') => some (x :: xs, ms ++ ms')
      | _, _ => none else none
    | none => none
section
variable {R0 R R' : Rz} {w0 w w' : World} {σ : St} {a : Act} {n' : Nat} {pos : Option (Nat × Nat × Nat)}
theorem OR_rowO {n : Nat} {e : TypeId} {t : Ty} {xs : List t.den} {S : List Nat} (hf : t.flat = true) (h : OR R w n (.row e t xs S)) : RowO R w n e t (R.hd n) xs := by
  rcases h with h | ⟨cap, cur, h1, h2, h3, h4, h5, h6, h7⟩
  · exact .inl h
  · exact .inr ⟨R.bk n, cap, cur, h1, h2, h3, h4, h5, h6, fun i hi => Rd.flat hf (h7 i hi)⟩
theorem elT_ok (hs : Sim R0 w0 R σ a w) (hm : List Nat) (k1 : ∀ b, R.root b ∈ hm → b < w.heap.size → w'.heap[b]? = w.heap[b]? ∧ R'.root b = n') : ∀ (t : Ty) {o : Nat} {l : List CV} {us : List Value} {x : t.den} {ms : List Nat},
    VRs R w l us → elT σ pos o t l = some (x, ms) → (∀ m ∈ ms, m ∈ hm) →
    (∀ n i wd, pos = some (n, i, wd) → ∀ (c o : Nat) (e : TypeId) (t : Ty) (xs : List t.den) (b l' k : Nat), l[c]? = some (.sub n i wd o e t xs) → us[c]? = some (.slice (some ⟨b, 0, none⟩) l' k) → R.root b = n → b < w.heap.size → w'.heap[b]? = w.heap[b]? ∧ R'.root b = n') → ElO R' w' n' t us x := by
  intro t
  induction t with
  | int k =>
    intro o l us x ms h1 h2 _ _
    simp only [elT] at h2
    split at h2
    · split at h2
      · rename_i e; cases h2; subst e
        obtain ⟨u, rfl, h3⟩ := one_cell h1
        cases h3; rfl
      · cases h2
    · cases h2
  | bool =>
    intro o l us x ms h1 h2 _ _
    simp only [elT] at h2
    split at h2
    · cases h2
      obtain ⟨u, rfl, h3⟩ := one_cell h1
      cases h3; rfl
    · cases h2
  | str =>
    intro o l us x ms h1 h2 _ _
    simp only [elT] at h2
    split at h2
    · cases h2
      obtain ⟨u, rfl, h3⟩ := one_cell h1
      cases h3; rfl
    · cases h2
  | row e t ih =>
    intro o l us x ms h1 h2 hms k2
    simp only [elT] at h2
    split at h2
    · cases h2
    rename_i hf
    refine ⟨hf, ?_⟩
    split at h2
    · cases h2
      obtain ⟨u, rfl, h3⟩ := one_cell h1
      cases h3
      exact ⟨_, rfl, .inl ⟨rfl, rfl⟩⟩
    · rename_i m
      split at h2
      · rename_i e' t' xs S he
        split at h2
        case isFalse => cases h2
        rename_i hc
        obtain ⟨rfl, hc⟩ := hc
        split at h2
        · rename_i ht; subst ht; cases h2
          obtain ⟨u, rfl, h3⟩ := one_cell h1
          refine ⟨u, rfl, ?_⟩
          have h3 : u = R.hd m := h3
          rw [h3]
          exact (OR_rowO hf (hs.look he)).mv hf fun b l k hu hr hlt => k1 b (by rw [hr]; exact hms m (by simp)) hlt
        · cases h2
      · cases h2
    · rename_i n i wd o' e' t' xs
      split at h2
      case isFalse => cases h2
      rename_i hc
      obtain ⟨hp, rfl, rfl⟩ := hc
      split at h2
      · rename_i ht; subst ht; cases h2
        obtain ⟨u, rfl, h3⟩ := one_cell h1
        refine ⟨u, rfl, ?_⟩
        exact h3.2.2.mv hf fun b l k hu hr hlt => k2 n i wd hp 0 _ _ _ _ b l k (by rfl) (by simp [hu]) hr hlt
      · cases h2
    · cases h2
  | prod p q hp hq =>
    intro o l us x ms h1 h2 hms k2
    simp only [elT] at h2
    split at h2
    · rename_i y m1 z m2 e1 e2
      cases h2
      refine ⟨us.take p.w, us.drop p.w, (List.take_append_drop p.w us).symm, hp (h1.take p.w) e1 (fun m hm => hms m (List.mem_append_left _ hm)) ?_, hq (h1.drop p.w) e2 (fun m hm => hms m (List.mem_append_right _ hm)) ?_⟩
      · intro n i wd hpos c o e t xs b l' k hl hu
        have hlt : c < p.w := by have := (List.getElem?_eq_some_iff.1 hu).1; simp at this; omega
        rw [List.getElem?_take_of_lt hlt] at hl hu
        exact k2 n i wd hpos c o e t xs b l' k hl hu
      · intro n i wd hpos c o e t xs b l' k hl hu
        rw [List.getElem?_drop] at hl hu
        exact k2 n i wd hpos _ o e t xs b l' k hl hu
    · cases h2
theorem elT_sep (hs : Sim R0 w0 R σ a w) : ∀ (t : Ty) {o : Nat} {l : List CV} {us : List Value} {x : t.den} {ms : List Nat}, VRs R w l us → elT σ none o t l = some (x, ms) → ms.Nodup → Sep R us ms := by
  intro t
  induction t with
  | int k =>
    intro o l us x ms h1 h2 _
    simp only [elT] at h2
    split at h2
    · split at h2
      · rename_i e; cases h2; subst e
        obtain ⟨u, rfl, h3⟩ := one_cell h1
        cases h3; exact Sep.one (by intro b l k h; cases h)
      · cases h2
    · cases h2
  | bool =>
    intro o l us x ms h1 h2 _
    simp only [elT] at h2
    split at h2
    · cases h2
      obtain ⟨u, rfl, h3⟩ := one_cell h1
      cases h3; exact Sep.one (by intro b l k h; cases h)
    · cases h2
  | str =>
    intro o l us x ms h1 h2 _
    simp only [elT] at h2
    split at h2
    · cases h2
      obtain ⟨u, rfl, h3⟩ := one_cell h1
      cases h3; exact Sep.one (by intro b l k h; cases h)
    · cases h2
  | row e t ih =>
    intro o l us x ms h1 h2 _
    simp only [elT] at h2
    split at h2
    · cases h2
    rename_i hf
    split at h2
    · cases h2
      obtain ⟨u, rfl, h3⟩ := one_cell h1
      cases h3
      exact Sep.one (by intro b l k h; cases h)
    · rename_i m
      split at h2
      · rename_i e' t' xs S he
        split at h2
        case isFalse => cases h2
        rename_i hc
        obtain ⟨rfl, hc⟩ := hc
        split at h2
        · rename_i ht; subst ht; cases h2
          obtain ⟨u, rfl, h3⟩ := one_cell h1
          refine Sep.one fun b l k hu => ?_
          have h3 : u = R.hd m := h3
          rcases hs.look he with ⟨h4, _⟩ | ⟨cap, cur, h4, h5, _⟩
          · rw [← h3, hu] at h4; cases h4
          · rw [← h3, hu] at h4
            cases h4
            simp [h5]
        · cases h2
      · cases h2
    · split at h2
      case isFalse => cases h2
      rename_i hc
      cases hc.1
    · cases h2
  | prod p q hp hq =>
    intro o l us x ms h1 h2 hn
    simp only [elT] at h2
    split at h2
    · rename_i y m1 z m2 e1 e2
      cases h2
      obtain ⟨n1, n2, n3⟩ := List.nodup_append.1 hn
      have := (hp (h1.take p.w) e1 n1).append (hq (h1.drop p.w) e2 n2) (fun m hm hm' => n3 m hm m hm' rfl)
      rwa [List.take_append_drop] at this
    · cases h2
theorem elT_lt (hs : Sim R0 w0 R σ a w) : ∀ (t : Ty) {o : Nat} {l : List CV} {us : List Value} {x : t.den} {ms : List Nat}, VRs R w l us → elT σ none o t l = some (x, ms) → ∀ {c b l' k : Nat}, us[c]? = some (.slice (some ⟨b, 0, none⟩) l' k) → b < w.heap.size := by
  intro t o l us x ms h1 h2 c b l' k hc
  exact ((elT_ok (R' := ⟨fun b => if R.root b ∈ ms then 0 else 1, R.hd, R.bk⟩) (w' := w) (n' := 0) hs ms (fun b hb _ => ⟨rfl, by simp [hb]⟩) t h1 h2 (fun m hm => hm) (fun _ _ _ h => by cases h)).root hc).2
end
section
variable {P : Program} {R0 R : Rz} {w0 w : World} {σ : St} {a : Act} {o : Oper} {K : Act → World → Prop} {Q : Exit → Act → World → Prop}
theorem rds_ok (hs : Sim R0 w0 R σ a w) : ∀ (t : Ty) {l : List CV} {us : List Value} {x : t.den} {S : List Nat}, VRs R w l us → rds σ t l = some (x, S) → Rd (okS R S) w t us x := by
  intro t
  induction t with
  | int k =>
    intro l us x S h1 h2
    simp only [rds] at h2
    split at h2
    · split at h2
      · rename_i e; cases h2; subst e
        obtain ⟨u, rfl, h3⟩ := one_cell h1
        cases h3; rfl
      · cases h2
    · cases h2
  | bool =>
    intro l us x S h1 h2
    simp only [rds] at h2
    split at h2
    · cases h2
      obtain ⟨u, rfl, h3⟩ := one_cell h1
      cases h3; rfl
    · cases h2
  | str =>
    intro l us x S h1 h2
    simp only [rds] at h2
    split at h2
    · cases h2
      obtain ⟨u, rfl, h3⟩ := one_cell h1
      cases h3; rfl
    · cases h2
  | row e t ih =>
    intro l us x S h1 h2
    simp only [rds] at h2
    split at h2
    · cases h2
      obtain ⟨u, rfl, h3⟩ := one_cell h1
      cases h3
      exact Rd.dflt _ _ (.row e t)
    · rename_i S' e' t' xs
      split at h2
      · rename_i ht; subst ht; cases h2
        obtain ⟨u, rfl, h3⟩ := one_cell h1
        exact h3
      · cases h2
    · rename_i n q wd o e' t' xs
      split at h2
      · rename_i ht; subst ht; cases h2
        obtain ⟨u, rfl, h3⟩ := one_cell h1
        exact h3.2.2.rd
      · cases h2
    · rename_i n
      split at h2
      · rename_i e' t' xs S' he
        split at h2
        · rename_i ht; subst ht; cases h2
          obtain ⟨u, rfl, h3⟩ := one_cell h1
          have := row_reads (p := .ow n) hs h3 (e := e') (t := t') (xs := xs) (by simp [rowOf, he])
          simp only [srcOf, he] at this
          exact this
        · cases h2
      · rename_i e' t' xs he
        split at h2
        · rename_i ht; subst ht; cases h2
          obtain ⟨u, rfl, h3⟩ := one_cell h1
          have := row_reads (p := .ow n) hs h3 (e := e') (t := t') (xs := xs) (by simp [rowOf, he])
          simp only [srcOf, he] at this
          exact this
        · cases h2
      · cases h2
    · cases h2
  | prod p q hp hq =>
    intro l us x S h1 h2
    simp only [rds] at h2
    split at h2
    · rename_i y S1 z S2 e1 e2
      cases h2
      have k1 := hp (h1.take p.w) e1
      have k2 := hq (h1.drop p.w) e2
      exact ⟨_, _, (List.take_append_drop p.w us).symm, k1.mono (okS.mono fun _ => uni_l), k2.mono (okS.mono fun _ => uni_r)⟩
    · cases h2

/-- The elements of a slice literal. -/
def elems (σ : St) (t : Ty) : List AV → Option (List t.den × List Nat)
  | [] => some ([], [])
  | v :: l => match cellsA v with
    | some cs => if cs.all (cvOne σ) then match rds σ t cs, elems σ t l with
      | some (x, S), some (xs, S') => some (x :: xs, uni S S')
      | _, _ => none else none
    | none => none
theorem elems_length {t : Ty} : ∀ {l : List AV} {xs : List t.den} {S : List Nat}, elems σ t l = some (xs, S) → xs.length = l.length := by
  intro l
  induction l with
  | nil => intro xs S h; simp only [elems, Option.some.injEq, Prod.mk.injEq] at h; obtain ⟨rfl, rfl⟩ := h; rfl
  | cons v l ih =>
    intro xs S h
    simp only [elems] at h
    split at h
    case h_2 => cases h
    split at h
    case isFalse => cases h
    split at h
    · rename_i x S1 ys S2 e1 e2
      cases h
      simp [ih e2]
    · cases h
/-- The cells of a row whose elements read as xs. -/
def RdL (S : Nat → Prop) (w : World) (t : Ty) (us : List Value) (xs : List t.den) : Prop := us.length = xs.length * t.w ∧ ∀ i (h : i < xs.length), Rd S w t ((us.drop (i * t.w)).take t.w) xs[i]
theorem RdL.nil (S : Nat → Prop) (w : World) (t : Ty) : RdL S w t [] [] := ⟨by simp, fun i h => by simp at h⟩
theorem RdL.append {S : Nat → Prop} {t : Ty} {us vs : List Value} {xs ys : List t.den} (h1 : RdL S w t us xs) (h2 : RdL S w t vs ys) : RdL S w t (us ++ vs) (xs ++ ys) := by
  refine ⟨by simp [h1.1, h2.1, Nat.add_mul], fun i hi => ?_⟩
  have hlen : i < xs.length + ys.length := by simpa using hi
  by_cases hx : i < xs.length
  · have h3 := h1.2 i hx
    have hle : i * t.w + t.w ≤ xs.length * t.w := by rw [← Nat.succ_mul]; exact Nat.mul_le_mul_right _ hx
    rw [List.drop_append_of_le_length (by rw [h1.1]; omega), List.take_append_of_le_length (by simp [h1.1]; omega), List.getElem_append_left hx]
    exact h3
  · have h3 := h2.2 (i - xs.length) (by omega)
    have e : i * t.w = us.length + (i - xs.length) * t.w := by rw [h1.1, ← Nat.add_mul]; congr 1; omega
    have e2 : (us ++ vs).drop (i * t.w) = vs.drop ((i - xs.length) * t.w) := by
      rw [e, ← List.drop_drop, List.drop_left]
    rw [e2, List.getElem_append_right (by omega)]
    exact h3
theorem RdL.one {S : Nat → Prop} {t : Ty} {us : List Value} {x : t.den} (h : Rd S w t us x) : RdL S w t us [x] := by
  have hl := h.len
  refine ⟨by simp [hl], fun i hi => ?_⟩
  have : i = 0 := by simpa using hi
  subst this
  simp only [Nat.zero_mul, List.drop_zero, List.getElem_cons_zero]
  rw [List.take_of_length_le (by omega)]
  exact h
theorem RdL.mono {S S' : Nat → Prop} {t : Ty} {us : List Value} {xs : List t.den} (h : RdL S w t us xs) (hS : ∀ b, S b → S' b) : RdL S' w t us xs := ⟨h.1, fun i hi => (h.2 i hi).mono hS⟩
theorem RdL.fr {N M S : List Nat} {R' : Rz} {w' : World} {t : Ty} {us : List Value} {xs : List t.den} (h : RdL (okS R S) w t us xs) (hf : FR N M R w R' w') (h0 : 0 ∉ N) (hS : ∀ n ∈ S, n ∉ N) : RdL (okS R' S) w' t us xs :=
  ⟨h.1, fun i hi => (h.2 i hi).fr hf h0 hS⟩
theorem RdL.replicate {S : Nat → Prop} {t : Ty} (n : Nat) : RdL S w t ((List.replicate n (dfltCells t)).flatten) (List.replicate n t.dflt) := by
  induction n with
  | zero => exact RdL.nil _ _ _
  | succ n ih =>
    rw [List.replicate_succ, List.replicate_succ, List.flatten_cons]
    exact (RdL.one (Rd.dflt S w t)).append ih
/-- A row object out of a block. -/
theorem OR_row {n : Nat} {e : TypeId} {t : Ty} {xs : List t.den} {S : List Nat} {cap : Nat} {cur : Array Value} (h1 : R.hd n = .slice (some ⟨R.bk n, 0, none⟩) xs.length cap) (h2 : R.root (R.bk n) = n)
    (h3 : w.heap[R.bk n]? = some (.cells cur e (0, 0))) (h4 : xs.length ≤ cap) (h5 : cap ≤ maxLen) (h6 : cur.size = cap * t.w) (h7 : RdL (okS R S) w t (cur.toList.take (xs.length * t.w)) xs) : OR R w n (.row e t xs S) := by
  refine .inr ⟨cap, cur, h1, h2, h3, h4, h5, h6, fun i hi => ?_⟩
  have h8 := h7.2 i hi
  have hle : i * t.w + t.w ≤ xs.length * t.w := by rw [← Nat.succ_mul]; exact Nat.mul_le_mul_right _ hi
  rw [List.drop_take, List.take_take, Nat.min_eq_left (by omega)] at h8
  exact h8
/-- The cells of a row object. -/
theorem OR_cells {n : Nat} {e : TypeId} {t : Ty} {xs : List t.den} {S : List Nat} (h : OR R w n (.row e t xs S)) :
    ∃ us, w.ownsRow 0 e t.w (R.hd n) xs.length us ∧ RdL (okS R S) w t us xs ∧ (R.hd n = .slice none 0 0 ∨ (R.hd n).ownBlock = some (R.bk n) ∧ R.root (R.bk n) = n) := by
  rcases h with ⟨h1, h2⟩ | ⟨cap, cur, h1, h2, h3, h4, h5, h6, h7⟩
  · subst h2
    rw [h1]
    exact ⟨[], World.ownsRow_nil _ _ _ _, RdL.nil _ _ _, .inl rfl⟩
  · rw [h1]
    have hle : xs.length * t.w ≤ cur.size := by rw [h6]; exact Nat.mul_le_mul_right _ h4
    have hl : (cur.toList.take (xs.length * t.w)).length = xs.length * t.w := by simp; omega
    refine ⟨cur.toList.take (xs.length * t.w), ⟨hl, .inr ⟨R.bk n, cap, cur, rfl, Nat.zero_le _, h3, h4, h5, h6, rfl⟩⟩, ⟨hl, fun i hi => ?_⟩, .inr ⟨rfl, h2⟩⟩
    have h8 := h7 i hi
    have hle : i * t.w + t.w ≤ xs.length * t.w := by rw [← Nat.succ_mul]; exact Nat.mul_le_mul_right _ hi
    rw [List.drop_take, List.take_take, Nat.min_eq_left (by omega)]
    exact h8

def aLit (P : Program) (G : TypeId → Option Ty) (σ : St) (d : Option Tmp) (tt : TypeId) (len : Nat) (parts : List (Nat × Operand)) : Option Res :=
  match P.underlying tt with
  | some (.slice e) => match G e with
    | some t => if szOf P e = some t.w ∧ len = parts.length ∧ parts.map (·.1) = List.range len ∧ len * t.w ≤ 2 ^ 24 ∧ (zeroOf P e).isSome then
        match t.flat with
        | true => match elems σ t (parts.map fun p => σ.ev p.2) with
          | some (xs, _) => some ⟨True, .c (.ow (nm d)), [nm d], [nm d], [(nm d, .row e t xs [])]⟩
          | none => none
        | false => match elemsT σ t (parts.map fun p => σ.ev p.2) with
          | some (xs, ms) => if ms.Nodup ∧ ¬ ms.contains (nm d) ∧ ms.all (fun m => 5 < m) then some ⟨True, .c (.ow (nm d)), nm d :: ms, nm d :: ms, [(nm d, .tree e t xs none)]⟩ else none
          | none => match elems σ t (parts.map fun p => σ.ev p.2) with
            | some (xs, S) => if S.contains (nm d) then none else some ⟨True, .c (.ow (nm d)), [nm d], [nm d], [(nm d, .row e t xs S)]⟩
            | none => none
      else none
    | none => none
  | _ => none
/-- The cells of a slice literal. -/
theorem lit_cells (tw : Nat) : ∀ (parts : List (Nat × Operand)) (k : Nat) (us : Array Value), (∀ p ∈ parts, (a.eval p.2).cells.size = tw) →
    parts.map (·.1) = List.range' k parts.length → (k + parts.length) * tw ≤ us.size →
    ∃ us' : Array Value, Instr.fill (fun i => some (i * tw, tw)) us (parts.map fun p => (p.1, a.eval p.2)) = some us' ∧ us'.size = us.size ∧
      (∀ q, q < k * tw → us'[q]? = us[q]?) ∧ (us'.toList.drop (k * tw)).take (parts.length * tw) = (parts.map fun p => (a.eval p.2).cells.toList).flatten := by
  intro parts
  induction parts with
  | nil =>
    intro k us _ _ _
    exact ⟨us, rfl, rfl, fun _ _ => rfl, by simp⟩
  | cons p parts ih =>
    intro k us h1 h2 h3
    obtain ⟨i, x⟩ := p
    simp only [List.map_cons, List.length_cons, List.range'_succ, List.cons.injEq] at h2
    obtain ⟨rfl, h2⟩ := h2
    have hl := h1 _ List.mem_cons_self
    simp only at hl
    simp only [List.length_cons] at h3
    have h6 : (i + 1 + parts.length) * tw ≤ us.size := by rw [show i + 1 + parts.length = i + (parts.length + 1) by omega]; exact h3
    have h6' : i * tw + tw + parts.length * tw ≤ us.size := by rw [Nat.add_mul, Nat.add_mul, Nat.one_mul] at h6; exact h6
    have hf : ((a.eval x).cells.zipIdx.foldl (fun cs (c, j) => cs.setIfInBounds (i * tw + j) c) us).toList = splice us.toList (i * tw) (a.eval x).cells.toList := by
      have := fold_splice (a.eval x).cells.toList us (i * tw) 0 (by simp; omega)
      rw [Nat.add_zero] at this
      rw [← this, ← Array.foldl_toList]
      simp
    obtain ⟨us', k1, k2, k3, k4⟩ := ih (i + 1) ((a.eval x).cells.zipIdx.foldl (fun cs (c, j) => cs.setIfInBounds (i * tw + j) c) us) (fun p hp => h1 p (List.mem_cons_of_mem _ hp)) h2 (by
      rw [← Array.length_toList, hf, splice_length _ _ _ (by simp; omega)]; simpa using h6)
    have hsz : us'.size = us.size := by rw [k2, ← Array.length_toList, hf, splice_length _ _ _ (by simp; omega)]; simp
    have hg : ∀ q, q < (i + 1) * tw → us'.toList[q]? = (splice us.toList (i * tw) (a.eval x).cells.toList)[q]? := fun q hq => by
      rw [← hf, Array.getElem?_toList, Array.getElem?_toList]; exact k3 q hq
    refine ⟨us', ?_, hsz, fun q hq => ?_, ?_⟩
    · have hcond : ¬ ((a.eval x).cells.size ≠ tw ∨ i * tw + (a.eval x).cells.size > us.size) := by
        rintro (h | h)
        · exact h hl
        · omega
      simp only [List.map_cons, Instr.fill]
      rw [if_neg (by simpa using hcond)]
      exact k1
    · have := hg q (by rw [Nat.add_mul]; omega)
      rw [splice_get _ _ _ (by simp; omega), if_neg (by omega), Array.getElem?_toList, Array.getElem?_toList] at this
      exact this
    · rw [List.map_cons, List.flatten_cons, ← k4]
      apply List.ext_getElem?
      intro q
      by_cases h7 : q < tw
      · rw [List.length_cons, drop_take_get (by rw [Nat.add_mul]; omega), List.getElem?_append_left (by simp; omega), hg _ (by rw [Nat.add_mul]; omega), splice_get _ _ _ (by simp; omega), if_pos (by simp; omega)]
        congr 1; omega
      · rw [List.length_cons, List.getElem?_append_right (by simp; omega), List.getElem?_take, List.getElem?_take, List.getElem?_drop, List.getElem?_drop]
        simp only [Array.length_toList, hl]
        have e2 : (q < (parts.length + 1) * tw) ↔ (q - tw < parts.length * tw) := by rw [Nat.add_mul]; omega
        by_cases h8 : q < (parts.length + 1) * tw
        · rw [if_pos h8, if_pos (e2.1 h8)]
          congr 1
          rw [Nat.add_mul]; omega
        · rw [if_neg h8, if_neg (fun h => h8 (e2.2 h))]
theorem elems_rdl (hs : Sim R0 w0 R σ a w) (t : Ty) : ∀ (parts : List (Nat × Operand)) (xs : List t.den) (S : List Nat), elems σ t (parts.map fun p => σ.ev p.2) = some (xs, S) →
    RdL (okS R S) w t (parts.map fun p => (a.eval p.2).cells.toList).flatten xs ∧ xs.length = parts.length ∧ ∀ p ∈ parts, (a.eval p.2).cells.size = t.w := by
  intro parts
  induction parts with
  | nil =>
    intro xs S h
    simp only [List.map_nil, elems, Option.some.injEq, Prod.mk.injEq] at h
    obtain ⟨rfl, rfl⟩ := h
    exact ⟨RdL.nil _ _ _, rfl, by simp⟩
  | cons p parts ih =>
    intro xs S h
    simp only [List.map_cons, elems] at h
    split at h
    case h_2 => cases h
    rename_i cs e1
    split at h
    case isFalse => cases h
    rename_i hone
    split at h
    case h_2 => cases h
    rename_i x' S1 ys S2 e2 e3
    cases h
    have h4 := (cellsA_ok hs (hs.ev p.2) e1 hone).1
    have h5 := rds_ok hs t h4 e2
    have hl := h5.len
    simp only [Array.length_toList] at hl
    obtain ⟨k1, k2, k3⟩ := ih ys S2 e3
    refine ⟨?_, by simp [k2], fun q hq => ?_⟩
    · rw [List.map_cons, List.flatten_cons]
      exact (RdL.one (h5.mono (okS.mono fun _ => uni_l))).append (k1.mono (okS.mono fun _ => uni_r))
    · rcases List.mem_cons.1 hq with rfl | hq
      · exact hl
      · exact k3 q hq
theorem elemsT_len (hs : Sim R0 w0 R σ a w) (t : Ty) : ∀ (parts : List (Nat × Operand)) (xs : List t.den) (ms : List Nat), elemsT σ t (parts.map fun p => σ.ev p.2) = some (xs, ms) →
    xs.length = parts.length ∧ ∀ p ∈ parts, (a.eval p.2).cells.size = t.w := by
  intro parts
  induction parts with
  | nil =>
    intro xs ms h
    simp only [List.map_nil, elemsT, Option.some.injEq, Prod.mk.injEq] at h
    obtain ⟨rfl, rfl⟩ := h
    exact ⟨rfl, by simp⟩
  | cons p parts ih =>
    intro xs ms h
    simp only [List.map_cons, elemsT] at h
    split at h
    case h_2 => cases h
    rename_i cs e1
    split at h
    case isFalse => cases h
    rename_i hone
    split at h
    case h_2 => cases h
    rename_i x' m1 ys m2 e2 e3
    cases h
    have h4 := (cellsA_ok hs (hs.ev p.2) e1 hone).1
    have h5 := elT_ok (R' := ⟨fun b => if R.root b ∈ m1 then 0 else 1, R.hd, R.bk⟩) (w' := w) (n' := 0) hs m1 (fun b hb _ => ⟨rfl, by simp [hb]⟩) t h4 e2 (fun m hm => hm) (fun _ _ _ h => by cases h)
    have hl := h5.rd.len
    simp only [Array.length_toList] at hl
    obtain ⟨k1, k2⟩ := ih ys m2 e3
    refine ⟨by simp [k1], fun q hq => ?_⟩
    rcases List.mem_cons.1 hq with rfl | hq
    · exact hl
    · exact k2 q hq
theorem elemsT_trl (hs : Sim R0 w0 R σ a w) (t : Ty) {R' : Rz} {w' : World} {n' b1 : Nat} (hm : List Nat) (hk : ∀ b, R.root b ∈ hm → b < w.heap.size → w'.heap[b]? = w.heap[b]? ∧ R'.root b = n' ∧ b ≠ b1) :
    ∀ (parts : List (Nat × Operand)) (xs : List t.den) (ms : List Nat), elemsT σ t (parts.map fun p => σ.ev p.2) = some (xs, ms) → ms.Nodup → (∀ m ∈ ms, m ∈ hm) →
    TrL R' w' n' b1 t none (parts.map fun p => (a.eval p.2).cells.toList).flatten xs ∧ Sep R (parts.map fun p => (a.eval p.2).cells.toList).flatten ms := by
  intro parts
  induction parts with
  | nil =>
    intro xs ms h _ _
    simp only [List.map_nil, elemsT, Option.some.injEq, Prod.mk.injEq] at h
    obtain ⟨rfl, rfl⟩ := h
    exact ⟨TrL.nil _ _ _ _ _ _, ⟨by simp, by simp⟩⟩
  | cons p parts ih =>
    intro xs ms h hn hms
    simp only [List.map_cons, elemsT] at h
    split at h
    case h_2 => cases h
    rename_i cs e1
    split at h
    case isFalse => cases h
    rename_i hone
    split at h
    case h_2 => cases h
    rename_i x' m1 ys m2 e2 e3
    cases h
    obtain ⟨n1, n2, n3⟩ := List.nodup_append.1 hn
    have h4 := (cellsA_ok hs (hs.ev p.2) e1 hone).1
    have h5 := elT_ok (R' := R') (w' := w') (n' := n') hs hm (fun b h1 h2 => ⟨(hk b h1 h2).1, (hk b h1 h2).2.1⟩) t h4 e2 (fun m hm' => hms m (List.mem_append_left _ hm')) (fun _ _ _ h => by cases h)
    have h6 := elT_sep hs t h4 e2 n1
    have hl := h5.rd.len
    have hl' := hl
    simp only [Array.length_toList] at hl
    obtain ⟨k1, k2⟩ := ih ys m2 e3 n2 (fun m hm' => hms m (List.mem_append_right _ hm'))
    have lt : ∀ {c b l k : Nat}, (a.eval p.2).cells.toList[c]? = some (.slice (some ⟨b, 0, none⟩) l k) → b < w.heap.size := fun {c b l k} hc => by
      exact elT_lt hs t h4 e2 hc
    have one : TrL R' w' n' b1 t none (a.eval p.2).cells.toList [x'] := by
      refine ⟨by simp [hl], fun i hi _ => ?_, fun c b l k hc _ hcell => ⟨?_, fun c' l' k' hc' _ hcell' => (h6.inj c c' b l k l' k' hcell hcell').symm⟩⟩
      · have : i = 0 := by simpa using hi
        subst this
        simp only [Nat.zero_mul, List.drop_zero, List.getElem_cons_zero]
        rw [List.take_of_length_le (by omega)]
        exact h5
      · exact (hk b (hms _ (List.mem_append_left _ (h6.src c b l k hcell))) (lt hcell)).2.2
    refine ⟨?_, ?_⟩
    · rw [List.map_cons, List.flatten_cons]
      exact one.append k1 fun c c' b l k l' k' hc hc' => n3 _ (h6.src _ _ _ _ hc) _ (k2.src _ _ _ _ hc') rfl
    · rw [List.map_cons, List.flatten_cons]
      exact h6.append k2 fun m hm' hm'' => n3 m hm' m hm'' rfl
end
end Go.Proofs.Ythglggjgjlmhlaa
