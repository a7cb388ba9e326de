/-
  The logic of trees: an element of a tree is written, or a cell of one of its slices.
-/
import Derived.Test.YthglggjgjlmhlaaGh
namespace Go.Proofs.Ythglggjgjlmhlaa
open Go.RowKit
set_option linter.unusedSimpArgs false
set_option linter.unusedVariables false

/-- The slice at cell o of x is changed by f. -/
def updRow : (T : Ty) → Nat → (t : Ty) → (List t.den → List t.den) → T.den → Option T.den
  | .prod a b, o, t, f, x => if o < a.w then match updRow a o t f x.1 with
      | some y => some (y, x.2)
      | none => none
    else match updRow b (o - a.w) t f x.2 with
      | some y => some (x.1, y)
      | none => none
  | .row _ t', o, t, f, x => if o = 0 then if h : t' = t then some (h ▸ f (castD h x)) else none else none
  | .int _, _, _, _, _ => none
  | .bool, _, _, _, _ => none
  | .str, _, _, _, _ => none
theorem updRow_row {e : TypeId} {t : Ty} {f : List t.den → List t.den} {x : List t.den} : updRow (.row e t) 0 t f x = some (f x) := by simp [updRow, castD]
theorem splice_append {α : Type} {l1 l2 cs : List α} {k : Nat} (h : k + cs.length ≤ l1.length) : splice (l1 ++ l2) k cs = splice l1 k cs ++ l2 := by
  unfold splice
  rw [List.take_append_of_le_length (by omega), List.drop_append_of_le_length (by omega)]
  simp
section
variable {R0 R R' : Rz} {w0 w w' : World} {σ : St} {a : Act} {n n' : Nat}
/-- Where an element's slices come from. -/
theorem elT_src (hs : Sim R0 w0 R σ a w) (pos : Option (Nat × Nat × Nat)) : ∀ (t : Ty) {o : Nat} {l : List CV} {us : List Value} {x : t.den} {ms : List Nat}, VRs R w l us → elT σ pos o t l = some (x, ms) → ms.Nodup →
    (∀ n i wd, pos = some (n, i, wd) → n ∉ ms) →
    (∀ (c b l' k : Nat), us[c]? = some (.slice (some ⟨b, 0, none⟩) l' k) → R.root b ∈ ms ∨ ∃ n i wd, pos = some (n, i, wd) ∧ R.root b = n ∧ w.cell? ⟨R.bk n, i * wd + (o + c), none⟩ = us[c]?) ∧
    (∀ (c c' b l k l' k' : Nat), us[c]? = some (.slice (some ⟨b, 0, none⟩) l k) → us[c']? = some (.slice (some ⟨b, 0, none⟩) l' k') → R.root b ∈ ms → c = c') := by
  intro t
  have triv : ∀ {us : List Value} {ms : List Nat} {o : Nat} (u : Value), us = [u] → (∀ (b l k : Nat), u = .slice (some ⟨b, 0, none⟩) l k → R.root b ∈ ms ∨ ∃ n i wd, pos = some (n, i, wd) ∧ R.root b = n ∧ w.cell? ⟨R.bk n, i * wd + (o + 0), none⟩ = us[0]?) →
      (∀ (c b l' k : Nat), us[c]? = some (.slice (some ⟨b, 0, none⟩) l' k) → R.root b ∈ ms ∨ ∃ n i wd, pos = some (n, i, wd) ∧ R.root b = n ∧ w.cell? ⟨R.bk n, i * wd + (o + c), none⟩ = us[c]?) ∧
      (∀ (c c' b l k l' k' : Nat), us[c]? = some (.slice (some ⟨b, 0, none⟩) l k) → us[c']? = some (.slice (some ⟨b, 0, none⟩) l' k') → R.root b ∈ ms → c = c') := by
    rintro us ms o u rfl h
    refine ⟨fun c b l' k hc => ?_, fun c c' b l k l' k' hc hc' _ => ?_⟩
    · cases c with
      | zero => exact h b l' k (by simpa using hc)
      | succ c => simp at hc
    · cases c with
      | zero =>
        cases c' with
        | zero => rfl
        | succ c => simp at hc'
      | succ c => simp at hc
  induction t with
  | int k =>
    intro o l us x ms h1 h2 _ _
    simp only [elT] at h2
    split at h2
    · split at h2
      · rename_i e; cases h2; subst e
        obtain ⟨u, rfl, h3⟩ := one_cell h1
        cases h3; exact triv _ rfl (by intro b l k h; cases h)
      · cases h2
    · cases h2
  | bool =>
    intro o l us x ms h1 h2 _ _
    simp only [elT] at h2
    split at h2
    · cases h2
      obtain ⟨u, rfl, h3⟩ := one_cell h1
      cases h3; exact triv _ rfl (by intro b l k h; cases h)
    · cases h2
  | str =>
    intro o l us x ms h1 h2 _ _
    simp only [elT] at h2
    split at h2
    · cases h2
      obtain ⟨u, rfl, h3⟩ := one_cell h1
      cases h3; exact triv _ rfl (by intro b l k h; cases h)
    · cases h2
  | row e t ih =>
    intro o l us x ms h1 h2 _ _
    simp only [elT] at h2
    split at h2
    · cases h2
    rename_i hf
    split at h2
    · cases h2
      obtain ⟨u, rfl, h3⟩ := one_cell h1
      cases h3
      exact triv _ rfl (by intro b l k h; cases h)
    · rename_i m
      split at h2
      · rename_i e' t' xs S he
        split at h2
        case isFalse => cases h2
        rename_i hc
        obtain ⟨rfl, hc⟩ := hc
        split at h2
        · rename_i ht; subst ht; cases h2
          obtain ⟨u, rfl, h3⟩ := one_cell h1
          refine triv _ rfl fun b l k hu => .inl ?_
          have h3 : u = R.hd m := h3
          rcases hs.look he with ⟨h4, _⟩ | ⟨cap, cur, h4, h5, _⟩
          · rw [← h3, hu] at h4; cases h4
          · rw [← h3, hu] at h4
            cases h4
            simp [h5]
        · cases h2
      · cases h2
    · rename_i n i wd o' e' t' xs
      split at h2
      case isFalse => cases h2
      rename_i hc
      obtain ⟨hp, rfl, rfl⟩ := hc
      split at h2
      · rename_i ht; subst ht; cases h2
        obtain ⟨u, rfl, h3⟩ := one_cell h1
        refine triv _ rfl fun b l k hu => .inr ⟨n, i, wd, hp, ?_, h3.1⟩
        rcases h3.2.2 with ⟨h4, _⟩ | ⟨b', cap, cur, h4, h5, _⟩
        · rw [hu] at h4; cases h4
        · rw [hu] at h4; cases h4; exact h5
      · cases h2
    · cases h2
  | prod p q hp hq =>
    intro o l us x ms h1 h2 hn hpos
    simp only [elT] at h2
    split at h2
    · rename_i y m1 z m2 e1 e2
      cases h2
      obtain ⟨n1, n2, n3⟩ := List.nodup_append.1 hn
      obtain ⟨a1, a2⟩ := hp (h1.take p.w) e1 n1 (fun n i wd h hm => hpos n i wd h (List.mem_append_left _ hm))
      obtain ⟨b1, b2⟩ := hq (h1.drop p.w) e2 n2 (fun n i wd h hm => hpos n i wd h (List.mem_append_right _ hm))
      have cs : ∀ c v, us[c]? = some v → (c < p.w ∧ (us.take p.w)[c]? = some v) ∨ (p.w ≤ c ∧ (us.drop p.w)[c - p.w]? = some v) := fun c v hc => by
        rcases Nat.lt_or_ge c p.w with hl | hl
        · exact .inl ⟨hl, by rw [List.getElem?_take_of_lt hl]; exact hc⟩
        · exact .inr ⟨hl, by rw [List.getElem?_drop, (by omega : p.w + (c - p.w) = c)]; exact hc⟩
      have na : ∀ (c b l k : Nat), (us.take p.w)[c]? = some (.slice (some ⟨b, 0, none⟩) l k) → R.root b ∈ m1 ++ m2 → R.root b ∈ m1 := fun c b l k hc hb => by
        rcases a1 c b l k hc with h | ⟨n, i, wd, h, h', _⟩
        · exact h
        · exact absurd hb (by rw [h']; exact hpos n i wd h)
      have nb : ∀ (c b l k : Nat), (us.drop p.w)[c]? = some (.slice (some ⟨b, 0, none⟩) l k) → R.root b ∈ m1 ++ m2 → R.root b ∈ m2 := fun c b l k hc hb => by
        rcases b1 c b l k hc with h | ⟨n, i, wd, h, h', _⟩
        · exact h
        · exact absurd hb (by rw [h']; exact hpos n i wd h)
      refine ⟨fun c b l' k hc => ?_, fun c c' b l k l' k' hc hc' hb => ?_⟩
      · rcases cs c _ hc with ⟨hl, q1⟩ | ⟨hl, q1⟩
        · rcases a1 c b l' k q1 with h | ⟨n, i, wd, h, h', h''⟩
          · exact .inl (List.mem_append_left _ h)
          · exact .inr ⟨n, i, wd, h, h', by rw [h'', q1, hc]⟩
        · rcases b1 _ b l' k q1 with h | ⟨n, i, wd, h, h', h''⟩
          · exact .inl (List.mem_append_right _ h)
          · refine .inr ⟨n, i, wd, h, h', ?_⟩
            rw [(by omega : o + c = o + p.w + (c - p.w)), h'', q1, hc]
      · rcases cs c _ hc with ⟨hl, q1⟩ | ⟨hl, q1⟩ <;> rcases cs c' _ hc' with ⟨hl', q1'⟩ | ⟨hl', q1'⟩
        · exact a2 c c' b l k l' k' q1 q1' (na _ _ _ _ q1 hb)
        · exact (n3 _ (na _ _ _ _ q1 hb) _ (nb _ _ _ _ q1' hb) rfl).elim
        · exact (n3 _ (na _ _ _ _ q1' hb) _ (nb _ _ _ _ q1 hb) rfl).elim
        · have := b2 _ _ b l k l' k' q1 q1' (nb _ _ _ _ q1 hb); omega
    · cases h2
theorem ElO.block {t : Ty} {us : List Value} {x : t.den} (h : ElO R w n t us x) {c b l cap : Nat} (hc : us[c]? = some (.slice (some ⟨b, 0, none⟩) l cap)) : ∃ cur e, w.heap[b]? = some (.cells cur e (0, 0)) := by
  induction t generalizing us c with
  | int _ => simp only [ElO] at h; subst h; cases c <;> simp at hc
  | bool => simp only [ElO] at h; subst h; cases c <;> simp at hc
  | str => simp only [ElO] at h; subst h; cases c <;> simp at hc
  | prod a b ha hb =>
    obtain ⟨u1, u2, rfl, h1, h2⟩ := h
    by_cases hl : c < u1.length
    · rw [List.getElem?_append_left hl] at hc; exact ha h1 hc
    · rw [List.getElem?_append_right (by omega)] at hc; exact hb h2 hc
  | row e t ih =>
    obtain ⟨h1, u, rfl, h2⟩ := h
    cases c with
    | succ c => simp at hc
    | zero =>
      simp only [List.getElem?_cons_zero, Option.some.injEq] at hc
      rcases h2 with ⟨h2, _⟩ | ⟨b', cap', cur, h3, h4, h5, _⟩
      · rw [hc] at h2; cases h2
      · rw [hc] at h3
        cases h3
        exact ⟨cur, e, h5⟩
/-- One of an element's slices is written in place. -/
theorem ElO.upd {b l0 cap0 : Nat} {t : Ty} {f : List t.den → List t.den}
    (step : ∀ e ys, RowO R w n e t (.slice (some ⟨b, 0, none⟩) l0 cap0) ys → RowO R' w' n e t (.slice (some ⟨b, 0, none⟩) l0 cap0) (f ys))
    (others : ∀ b', b' ≠ b → R.root b' = n → b' < w.heap.size → w'.heap[b']? = w.heap[b']? ∧ R'.root b' = n) :
    ∀ (T : Ty) {o : Nat} {us : List Value} {x z : T.den}, ElO R w n T us x → us[o]? = some (.slice (some ⟨b, 0, none⟩) l0 cap0) → updRow T o t f x = some z →
      (∀ (c l k : Nat), us[c]? = some (.slice (some ⟨b, 0, none⟩) l k) → c = o) → ElO R' w' n T us z := by
  intro T
  induction T with
  | int k => intro o us x z _ _ h; simp [updRow] at h
  | bool => intro o us x z _ _ h; simp [updRow] at h
  | str => intro o us x z _ _ h; simp [updRow] at h
  | row e t' ih =>
    intro o us x z h1 h2 h3 _
    simp only [updRow] at h3
    split at h3
    case isFalse => cases h3
    rename_i ho
    subst ho
    split at h3
    case isFalse => cases h3
    rename_i ht
    subst ht
    cases h3
    obtain ⟨k1, u, rfl, k2⟩ := h1
    simp only [List.getElem?_cons_zero, Option.some.injEq] at h2
    subst h2
    exact ⟨k1, _, rfl, step e x k2⟩
  | prod p q hp hq =>
    intro o us x z h1 h2 h3 h4
    obtain ⟨u1, u2, rfl, k1, k2⟩ := h1
    have l1 := k1.rd.len
    simp only [updRow] at h3
    split at h3
    · rename_i ho
      split at h3
      case h_2 => cases h3
      rename_i y e1
      cases h3
      rw [List.getElem?_append_left (by omega)] at h2
      refine ⟨u1, u2, rfl, hp k1 h2 e1 fun c l k hc => h4 c l k ?_, k2.mv fun c b' l k hc hr hlt => others b' ?_ hr hlt⟩
      · rw [List.getElem?_append_left (List.getElem?_eq_some_iff.1 hc).1]; exact hc
      · rintro rfl
        have := h4 (u1.length + c) l k (by rw [List.getElem?_append_right (by omega)]; simpa using hc)
        omega
    · rename_i ho
      split at h3
      case h_2 => cases h3
      rename_i y e1
      cases h3
      rw [List.getElem?_append_right (by omega), l1] at h2
      refine ⟨u1, u2, rfl, k1.mv fun c b' l k hc hr hlt => others b' ?_ hr hlt, hq k2 h2 e1 fun c l k hc => ?_⟩
      · rintro rfl
        have hl := (List.getElem?_eq_some_iff.1 hc).1
        have := h4 c l k (by rw [List.getElem?_append_left hl]; exact hc)
        omega
      · have := h4 (u1.length + c) l k (by rw [List.getElem?_append_right (by omega)]; simpa using hc)
        omega
end
end Go.Proofs.Ythglggjgjlmhlaa
