/-
  The logic of trees, thirteenth part: what a body returns is what its contract says.
-/
import Derived.Test.YthglggjgjlmhlaaGl
namespace Go.Proofs.Ythglggjgjlmhlaa
open Go.RowKit
set_option linter.unusedSimpArgs false
set_option linter.unusedVariables false

/-- Cells of a result, read as data; the row objects among them. -/
def finC (σ : St) (own : Bool) : (t : Ty) → List CV → Option (t.den × List (Option Nat))
  | .prod a b, l => match finC σ own a (l.take a.w), finC σ own b (l.drop a.w) with
    | some (x, i), some (y, j) => some ((x, y), i ++ j)
    | _, _ => none
  | .int k, l => match l with
    | [.sc (.int k' n)] => if k' = k then some (n, []) else none
    | _ => none
  | .bool, l => match l with
    | [.sc (.bool b)] => some (b, [])
    | _ => none
  | .str, l => match l with
    | [.sc (.string s)] => some (s, [])
    | _ => none
  | .row e t, l => match l with
    | [.sc (.slice none 0 0)] => some ([], [none])
    | [.ow n] => if own then match σ.look n with
        | some (.row e' t' xs S) => if e' = e ∧ 5 < n ∧ t'.flat = true then if h : t' = t then some (castD h xs, [some n]) else none else none
        | some (.tree e' t' xs none) => if e' = e ∧ 5 < n ∧ t'.flat = false then if h : t' = t then some (castD h xs, [some n]) else none else none
        | _ => none else none
    | [.rd [] _ t' xs] => if own then none else if h : t' = t then some (castD h xs, [none]) else none
    | _ => none
def finA (σ : St) (own : Bool) : (t : Ty) → AV → Option (t.den × List (Option Nat))
  | .prod a b, v => match v with
    | .agg l => finC σ own (.prod a b) l
    | _ => none
  | .int k, v => match v with
    | .c x => finC σ own (.int k) [x]
    | _ => none
  | .bool, v => match v with
    | .c x => finC σ own .bool [x]
    | _ => none
  | .str, v => match v with
    | .c x => finC σ own .str [x]
    | _ => none
  | .row e t, v => match v with
    | .c x => finC σ own (.row e t) [x]
    | _ => none
def finL (σ : St) : (rs : List RK) → List AV → Option (rdens rs × List (Option Nat))
  | [], [] => some ((), [])
  | [r], [v] => finA σ r.own r.t v
  | r :: q :: l, v :: vs => match finA σ r.own r.t v, finL σ (q :: l) vs with
    | some (x, i), some (y, j) => some ((x, y), i ++ j)
    | _, _ => none
  | _, _ => none
def resV (P : Program) (σ : St) : ResultVar → Option (Prop × AV)
  | .tmp t => some (True, σ.get t)
  | .cell t ty => match aLoad P σ ty (.tmp t) with
    | some r => some (r.c, r.r)
    | none => none
def resVs (P : Program) (σ : St) : List ResultVar → Option (Prop × List AV)
  | [] => some (True, [])
  | x :: l => match resV P σ x, resVs P σ l with
    | some (c, v), some (d, vs) => some (c ∧ d, v :: vs)
    | _, _ => none
/-- The rows that are returned are different, and hold none of each other. -/
def idsGood (σ : St) (ids : List (Option Nat)) : Bool :=
  decide (ids.filterMap id).Nodup
def FinOk (σ : St) (ids : List (Option Nat)) : Prop := idsGood σ ids = true ∧ ids.length ≤ 8
theorem finOk_mk {σ : St} {ids : List (Option Nat)} (h : idsGood σ ids = true) (k : ids.length ≤ 8) : FinOk σ ids := ⟨h, k⟩
/-- The state in which a body ends gives y. -/
def Fin (P : Program) (results : List ResultVar) (rs : List RK) (y : rdens rs) (σ : St) : Prop :=
  match resVs P σ results with
  | some (c, vs) => c ∧ match finL σ rs vs with
    | some (x, ids) => x = y ∧ FinOk σ ids
    | none => False
  | none => False

def finF (ids : List (Option Nat)) (m : Nat) : Nat := if m ≤ 5 then m else if ids.contains (some m) then 10 + ids.idxOf (some m) else 18
def Rz.fin (R : Rz) (ids : List (Option Nat)) : Rz :=
  { root := fun b => finF ids (R.root b)
    hd := fun m => match ids[m - 10]? with | some (some n) => R.hd n | _ => .slice none 0 0
    bk := fun m => match ids[m - 10]? with | some (some n) => R.bk n | _ => 0 }
section
variable {P : Program} {R0 R : Rz} {w0 w : World} {σ : St} {a : Act} {ids : List (Option Nat)}
theorem finF_at {n k : Nat} (hn : 5 < n) (hnd : (ids.filterMap id).Nodup) (hk : ids[k]? = some (some n)) : finF ids n = 10 + k := by
  have hm : some n ∈ ids := List.mem_of_getElem? hk
  unfold finF
  rw [if_neg (by omega), if_pos (by simpa using hm)]
  congr 1
  induction ids generalizing k with
  | nil => simp at hk
  | cons i l ih =>
    cases k with
    | zero => simp at hk; subst hk; simp
    | succ k =>
      simp only [List.getElem?_cons_succ] at hk
      have hl := List.mem_of_getElem? hk
      have hne : i ≠ some n := by
        rintro rfl
        simp only [List.filterMap_cons, id, List.nodup_cons] at hnd
        exact hnd.1 (List.mem_filterMap.2 ⟨_, hl, rfl⟩)
      have hbe : (i == some n) = false := by simpa using hne
      rw [List.idxOf_cons, hbe, ih (by
        cases i with
        | none => simpa [List.filterMap_cons] using hnd
        | some m => simp only [List.filterMap_cons, id, List.nodup_cons] at hnd; exact hnd.2) hk hl]
      rfl
theorem okS_fin0 {b : Nat} (h : okS R [] b) : okS (R.fin ids) [] b := by
  rcases h with h | h
  · left; show finF ids (R.root b) = 0; rw [h]; simp [finF]
  · cases h
theorem row_fin (hs : Sim R0 w0 R σ a w) (hg : idsGood σ ids = true) {n k : Nat} (hn : 5 < n) (hk : ids[k]? = some (some n)) :
    (R.fin ids).hd (inN k) = R.hd n ∧ (R.fin ids).bk (inN k) = R.bk n ∧ ∀ b, R.root b = n → (R.fin ids).root b = inN k := by
  simp only [idsGood, decide_eq_true_eq] at hg
  have e1 : inN k - 10 = k := by unfold inN; omega
  refine ⟨by simp only [Rz.fin, e1, hk], by simp only [Rz.fin, e1, hk], fun b hb => ?_⟩
  show finF ids (R.root b) = _
  rw [hb, finF_at hn hg hk]; rfl
theorem finC_ok (hs : Sim R0 w0 R σ a w) (hg : idsGood σ ids = true) {own : Bool} : ∀ {t : Ty} {l : List CV} {us : List Value} {x : t.den} {js : List (Option Nat)} {k : Nat}, VRs R w l us → finC σ own t l = some (x, js) →
    (∀ i j, js[i]? = some j → ids[k + i]? = some j) → VRs (R.fin ids) w (outC inN own [] k t x) us ∧ (own = true → obsOk (R.fin ids) w (outO inN [] k t x)) ∧ js.length = t.rows := by
  intro t
  induction t with
  | int q =>
    intro l us x js k h1 h2 _
    simp only [finC] at h2
    split at h2
    · split at h2
      · rename_i e; cases h2; subst e
        exact ⟨h1, fun _ p hp => by simp [outO] at hp, rfl⟩
      · cases h2
    · cases h2
  | bool =>
    intro l us x js k h1 h2 _
    simp only [finC] at h2
    split at h2
    · cases h2; exact ⟨h1, fun _ p hp => by simp [outO] at hp, rfl⟩
    · cases h2
  | str =>
    intro l us x js k h1 h2 _
    simp only [finC] at h2
    split at h2
    · cases h2; exact ⟨h1, fun _ p hp => by simp [outO] at hp, rfl⟩
    · cases h2
  | row e t ih =>
    intro l us x js k h1 h2 hj
    simp only [finC] at h2
    split at h2
    · cases h2
      obtain ⟨u, rfl, h3⟩ := one_cell h1
      have h3 : u = .slice none 0 0 := h3
      have hk : ids[k]? = some none := by simpa using hj 0 none rfl
      have e1 : inN k - 10 = k := by unfold inN; omega
      have hh : (R.fin ids).hd (inN k) = .slice none 0 0 := by simp only [Rz.fin, e1, hk]
      refine ⟨⟨u, [], rfl, ?_, rfl⟩, fun _ p hp => ?_, rfl⟩
      · cases own with
        | true => simp only [if_true, VRc]; rw [hh]; exact h3
        | false =>
          simp only [Bool.false_eq_true, if_false, VRc]
          rw [h3]
          exact Rd.dflt _ _ (.row e t)
      · simp only [outO, List.mem_singleton] at hp
        subst hp
        cases hf : t.flat
        · exact .inl ⟨hh, rfl⟩
        · exact .inl ⟨hh, rfl⟩
    · rename_i n
      cases own with
      | false => simp at h2
      | true =>
        simp only [if_true] at h2
        split at h2
        · rename_i e' t' xs S he
          split at h2
          case isFalse => cases h2
          rename_i hc
          split at h2
          case isFalse => cases h2
          rename_i ht
          subst ht
          obtain ⟨rfl, hn, hf⟩ := hc
          cases h2
          obtain ⟨u, rfl, h3⟩ := one_cell h1
          have hk : ids[k]? = some (some n) := by simpa using hj 0 (some n) rfl
          obtain ⟨e1, e2, e3⟩ := row_fin hs hg hn hk
          refine ⟨⟨u, [], rfl, ?_, rfl⟩, fun _ p hp => ?_, rfl⟩
          · simp only [if_true, VRc]; rw [e1]; exact h3
          · simp only [outO, hf, List.mem_singleton] at hp
            subst hp
            rcases hs.look he with ⟨g1, g2⟩ | ⟨cap, cur, g1, g2, g3, g4, g5, g6, g7⟩
            · exact .inl ⟨by simp only; rw [e1]; exact g1, g2⟩
            · exact .inr ⟨cap, cur, by simp only; rw [e1, e2]; exact g1, by simp only; rw [e2]; exact e3 _ g2, by simp only; rw [e2]; exact g3, g4, g5, g6, fun i hi => (g7 i hi).flat hf⟩
        · rename_i e' t' xs he
          split at h2
          case isFalse => cases h2
          rename_i hc
          split at h2
          case isFalse => cases h2
          rename_i ht
          subst ht
          obtain ⟨rfl, hn, hf⟩ := hc
          cases h2
          obtain ⟨u, rfl, h3⟩ := one_cell h1
          have hk : ids[k]? = some (some n) := by simpa using hj 0 (some n) rfl
          obtain ⟨e1, e2, e3⟩ := row_fin hs hg hn hk
          refine ⟨⟨u, [], rfl, ?_, rfl⟩, fun _ p hp => ?_, rfl⟩
          · simp only [if_true, VRc]; rw [e1]; exact h3
          · simp only [outO, hf, List.mem_singleton] at hp
            subst hp
            rcases hs.look he with ⟨g1, g2⟩ | ⟨cap, cur, g1, g2, g3, g4, g5, g6, g7, g8⟩
            · exact .inl ⟨by simp only; rw [e1]; exact g1, g2⟩
            · exact .inr ⟨cap, cur, by simp only; rw [e1, e2]; exact g1, by simp only; rw [e2]; exact e3 _ g2, by simp only; rw [e2]; exact g3, g4, g5, g6, fun i hi hh => (g7 i hi hh).mv fun c b l q hc hr hlt => ⟨rfl, e3 b hr⟩, by simp only; rw [e2]; exact g8⟩
        · cases h2
    · rename_i e' t' xs
      cases own with
      | true => simp at h2
      | false =>
        simp only [Bool.false_eq_true, if_false] at h2
        split at h2
        · rename_i ht
          subst ht
          cases h2
          obtain ⟨u, rfl, h3⟩ := one_cell h1
          refine ⟨⟨u, [], rfl, ?_, rfl⟩, fun h => by simp at h, rfl⟩
          simp only [Bool.false_eq_true, if_false, VRc]
          exact Rd.mono h3 fun b hb => okS_fin0 hb
        · cases h2
    · cases h2
  | prod p q hp hq =>
    intro l us x js k h1 h2 hj
    simp only [finC] at h2
    split at h2
    · rename_i y i z j e1 e2
      cases h2
      have hi : i.length = p.rows := (hp (us := us.take p.w) (k := k) (h1.take p.w) e1 (fun i' j' h => hj i' j' (by rw [List.getElem?_append_left (List.getElem?_eq_some_iff.1 h).1]; exact h))).2.2
      obtain ⟨k1, k2, _⟩ := hp (us := us.take p.w) (k := k) (h1.take p.w) e1 (fun i' j' h => hj i' j' (by rw [List.getElem?_append_left (List.getElem?_eq_some_iff.1 h).1]; exact h))
      obtain ⟨k3, k4, k5⟩ := hq (us := us.drop p.w) (k := k + p.rows) (h1.drop p.w) e2 (fun i' j' h => by
        have := hj (p.rows + i') j' (by rw [List.getElem?_append_right (by omega), hi]; simpa using h)
        rw [Nat.add_assoc]; exact this)
      refine ⟨?_, fun ho z hz => ?_, by simp [Ty.rows, hi, k5]⟩
      · have := k1.append k3
        rw [List.take_append_drop] at this
        exact this
      · simp only [outO, List.mem_append] at hz
        rcases hz with hz | hz
        · exact k2 ho z hz
        · exact k4 ho z hz
    · cases h2
theorem finA_ok (hs : Sim R0 w0 R σ a w) (hg : idsGood σ ids = true) {own : Bool} {t : Ty} {v : AV} {u : Value} {x : t.den} {js : List (Option Nat)} {k : Nat} (h1 : VR R w v u) (h2 : finA σ own t v = some (x, js))
    (hj : ∀ i j, js[i]? = some j → ids[k + i]? = some j) : VR (R.fin ids) w (outA inN own [] k t x) u ∧ (own = true → obsOk (R.fin ids) w (outO inN [] k t x)) ∧ js.length = t.rows := by
  have one : ∀ {t : Ty} {p : CV} {x : t.den}, VRc R w p u → finC σ own t [p] = some (x, js) → VRs (R.fin ids) w (outC inN own [] k t x) [u] ∧ (own = true → obsOk (R.fin ids) w (outO inN [] k t x)) ∧ js.length = t.rows :=
    fun {t p x} h3 h4 => finC_ok hs hg (show VRs R w [p] [u] from ⟨u, [], rfl, h3, rfl⟩) h4 hj
  cases t with
  | int q =>
    simp only [finA] at h2
    split at h2
    · simp only [VR] at h1
      obtain ⟨k1, k2, k3⟩ := one h1 h2
      obtain ⟨u', e, k4⟩ := one_cell k1
      simp only [List.cons.injEq, and_true] at e; subst e
      exact ⟨k4, k2, k3⟩
    · cases h2
  | bool =>
    simp only [finA] at h2
    split at h2
    · simp only [VR] at h1
      obtain ⟨k1, k2, k3⟩ := one h1 h2
      obtain ⟨u', e, k4⟩ := one_cell k1
      simp only [List.cons.injEq, and_true] at e; subst e
      exact ⟨k4, k2, k3⟩
    · cases h2
  | str =>
    simp only [finA] at h2
    split at h2
    · simp only [VR] at h1
      obtain ⟨k1, k2, k3⟩ := one h1 h2
      obtain ⟨u', e, k4⟩ := one_cell k1
      simp only [List.cons.injEq, and_true] at e; subst e
      exact ⟨k4, k2, k3⟩
    · cases h2
  | row e t =>
    simp only [finA] at h2
    split at h2
    · simp only [VR] at h1
      obtain ⟨k1, k2, k3⟩ := one h1 h2
      obtain ⟨u', e, k4⟩ := one_cell k1
      simp only [List.cons.injEq, and_true] at e; subst e
      exact ⟨by simp only [outA, VR]; exact k4, k2, k3⟩
    · cases h2
  | prod p q =>
    simp only [finA] at h2
    split at h2
    · simp only [VR] at h1
      obtain ⟨us, rfl, h3⟩ := h1
      obtain ⟨k1, k2, k3⟩ := finC_ok hs hg h3 h2 hj
      exact ⟨by simp only [outA, VR]; exact ⟨us, rfl, k1⟩, k2, k3⟩
    · cases h2
theorem finL_ok (hs : Sim R0 w0 R σ a w) (hg : idsGood σ ids = true) : ∀ {rs : List RK} {l : List AV} {us : List Value} {x : rdens rs} {js : List (Option Nat)} {k : Nat}, VRt R w l us → finL σ rs l = some (x, js) →
    (∀ i j, js[i]? = some j → ids[k + i]? = some j) → VRt (R.fin ids) w (outL inN [] k rs x) us ∧ obsOk (R.fin ids) w (outOs inN [] k rs x) := by
  intro rs
  induction rs with
  | nil =>
    intro l us x js k h1 h2 _
    cases l with
    | nil => simp only [VRt, outL] at h1 ⊢; exact ⟨h1, fun p hp => by simp [outOs] at hp⟩
    | cons v l => simp [finL] at h2
  | cons r rs ih =>
    intro l us x js k h1 h2 hj
    cases l with
    | nil => cases rs <;> simp [finL] at h2
    | cons v l =>
      simp only [VRt] at h1
      obtain ⟨u, us', rfl, h3, h4⟩ := h1
      cases rs with
      | nil =>
        cases l with
        | cons v' l => simp [finL] at h2
        | nil =>
          simp only [VRt] at h4
          subst h4
          simp only [finL] at h2
          obtain ⟨k1, k2, k3⟩ := finA_ok hs hg h3 h2 hj
          refine ⟨by simp only [outL, VRt]; exact ⟨u, [], rfl, k1, rfl⟩, ?_⟩
          simp only [outOs]
          split
          · rename_i ho; exact k2 ho
          · intro p hp; cases hp
      | cons q rs =>
        simp only [finL] at h2
        split at h2
        · rename_i y i z j e1 e2
          cases h2
          have hb : ∀ i' j', i[i']? = some j' → ids[k + i']? = some j' := fun i' j' h => hj i' j' (by rw [List.getElem?_append_left (List.getElem?_eq_some_iff.1 h).1]; exact h)
          obtain ⟨k1, k2, k3⟩ := finA_ok hs hg h3 e1 hb
          obtain ⟨k4, k5⟩ := ih (k := k + r.t.rows) h4 e2 (fun i' j' h => by
            have := hj (r.t.rows + i') j' (by rw [List.getElem?_append_right (by omega), k3]; simpa using h)
            rw [Nat.add_assoc]; exact this)
          refine ⟨by simp only [outL, VRt]; exact ⟨u, us', rfl, k1, k4⟩, fun p hp => ?_⟩
          simp only [outOs, List.mem_append] at hp
          rcases hp with hp | hp
          · split at hp
            · rename_i ho; exact k2 ho p hp
            · cases hp
          · exact k5 p hp
        · cases h2
def resS (a : Act) : ResultVar → Sem Value
  | .tmp t => pure (a.tmps.getD t undef)
  | .cell q t => do loadVar t (← asAddr (a.tmps.getD q undef))
theorem resVs_ok (hs : Sim R0 w0 R σ a w) : ∀ {l : List ResultVar} {c : Prop} {vs : List AV}, resVs P σ l = some (c, vs) → c →
    ∃ us, (l.mapM (resS a)).run P w = .ok us w ∧ VRt R w vs us := by
  intro l
  induction l with
  | nil => intro c vs h _; simp only [resVs, Option.some.injEq, Prod.mk.injEq] at h; obtain ⟨_, rfl⟩ := h; exact ⟨[], by simp, by simp [VRt]⟩
  | cons x l ih =>
    intro c vs h hc
    simp only [resVs] at h
    split at h
    case h_2 => cases h
    rename_i c1 v c2 vs' e1 e2
    cases h
    obtain ⟨us, h1, h2⟩ := ih e2 hc.2
    cases x with
    | tmp t =>
      simp only [resV, Option.some.injEq, Prod.mk.injEq] at e1
      obtain ⟨_, rfl⟩ := e1
      refine ⟨a.tmps.getD t undef :: us, by rw [List.mapM_cons]; simp only [resS, Sem.run_bind, Sem.run_pure, Result.andThen_ok, h1], by simp only [VRt]; exact ⟨_, us, rfl, hs.get t, h2⟩⟩
    | cell q t =>
      simp only [resV] at e1
      split at e1
      case h_2 => cases e1
      rename_i r e3
      cases e1
      obtain ⟨u, b, k, h3, h4, h5, _⟩ := load_val e3 hc.1 hs
      have h3 : a.tmps.getD q undef = .pointer (some ⟨b, k, none⟩) := h3
      refine ⟨u :: us, by rw [List.mapM_cons]; simp only [resS, h3, asAddr, Sem.run_bind, Sem.run_pure, Result.andThen_ok, h4, h1], by simp only [VRt]; exact ⟨u, us, rfl, h5, h2⟩⟩
theorem Fin_ok {fn : Func} {rs : List RK} {y : rdens rs} (hs : Sim R0 w0 R σ a w) (h : Fin P fn.results.toList rs y σ) :
    ∃ v R', (results fn a.tmps).run P w = .ok v w ∧ VR R' w (outAll inN [] rs y) v ∧ obsOk R' w (outOs inN [] 0 rs y) ∧ Keeps R0 w0 R' w := by
  unfold Fin at h
  split at h
  case h_2 => exact h.elim
  rename_i c vs e1
  obtain ⟨hc, h⟩ := h
  split at h
  case h_2 => exact h.elim
  rename_i x ids e2
  obtain ⟨rfl, hg, _⟩ := h
  obtain ⟨us, h1, h2⟩ := resVs_ok hs e1 hc
  obtain ⟨h3, h4⟩ := finL_ok (k := 0) hs hg h2 e2 (fun i j h => by simpa using h)
  have hl := h3.length
  refine ⟨if h : us.toArray.size = 1 then us.toArray[0] else .tuple us.toArray, R.fin ids, ?_, ?_, h4, ⟨hs.os, hs.tape, hs.output, hs.grow, fun b hb hr => ?_⟩⟩
  · have e : results fn a.tmps = (do let vs ← fn.results.mapM (resS a); pure (if h : vs.size = 1 then vs[0] else .tuple vs)) := by
      unfold results
      congr 1
    rw [e, Sem.run_bind, Array.mapM_eq_mapM_toList, Sem.run_map, h1]
    rfl
  · unfold outAll
    generalize outL inN [] 0 rs x = l at *
    match l, us, hl with
    | [], [], _ => simp only [VR]; exact ⟨#[], by simp, by simp [VRt]⟩
    | [p], [u], _ =>
      simp only [VRt] at h3
      obtain ⟨u', us', e, h5, _⟩ := h3
      cases e
      simpa using h5
    | p :: q :: l, u :: u2 :: us, _ =>
      simp only [VR]
      exact ⟨_, by rw [dif_neg (by simp)], by simpa using h3⟩
  · obtain ⟨k1, k2⟩ := hs.keep b hb hr
    exact ⟨k1, by show finF ids (R.root b) = _; rw [k2]; unfold finF; rw [if_pos hr]⟩
end

theorem Wk_of_eq {σ σ' : St} (h : σ = σ') : Wk σ σ' := h ▸ Wk.refl σ
/-- The state in which a body begins. -/
def St.init (n : Nat) (l : List AV) : St := ⟨l ++ List.replicate (n - l.length) (.c .bot), []⟩
def RetQ (P : Program) (results : List ResultVar) (rs : List RK) (y : rdens rs) : Exit → St → Prop
  | .normal, σ | .ret, σ => Fin P results rs y σ
  | _, _ => False
theorem VRt.append {R : Rz} {w : World} {l1 l2 : List AV} {u1 u2 : List Value} (h1 : VRt R w l1 u1) (h2 : VRt R w l2 u2) : VRt R w (l1 ++ l2) (u1 ++ u2) := by
  induction l1 generalizing u1 with
  | nil => simp only [VRt] at h1; subst h1; exact h2
  | cons c l ih =>
    simp only [VRt] at h1
    obtain ⟨u, us', rfl, h3, h4⟩ := h1
    simp only [List.cons_append, VRt]
    exact ⟨u, us' ++ u2, rfl, h3, ih h4⟩
theorem VRt.bots {R : Rz} {w : World} (n : Nat) (u : Value) : VRt R w (List.replicate n (.c .bot)) (List.replicate n u) := by
  induction n with
  | zero => simp [VRt]
  | succ n ih => simp only [List.replicate_succ, VRt]; exact ⟨u, _, rfl, by simp [VR, VRc], ih⟩
/-- Slices are no longer than memory allows. -/
def Ty.lenOk : (t : Ty) → t.den → Prop
  | .int _, _ => True
  | .bool, _ => True
  | .str, _ => True
  | .prod a b, x => a.lenOk x.1 ∧ b.lenOk x.2
  | .row _ t, xs => match t.flat with
    | true => xs.length ≤ 9223372036854775807
    | false => xs.length ≤ 9223372036854775807 ∧ ∀ x ∈ xs, t.lenOk x
theorem Rd.lenOk {S : Nat → Prop} {w : World} {t : Ty} {us : List Value} {x : t.den} (h : Rd S w t us x) : t.lenOk x := by
  induction t generalizing us with
  | int k => trivial
  | bool => trivial
  | str => trivial
  | prod a b ha hb =>
    obtain ⟨u1, u2, rfl, h1, h2⟩ := h
    exact ⟨ha h1, hb h2⟩
  | row e t ih =>
    obtain ⟨a, cap, _, h1, h2, h3⟩ := h
    have hl : x.length ≤ 9223372036854775807 := by unfold maxLen at h2; omega
    unfold Ty.lenOk
    split
    · exact hl
    · refine ⟨hl, fun y hy => ?_⟩
      obtain ⟨i, hi, rfl⟩ := List.mem_iff_getElem.1 hy
      obtain ⟨b, o, _, _, h4⟩ := h3 (by omega)
      obtain ⟨vs, _, _, h5⟩ := h4 i hi
      exact ih h5
theorem VRs.lenOk {R : Rz} {w : World} {S : List Nat} : ∀ {t : Ty} {x : t.den} {us : List Value}, VRs R w (cellsOf S t x) us → t.lenOk x := by
  intro t
  induction t with
  | int k => intro x us _; trivial
  | bool => intro x us _; trivial
  | str => intro x us _; trivial
  | row e t ih =>
    intro x us h
    simp only [cellsOf] at h
    obtain ⟨u, rfl, h2⟩ := one_cell h
    exact Rd.lenOk (t := .row e t) h2
  | prod a b ha hb =>
    intro x us h
    simp only [cellsOf] at h
    have e : ∀ {l1 l2 : List CV} {us : List Value}, VRs R w (l1 ++ l2) us → ∃ u1 u2, us = u1 ++ u2 ∧ VRs R w l1 u1 ∧ VRs R w l2 u2 := by
      intro l1
      induction l1 with
      | nil => intro l2 us h; exact ⟨[], us, rfl, rfl, h⟩
      | cons c l1 ih =>
        intro l2 us h
        obtain ⟨u, us', rfl, h3, h4⟩ := h
        obtain ⟨u1, u2, rfl, h5, h6⟩ := ih h4
        exact ⟨u :: u1, u2, rfl, ⟨u, u1, rfl, h3, h5⟩, h6⟩
    obtain ⟨u1, u2, rfl, h2, h3⟩ := e h
    exact ⟨ha h2, hb h3⟩
theorem VR.lenOk {R : Rz} {w : World} {S : List Nat} {t : Ty} {x : t.den} {v : Value} (h : VR R w (t.av S x) v) : t.lenOk x := by
  cases t with
  | int k => trivial
  | bool => trivial
  | str => trivial
  | row e t => simp only [Ty.av, VR] at h; exact Rd.lenOk (t := .row e t) h
  | prod a b =>
    simp only [Ty.av, VR] at h
    obtain ⟨us, rfl, h1⟩ := h
    exact h1.lenOk
def PK.lenOk : (p : PK) → p.den → Prop
  | .val t, x => t.lenOk x
  | .ptr t, x => t.lenOk x
  | .one t, x => t.lenOk x
def lensOk : (ps : List PK) → dens ps → Prop
  | [], _ => True
  | p :: l, x => p.lenOk x.1 ∧ lensOk l x.2
theorem lens_ok {R : Rz} {w : World} : ∀ {ps : List PK} {x : dens ps} {us : List Value}, VRt R w (avs ps x) us → lensOk ps x := by
  intro ps
  induction ps with
  | nil => intro x us _; trivial
  | cons p ps ih =>
    intro x us h
    simp only [avs, VRt] at h
    obtain ⟨u, us', rfl, h1, h2⟩ := h
    refine ⟨?_, ih h2⟩
    cases p with
    | val t => exact h1.lenOk
    | ptr t =>
      simp only [PK.av, VR] at h1
      obtain ⟨b, o, us, _, _, _, _, h3⟩ := h1
      exact h3.lenOk
    | one t =>
      simp only [PK.av, VR] at h1
      obtain ⟨us, rfl, h3⟩ := h1
      exact h3.lenOk
/-- A contract out of a body. -/
theorem pure_of_body {P : Program} {f : FuncId} {fn : Func} {code : Code} {k : Con} (hf : P.funcs[f]? = some fn) (hb : fn.body = some code)
    (h : ∀ x, k.c x → lensOk k.ps x → AWP P code (St.init fn.ntmps (avs k.ps x)) (RetQ P fn.results.toList k.rs (k.r x))) : PureT P f k := by
  intro x hc R w vs hv
  refine calls_of_wp hf hb ?_
  have hl := hv.length
  simp only [Array.length_toList] at hl
  have hs : Sim R w R (St.init fn.ntmps (avs k.ps x)) { tmps := vs ++ Array.replicate (fn.ntmps - vs.size) undef, defers := [] } w := by
    refine ⟨by simp [St.init, hl], ?_, fun p hp => by simp [St.init] at hp, rfl, rfl, rfl, Nat.le_refl _, fun b _ _ => ⟨rfl, rfl⟩, fun _ _ _ => ⟨rfl, rfl⟩, rfl⟩
    simp only [St.init, Array.toList_append, Array.toList_replicate]
    rw [hl]
    exact hv.append (VRt.bots _ _)
  refine wp_mono (h x hc (lens_ok hv) R w R _ w hs) fun e a' w' ⟨R', σ', h1, h2⟩ => ?_
  have fin : Fin P fn.results.toList k.rs (k.r x) σ' → bodyPost P fn (fun e w' => ∃ v R', e = .returned v ∧ VR R' w' (outAll inN [] k.rs (k.r x)) v ∧ obsOk R' w' (outOs inN [] 0 k.rs (k.r x)) ∧ Keeps R w R' w') .normal a' w' := fun hF => by
    obtain ⟨v, R2, h3, h4, h5, h6⟩ := Fin_ok h1 hF
    exact ⟨h1.defers, v, h3, v, R2, rfl, h4, h5, h6⟩
  cases e <;> first | exact fin h2 | exact h2.elim
theorem fnOk_of {P : Program} {f : FuncId} {fn : Func} {code : Code} (hf : P.funcs[f]? = some fn) (hb : fn.body = some code) (hn : fn.name ≠ "runtime.NumGoroutine") : FnOk P f := ⟨fn, code, hf, hb, hn⟩
end Go.Proofs.Ythglggjgjlmhlaa
