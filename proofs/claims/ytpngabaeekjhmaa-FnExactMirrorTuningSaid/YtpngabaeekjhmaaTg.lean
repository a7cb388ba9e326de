/-
  The logic of trees, seventh part: rows that are made, written and lengthened.
-/
import Derived.Test.YtpngabaeekjhmaaTf
namespace Go.Proofs.Ytpngabaeekjhmaa
open Go.RowKit
set_option linter.unusedSimpArgs false
set_option linter.unusedVariables false

def castD {t' t : Ty} (h : t' = t) (xs : List t'.den) : List t.den := h ▸ xs
theorem castD_eq {t : Ty} (h : t = t) (xs : List t.den) : castD h xs = xs := rfl
/-- Two lists of names, without doubles. -/
def uni (S S' : List Nat) : List Nat := S ++ S'.filter (fun n => !S.contains n)
theorem uni_l {S S' : List Nat} {n : Nat} (h : n ∈ S) : n ∈ uni S S' := List.mem_append_left _ h
theorem uni_r {S S' : List Nat} {n : Nat} (h : n ∈ S') : n ∈ uni S S' := by
  unfold uni
  by_cases hn : n ∈ S
  · exact List.mem_append_left _ hn
  · exact List.mem_append_right _ (List.mem_filter.2 ⟨h, by simpa using hn⟩)
/-- Cells read as data of a type; the names that they depend on. -/
def rds (σ : St) : (t : Ty) → List CV → Option (t.den × List Nat)
  | .prod a b, l => match rds σ a (l.take a.w), rds σ b (l.drop a.w) with
    | some (x, S), some (y, S') => some ((x, y), uni S S')
    | _, _ => none
  | .int k, l => match l with
    | [.sc (.int k' n)] => if k' = k then some (n, []) else none
    | _ => none
  | .bool, l => match l with
    | [.sc (.bool b)] => some (b, [])
    | _ => none
  | .str, l => match l with
    | [.sc (.string s)] => some (s, [])
    | _ => none
  | .row _ t, l => match l with
    | [.sc (.slice none 0 0)] => some ([], [])
    | [.rd S _ t' xs] => if h : t' = t then some (castD h xs, S) else none
    | [.ow n] => match σ.look n with
      | some (.row _ t' xs S) => if h : t' = t then some (castD h xs, n :: S) else none
      | _ => none
    | _ => none
def dfltCells : Ty → List Value
  | .int k => [.int k 0]
  | .bool => [.bool false]
  | .str => [.string ByteArray.empty]
  | .row _ _ => [.slice none 0 0]
  | .prod a b => dfltCells a ++ dfltCells b
theorem Rd.dflt (S : Nat → Prop) (w : World) (t : Ty) : Rd S w t (dfltCells t) t.dflt := by
  induction t with
  | prod a b ha hb => exact ⟨_, _, rfl, ha, hb⟩
  | row e t ih => exact ⟨none, 0, rfl, by simp [Ty.dflt], by simp, fun h => by simp [Ty.dflt] at h⟩
  | _ => simp [Rd, dfltCells, Ty.dflt]
theorem Rd.mono {S S' : Nat → Prop} {w : World} {t : Ty} {us : List Value} {x : t.den} (h : Rd S w t us x) (hS : ∀ b, S b → S' b) : Rd S' w t us x :=
  h.frame fun b _ hb => ⟨hS b hb, rfl⟩
theorem okS.mono {R : Rz} {S S' : List Nat} (h : ∀ n ∈ S, n ∈ S') : ∀ b, okS R S b → okS R S' b := fun _ hb => hb.imp id (h _)
section
variable {P : Program} {R0 R : Rz} {w0 w : World} {σ : St} {a : Act} {o : Oper} {K : Act → World → Prop} {Q : Exit → Act → World → Prop}
theorem one_cell {c : CV} {us : List Value} (h : VRs R w [c] us) : ∃ u, us = [u] ∧ VRc R w c u := by
  obtain ⟨u, us', rfl, h1, h2⟩ := h
  simp only [VRs] at h2
  subst h2
  exact ⟨u, rfl, h1⟩
theorem rds_ok (hs : Sim R0 w0 R σ a w) : ∀ (t : Ty) {l : List CV} {us : List Value} {x : t.den} {S : List Nat}, VRs R w l us → rds σ t l = some (x, S) → Rd (okS R S) w t us x := by
  intro t
  induction t with
  | int k =>
    intro l us x S h1 h2
    simp only [rds] at h2
    split at h2
    · split at h2
      · rename_i e; cases h2; subst e
        obtain ⟨u, rfl, h3⟩ := one_cell h1
        cases h3; rfl
      · cases h2
    · cases h2
  | bool =>
    intro l us x S h1 h2
    simp only [rds] at h2
    split at h2
    · cases h2
      obtain ⟨u, rfl, h3⟩ := one_cell h1
      cases h3; rfl
    · cases h2
  | str =>
    intro l us x S h1 h2
    simp only [rds] at h2
    split at h2
    · cases h2
      obtain ⟨u, rfl, h3⟩ := one_cell h1
      cases h3; rfl
    · cases h2
  | row e t ih =>
    intro l us x S h1 h2
    simp only [rds] at h2
    split at h2
    · cases h2
      obtain ⟨u, rfl, h3⟩ := one_cell h1
      cases h3
      exact Rd.dflt _ _ (.row e t)
    · rename_i S' e' t' xs
      split at h2
      · rename_i ht; subst ht; cases h2
        obtain ⟨u, rfl, h3⟩ := one_cell h1
        exact h3
      · cases h2
    · rename_i n
      split at h2
      · rename_i e' t' xs S' he
        split at h2
        · rename_i ht; subst ht; cases h2
          obtain ⟨u, rfl, h3⟩ := one_cell h1
          have := row_reads (p := .ow n) hs h3 (e := e') (t := t') (xs := xs) (by simp [rowOf, he])
          simp only [srcOf, he] at this
          exact this
        · cases h2
      · cases h2
    · cases h2
  | prod p q hp hq =>
    intro l us x S h1 h2
    simp only [rds] at h2
    split at h2
    · rename_i y S1 z S2 e1 e2
      cases h2
      have k1 := hp (h1.take p.w) e1
      have k2 := hq (h1.drop p.w) e2
      exact ⟨_, _, (List.take_append_drop p.w us).symm, k1.mono (okS.mono fun _ => uni_l), k2.mono (okS.mono fun _ => uni_r)⟩
    · cases h2

/-- The elements of a slice literal. -/
def elems (σ : St) (t : Ty) : List AV → Option (List t.den × List Nat)
  | [] => some ([], [])
  | v :: l => match cellsA v with
    | some cs => if cs.all (cvOne σ) then match rds σ t cs, elems σ t l with
      | some (x, S), some (xs, S') => some (x :: xs, uni S S')
      | _, _ => none else none
    | none => none
theorem elems_length {t : Ty} : ∀ {l : List AV} {xs : List t.den} {S : List Nat}, elems σ t l = some (xs, S) → xs.length = l.length := by
  intro l
  induction l with
  | nil => intro xs S h; simp only [elems, Option.some.injEq, Prod.mk.injEq] at h; obtain ⟨rfl, rfl⟩ := h; rfl
  | cons v l ih =>
    intro xs S h
    simp only [elems] at h
    split at h
    case h_2 => cases h
    split at h
    case isFalse => cases h
    split at h
    · rename_i x S1 ys S2 e1 e2
      cases h
      simp [ih e2]
    · cases h
/-- The cells of a row whose elements read as xs. -/
def RdL (S : Nat → Prop) (w : World) (t : Ty) (us : List Value) (xs : List t.den) : Prop := us.length = xs.length * t.w ∧ ∀ i (h : i < xs.length), Rd S w t ((us.drop (i * t.w)).take t.w) xs[i]
theorem RdL.nil (S : Nat → Prop) (w : World) (t : Ty) : RdL S w t [] [] := ⟨by simp, fun i h => by simp at h⟩
theorem RdL.append {S : Nat → Prop} {t : Ty} {us vs : List Value} {xs ys : List t.den} (h1 : RdL S w t us xs) (h2 : RdL S w t vs ys) : RdL S w t (us ++ vs) (xs ++ ys) := by
  refine ⟨by simp [h1.1, h2.1, Nat.add_mul], fun i hi => ?_⟩
  have hlen : i < xs.length + ys.length := by simpa using hi
  by_cases hx : i < xs.length
  · have h3 := h1.2 i hx
    have hle : i * t.w + t.w ≤ xs.length * t.w := by rw [← Nat.succ_mul]; exact Nat.mul_le_mul_right _ hx
    rw [List.drop_append_of_le_length (by rw [h1.1]; omega), List.take_append_of_le_length (by simp [h1.1]; omega), List.getElem_append_left hx]
    exact h3
  · have h3 := h2.2 (i - xs.length) (by omega)
    have e : i * t.w = us.length + (i - xs.length) * t.w := by rw [h1.1, ← Nat.add_mul]; congr 1; omega
    have e2 : (us ++ vs).drop (i * t.w) = vs.drop ((i - xs.length) * t.w) := by
      rw [e, ← List.drop_drop, List.drop_left]
    rw [e2, List.getElem_append_right (by omega)]
    exact h3
theorem RdL.one {S : Nat → Prop} {t : Ty} {us : List Value} {x : t.den} (h : Rd S w t us x) : RdL S w t us [x] := by
  have hl := h.len
  refine ⟨by simp [hl], fun i hi => ?_⟩
  have : i = 0 := by simpa using hi
  subst this
  simp only [Nat.zero_mul, List.drop_zero, List.getElem_cons_zero]
  rw [List.take_of_length_le (by omega)]
  exact h
theorem RdL.mono {S S' : Nat → Prop} {t : Ty} {us : List Value} {xs : List t.den} (h : RdL S w t us xs) (hS : ∀ b, S b → S' b) : RdL S' w t us xs := ⟨h.1, fun i hi => (h.2 i hi).mono hS⟩
theorem RdL.fr {N M S : List Nat} {R' : Rz} {w' : World} {t : Ty} {us : List Value} {xs : List t.den} (h : RdL (okS R S) w t us xs) (hf : FR N M R w R' w') (h0 : 0 ∉ N) (hS : ∀ n ∈ S, n ∉ N) : RdL (okS R' S) w' t us xs :=
  ⟨h.1, fun i hi => (h.2 i hi).fr hf h0 hS⟩
theorem RdL.replicate {S : Nat → Prop} {t : Ty} (n : Nat) : RdL S w t ((List.replicate n (dfltCells t)).flatten) (List.replicate n t.dflt) := by
  induction n with
  | zero => exact RdL.nil _ _ _
  | succ n ih =>
    rw [List.replicate_succ, List.replicate_succ, List.flatten_cons]
    exact (RdL.one (Rd.dflt S w t)).append ih
/-- A row object out of a block. -/
theorem OR_row {n : Nat} {e : TypeId} {t : Ty} {xs : List t.den} {S : List Nat} {cap : Nat} {cur : Array Value} (h1 : R.hd n = .slice (some ⟨R.bk n, 0, none⟩) xs.length cap) (h2 : R.root (R.bk n) = n)
    (h3 : w.heap[R.bk n]? = some (.cells cur e (0, 0))) (h4 : xs.length ≤ cap) (h5 : cap ≤ maxLen) (h6 : cur.size = cap * t.w) (h7 : RdL (okS R S) w t (cur.toList.take (xs.length * t.w)) xs) : OR R w n (.row e t xs S) := by
  refine .inr ⟨cap, cur, h1, h2, h3, h4, h5, h6, fun i hi => ?_⟩
  have h8 := h7.2 i hi
  have hle : i * t.w + t.w ≤ xs.length * t.w := by rw [← Nat.succ_mul]; exact Nat.mul_le_mul_right _ hi
  rw [List.drop_take, List.take_take, Nat.min_eq_left (by omega)] at h8
  exact h8
/-- The cells of a row object. -/
theorem OR_cells {n : Nat} {e : TypeId} {t : Ty} {xs : List t.den} {S : List Nat} (h : OR R w n (.row e t xs S)) :
    ∃ us, w.ownsRow 0 e t.w (R.hd n) xs.length us ∧ RdL (okS R S) w t us xs ∧ (R.hd n = .slice none 0 0 ∨ (R.hd n).ownBlock = some (R.bk n) ∧ R.root (R.bk n) = n) := by
  rcases h with ⟨h1, h2⟩ | ⟨cap, cur, h1, h2, h3, h4, h5, h6, h7⟩
  · subst h2
    rw [h1]
    exact ⟨[], World.ownsRow_nil _ _ _ _, RdL.nil _ _ _, .inl rfl⟩
  · rw [h1]
    have hle : xs.length * t.w ≤ cur.size := by rw [h6]; exact Nat.mul_le_mul_right _ h4
    have hl : (cur.toList.take (xs.length * t.w)).length = xs.length * t.w := by simp; omega
    refine ⟨cur.toList.take (xs.length * t.w), ⟨hl, .inr ⟨R.bk n, cap, cur, rfl, Nat.zero_le _, h3, h4, h5, h6, rfl⟩⟩, ⟨hl, fun i hi => ?_⟩, .inr ⟨rfl, h2⟩⟩
    have h8 := h7 i hi
    have hle : i * t.w + t.w ≤ xs.length * t.w := by rw [← Nat.succ_mul]; exact Nat.mul_le_mul_right _ hi
    rw [List.drop_take, List.take_take, Nat.min_eq_left (by omega)]
    exact h8

def aLit (P : Program) (G : TypeId → Option Ty) (σ : St) (d : Option Tmp) (tt : TypeId) (len : Nat) (parts : List (Nat × Operand)) : Option Res :=
  match P.underlying tt with
  | some (.slice e) => match G e with
    | some t => if szOf P e = some t.w ∧ len = parts.length ∧ parts.map (·.1) = List.range len ∧ len * t.w ≤ 2 ^ 24 ∧ (zeroOf P e).isSome then
        match elems σ t (parts.map fun p => σ.ev p.2) with
        | some (xs, S) => if S.contains (nm d) then none else some ⟨True, .c (.ow (nm d)), [nm d], [nm d], [(nm d, .row e t xs S)]⟩
        | none => none
      else none
    | none => none
  | _ => none
theorem lit_fill (hs : Sim R0 w0 R σ a w) (t : Ty) : ∀ (parts : List (Nat × Operand)) (k : Nat) (xs : List t.den) (S : List Nat) (us : Array Value), elems σ t (parts.map fun p => σ.ev p.2) = some (xs, S) →
    parts.map (·.1) = List.range' k parts.length → (k + parts.length) * t.w ≤ us.size →
    ∃ us' : Array Value, Instr.fill (fun i => some (i * t.w, t.w)) us (parts.map fun p => (p.1, a.eval p.2)) = some us' ∧ us'.size = us.size ∧
      (∀ q, q < k * t.w → us'[q]? = us[q]?) ∧ RdL (okS R S) w t ((us'.toList.drop (k * t.w)).take (parts.length * t.w)) xs := by
  intro parts
  induction parts with
  | nil =>
    intro k xs S us h1 _ _
    simp only [List.map_nil, elems, Option.some.injEq, Prod.mk.injEq] at h1
    obtain ⟨rfl, rfl⟩ := h1
    refine ⟨us, rfl, rfl, fun _ _ => rfl, ?_⟩
    simp only [List.length_nil, Nat.zero_mul, List.take_zero]
    exact RdL.nil _ _ _
  | cons p parts ih =>
    intro k xs S us h1 h2 h3
    obtain ⟨i, x⟩ := p
    simp only [List.map_cons, elems] at h1
    split at h1
    case h_2 => cases h1
    rename_i cs e1
    split at h1
    case isFalse => cases h1
    rename_i hone
    split at h1
    case h_2 => cases h1
    rename_i x' S1 ys S2 e2 e3
    cases h1
    simp only [List.map_cons, List.length_cons, List.range'_succ, List.cons.injEq] at h2
    obtain ⟨rfl, h2⟩ := h2
    have h4 := (cellsA_ok hs (hs.ev x) e1 hone).1
    have h5 := rds_ok hs t h4 e2
    have hl := h5.len
    simp only [Array.length_toList] at hl
    simp only [List.length_cons] at h3
    have h6 : (i + 1 + parts.length) * t.w ≤ us.size := by rw [show i + 1 + parts.length = i + (parts.length + 1) by omega]; exact h3
    have h6' : i * t.w + t.w + parts.length * t.w ≤ us.size := by rw [Nat.add_mul, Nat.add_mul, Nat.one_mul] at h6; exact h6
    have hf : ((a.eval x).cells.zipIdx.foldl (fun cs (c, j) => cs.setIfInBounds (i * t.w + j) c) us).toList = splice us.toList (i * t.w) (a.eval x).cells.toList := by
      have := fold_splice (a.eval x).cells.toList us (i * t.w) 0 (by simp; omega)
      rw [Nat.add_zero] at this
      rw [← this, ← Array.foldl_toList]
      simp
    obtain ⟨us', k1, k2, k3, k4⟩ := ih (i + 1) ys S2 ((a.eval x).cells.zipIdx.foldl (fun cs (c, j) => cs.setIfInBounds (i * t.w + j) c) us) e3 h2 (by
      rw [← Array.length_toList, hf, splice_length _ _ _ (by simp; omega)]; simpa using h6)
    have hsz : us'.size = us.size := by rw [k2, ← Array.length_toList, hf, splice_length _ _ _ (by simp; omega)]; simp
    have hg : ∀ q, q < (i + 1) * t.w → us'.toList[q]? = (splice us.toList (i * t.w) (a.eval x).cells.toList)[q]? := fun q hq => by
      rw [← hf, Array.getElem?_toList, Array.getElem?_toList]; exact k3 q hq
    refine ⟨us', ?_, hsz, fun q hq => ?_, ?_⟩
    · have hcond : ¬ ((a.eval x).cells.size ≠ t.w ∨ i * t.w + (a.eval x).cells.size > us.size) := by
        rintro (h | h)
        · exact h hl
        · omega
      simp only [List.map_cons, Instr.fill]
      rw [if_neg (by simpa using hcond)]
      exact k1
    · have := hg q (by rw [Nat.add_mul]; omega)
      rw [splice_get _ _ _ (by simp; omega), if_neg (by omega), Array.getElem?_toList, Array.getElem?_toList] at this
      exact this
    · have e1 : (us'.toList.drop (i * t.w)).take ((parts.length + 1) * t.w) = (a.eval x).cells.toList ++ (us'.toList.drop ((i + 1) * t.w)).take (parts.length * t.w) := by
        apply List.ext_getElem?
        intro q
        by_cases h7 : q < t.w
        · rw [drop_take_get (by rw [Nat.add_mul]; omega), List.getElem?_append_left (by simp; omega), hg _ (by rw [Nat.add_mul]; omega), splice_get _ _ _ (by simp; omega), if_pos (by simp; omega)]
          congr 1; omega
        · rw [List.getElem?_append_right (by simp; omega), List.getElem?_take, List.getElem?_take, List.getElem?_drop, List.getElem?_drop]
          simp only [Array.length_toList, hl]
          have e2 : (q < (parts.length + 1) * t.w) ↔ (q - t.w < parts.length * t.w) := by rw [Nat.add_mul]; omega
          by_cases h8 : q < (parts.length + 1) * t.w
          · rw [if_pos h8, if_pos (e2.1 h8)]
            congr 1
            rw [Nat.add_mul]; omega
          · rw [if_neg h8, if_neg (fun h => h8 (e2.2 h))]
      rw [List.length_cons, e1]
      exact (RdL.one (h5.mono (okS.mono fun _ => uni_l))).append (k4.mono (okS.mono fun _ => uni_r))
end
end Go.Proofs.Ytpngabaeekjhmaa
