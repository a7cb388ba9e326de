/-
  The logic of trees, fourth part: operations that only read.
-/
import Derived.Test.YthglggjgjlmhlaaGc
namespace Go.Proofs.Ythglggjgjlmhlaa
open Go.RowKit
set_option linter.unusedSimpArgs false
set_option linter.unusedVariables false

/-- The cells of element i of the tree n, from cell o on. -/
def cellsTr (n i wd : Nat) : Nat → (t : Ty) → t.den → List CV
  | _, .int k, x => [.sc (.int k x)]
  | _, .bool, x => [.sc (.bool x)]
  | _, .str, x => [.sc (.string x)]
  | o, .row e t, xs => [.sub n i wd o e t xs]
  | o, .prod a b, x => cellsTr n i wd o a x.1 ++ cellsTr n i wd (o + a.w) b x.2
theorem cellsTr_length (n i wd o : Nat) (t : Ty) (x : t.den) : (cellsTr n i wd o t x).length = t.w := by
  induction t generalizing o with
  | prod a b ha hb => simp [cellsTr, ha, hb, Ty.w]
  | _ => simp [cellsTr, Ty.w]
/-- It is not one of those that are lent. -/
def okH : Option (Nat × Nat) → Nat → Prop
  | none, _ => True
  | some p, i => ¬ (p.1 ≤ i ∧ i < p.2)
theorem okH_iff {h : Option (Nat × Nat)} {i : Nat} : okH h i ↔ ¬ inH h i := by cases h <;> simp [okH, inH]
/-- Where a pointer points: a condition, the cells there, and which of them it is. -/
def place (σ : St) : CV → Option (Prop × List CV × Nat)
  | .po n o => match σ.look n with
    | some (.box l) => some (True, l, o)
    | _ => none
  | .pt S t x o => some (True, cellsOf S t x, o)
  | .pe n i wd o => match σ.look n with
    | some (.row _ t xs S) => if wd = t.w then some (i < xs.length, cellsOf S t (xs.getD i t.dflt), o) else none
    | some (.tree _ t xs h) => if wd = t.w then some (i < xs.length ∧ okH h i, cellsTr n i wd 0 t (xs.getD i t.dflt), o) else none
    | _ => none
  | .pi n _ _ _ _ t x k => some (True, cellsOf [n] t x, k)
  | _ => none
def rowOf (σ : St) : CV → Option ((e : TypeId) × (t : Ty) × List t.den)
  | .rd _ e t xs => some ⟨e, t, xs⟩
  | .sub _ _ _ _ e t xs => some ⟨e, t, xs⟩
  | .ow n => match σ.look n with
    | some (.row e t xs _) => some ⟨e, t, xs⟩
    | some (.tree e t xs none) => some ⟨e, t, xs⟩
    | _ => none
  | _ => none
def lenOf (σ : St) : CV → Option Nat
  | .sc (.string s) => some s.size
  | .sc (.slice none 0 0) => some 0
  | .rd _ _ _ xs => some xs.length
  | .sub _ _ _ _ _ _ xs => some xs.length
  | .ow n => match σ.look n with
    | some (.row _ _ xs _) => some xs.length
    | some (.tree _ _ xs _) => some xs.length
    | _ => none
  | _ => none

section
variable {P : Program} {R0 R : Rz} {w0 w : World} {σ : St} {a : Act} {o : Oper} {K : Act → World → Prop} {Q : Exit → Act → World → Prop}
theorem Sim.look (hs : Sim R0 w0 R σ a w) {n : Nat} {q : Ob} (h : σ.look n = some q) : OR R w n q := hs.ob _ (lookOb_mem h)
theorem drop_take_get {cur : List Value} {m j k : Nat} (h : j < k) : ((cur.drop m).take k)[j]? = cur[m + j]? := by
  rw [List.getElem?_take_of_lt h, List.getElem?_drop]
theorem RowO.rd {n : Nat} {e : TypeId} {t : Ty} {u : Value} {ys : List t.den} (h : RowO R w n e t u ys) : Rd (okS R [n]) w (.row e t) [u] ys := by
  rcases h with ⟨rfl, rfl⟩ | ⟨b, cap, cur, rfl, h2, h3, h4, h5, h6, h7⟩
  · exact ⟨none, 0, rfl, by simp, by simp, fun h => by simp at h⟩
  · refine ⟨_, cap, rfl, h4, h5, fun h0 => ⟨b, 0, rfl, .inr (by rw [h2]; simp), fun i hi => ?_⟩⟩
    refine ⟨_, Rd.len (h7 i hi), fun j hj => ?_, (h7 i hi).frame fun b hb ho => ⟨?_, rfl⟩⟩
    · rw [drop_take_get hj]
      simp [World.cell?, h3]
    · rcases ho with ho | ho
      · exact .inl ho
      · cases ho
theorem ElO.rd {n : Nat} {t : Ty} {us : List Value} {x : t.den} (h : ElO R w n t us x) : Rd (okS R [n]) w t us x := by
  induction t generalizing us with
  | int k => exact h
  | bool => exact h
  | str => exact h
  | prod a b ha hb =>
    obtain ⟨u1, u2, rfl, h1, h2⟩ := h
    exact ⟨u1, u2, rfl, ha h1, hb h2⟩
  | row e t ih =>
    obtain ⟨h1, u, rfl, h2⟩ := h
    exact h2.rd
theorem ElO.cells {n i wd : Nat} {t : Ty} {us : List Value} {x : t.den} (hr : R.root (R.bk n) = n) : ∀ {o : Nat}, ElO R w n t us x → (∀ j, j < t.w → w.cell? ⟨R.bk n, i * wd + (o + j), none⟩ = us[j]?) → VRs R w (cellsTr n i wd o t x) us := by
  induction t generalizing us with
  | int k => intro o h _; simp only [ElO] at h; subst h; exact ⟨_, _, rfl, rfl, rfl⟩
  | bool => intro o h _; simp only [ElO] at h; subst h; exact ⟨_, _, rfl, rfl, rfl⟩
  | str => intro o h _; simp only [ElO] at h; subst h; exact ⟨_, _, rfl, rfl, rfl⟩
  | row e t ih =>
    intro o h hc
    obtain ⟨h1, u, rfl, h2⟩ := h
    have := hc 0 (by simp [Ty.w])
    simp only [Nat.add_zero] at this
    exact ⟨_, _, rfl, ⟨by rw [this]; rfl, hr, h2⟩, rfl⟩
  | prod a b ha hb =>
    intro o h hc
    obtain ⟨u1, u2, rfl, h1, h2⟩ := h
    have hl := h1.rd.len
    have hl2 := h2.rd.len
    refine VRs.append (ha h1 fun j hj => ?_) (hb h2 fun j hj => ?_)
    · rw [hc j (by simp only [Ty.w]; omega), List.getElem?_append_left (by omega)]
    · have := hc (a.w + j) (by simp only [Ty.w]; omega)
      rw [List.getElem?_append_right (by omega), hl, Nat.add_sub_cancel_left] at this
      rw [← this]
      congr 2
      omega
theorem place_ok {p : CV} {u : Value} {c : Prop} {l : List CV} {k : Nat} (hs : Sim R0 w0 R σ a w) (hp : VRc R w p u) (h : place σ p = some (c, l, k)) (hc : c) :
    ∃ b o us, u = .pointer (some ⟨b, o + k, none⟩) ∧ VRs R w l us ∧ ∀ j, j < l.length → w.cell? ⟨b, o + j, none⟩ = us[j]? := by
  unfold place at h
  split at h
  · rename_i n o
    split at h
    · rename_i l' e
      cases h
      obtain ⟨us, T, h1, h2, h3⟩ := hs.look e
      refine ⟨R.bk n, 0, us.toList, by rw [Nat.zero_add]; exact hp, h3, fun j hj => ?_⟩
      simp [World.cell?, h1]
    · cases h
  · rename_i S t x o
    cases h
    obtain ⟨b, o', us, rfl, hb, hl, hcell, hr⟩ := hp
    exact ⟨b, o', us, rfl, hr.cells, fun j hj => hcell j (by rw [cellsOf_length] at hj; exact hj)⟩
  · rename_i n i wd o
    split at h
    · rename_i e t xs S he
      split at h
      · rename_i hw
        cases h
        subst hw
        have hc : i < xs.length := hc
        rcases hs.look he with ⟨h1, h2⟩ | ⟨cap, cur, h1, h2, h3, h4, h5, h6, h7⟩
        · subst h2; simp at hc
        · have h8 := h7 i hc
          have e1 : xs.getD i t.dflt = xs[i] := by simp [List.getD, hc]
          rw [e1]
          refine ⟨R.bk n, i * t.w, _, hp, h8.cells, fun j hj => ?_⟩
          rw [cellsOf_length] at hj
          rw [drop_take_get hj]
          simp [World.cell?, h3]
      · cases h
    · rename_i e t xs hh he
      split at h
      · rename_i hw
        cases h
        subst hw
        obtain ⟨hc, hk⟩ := hc
        rcases hs.look he with ⟨h1, h2⟩ | ⟨cap, cur, h1, h2, h3, h4, h5, h6, h7, h8⟩
        · subst h2; simp at hc
        · have h9 := h7 i hc (okH_iff.1 hk)
          have e1 : xs.getD i t.dflt = xs[i] := by simp [List.getD, hc]
          rw [e1]
          have hcell : ∀ j, j < t.w → w.cell? ⟨R.bk n, i * t.w + j, none⟩ = ((cur.toList.drop (i * t.w)).take t.w)[j]? := fun j hj => by
            rw [drop_take_get hj]
            simp [World.cell?, h3]
          refine ⟨R.bk n, i * t.w, _, hp, h9.cells h2 (fun j hj => by rw [Nat.zero_add]; exact hcell j hj), fun j hj => ?_⟩
          rw [cellsTr_length] at hj
          exact hcell j hj
      · cases h
    · cases h
  · rename_i n i wd o j t x kk
    cases h
    obtain ⟨b, l', cap, us, h1, h2, h3, rfl, h5, h6, h7⟩ := hp
    exact ⟨b, j * t.w, us, rfl, h7.cells, fun q hq => h6 q (by rw [cellsOf_length] at hq; exact hq)⟩
  · cases h

def aPick (σ : St) (c x y : Operand) : Option Res :=
  match σ.ev c with
  | .c (.sc (.bool b)) => pureRes (if b then σ.ev x else σ.ev y)
  | _ => none
theorem aPick_ok {c x y : Operand} {r : Res} (ho : o.op = .pick c x y) (h : aPick σ c x y = some r) (hs : Sim R0 w0 R σ a w)
    (hK : ∀ R' v w', Done R w r.N r.M r.r r.news R' v w' → K (a.put o.dst v) w') : o.wp P a w K Q := by
  have h1 := hs.ev c
  unfold aPick at h
  split at h
  · rename_i b e
    cases h
    rw [e] at h1
    simp only [VR, VRc] at h1
    refine wp_of_pure (v := if b then a.eval x else a.eval y) hs ?_ ?_ hK
    · unfold execOp
      simp [ho, h1, asBool]
    · cases b
      · exact hs.ev y
      · exact hs.ev x
  · cases h
theorem aMove_ok {x : Operand} (ho : o.op = .move x ∨ o.op = .assign x) (hs : Sim R0 w0 R σ a w)
    (hK : ∀ R' v w', Done R w [] [] (σ.ev x) [] R' v w' → K (a.put o.dst v) w') : o.wp P a w K Q := by
  refine wp_of_pure (v := a.eval x) hs ?_ (hs.ev x) hK
  unfold execOp
  rcases ho with ho | ho <;> simp [ho]

def aUn (σ : St) (op : UnOp) (x : Operand) : Option Res :=
  match σ.ev x with
  | .c (.sc (.bool b)) => match op with
    | .not => pureRes (.c (.sc (.bool (!b))))
    | _ => none
  | .c (.sc (.int k n)) => match op with
    | .neg => pureRes (.c (.sc (.int k (k.wrap (0 - n)))))
    | _ => none
  | _ => none
theorem aUn_ok {op : UnOp} {t : TypeId} {x : Operand} {r : Res} (ho : o.op = .unOp op t x) (h : aUn σ op x = some r) (hs : Sim R0 w0 R σ a w)
    (hK : ∀ R' v w', Done R w r.N r.M r.r r.news R' v w' → K (a.put o.dst v) w') : o.wp P a w K Q := by
  have h1 := hs.ev x
  unfold aUn at h
  split at h
  · rename_i b e
    rw [e] at h1
    simp only [VR, VRc] at h1
    split at h <;> cases h
    refine wp_of_pure (v := .bool (!b)) hs ?_ (by simp [VR, VRc]) hK
    unfold execOp
    simp [ho, h1, Op.unary]
  · rename_i k n e
    rw [e] at h1
    simp only [VR, VRc] at h1
    split at h <;> cases h
    refine wp_of_pure (v := .int k (k.wrap (0 - n))) hs ?_ (by simp [VR, VRc]) hK
    unfold execOp
    simp [ho, h1, Op.unary, Op.intArith]
  · cases h

def aConv (P : Program) (σ : St) (s d : TypeId) (x : Operand) : Option Res :=
  match σ.ev x with
  | .c (.sc (.int k n)) => match P.underlying s, P.underlying d with
    | some (.int _), some (.int k') => pureRes (.c (.sc (.int k' (k'.wrap n))))
    | _, _ => none
  | _ => none
theorem aConv_ok {s d : TypeId} {x : Operand} {r : Res} (ho : o.op = .convert s d x) (h : aConv P σ s d x = some r) (hs : Sim R0 w0 R σ a w)
    (hK : ∀ R' v w', Done R w r.N r.M r.r r.news R' v w' → K (a.put o.dst v) w') : o.wp P a w K Q := by
  have h1 := hs.ev x
  unfold aConv at h
  split at h
  · rename_i k n e
    rw [e] at h1
    simp only [VR, VRc] at h1
    split at h
    · rename_i k1 k2 e1 e2
      cases h
      refine wp_of_pure (v := .int k2 (k2.wrap n)) hs ?_ (by simp [VR, VRc]) hK
      unfold execOp
      simp [ho, h1, convert, run_underlying e1, run_underlying e2, Conv.intToInt]
    · cases h
  · cases h

def aExt (σ : St) (x : Operand) (i : Nat) : Option Res :=
  match σ.ev x with
  | .tup l => match l[i]? with
    | some y => pureRes y
    | none => none
  | _ => none
theorem aExt_ok {x : Operand} {i : Nat} {r : Res} (ho : o.op = .extract x i) (h : aExt σ x i = some r) (hs : Sim R0 w0 R σ a w)
    (hK : ∀ R' v w', Done R w r.N r.M r.r r.news R' v w' → K (a.put o.dst v) w') : o.wp P a w K Q := by
  have h1 := hs.ev x
  unfold aExt at h
  split at h
  · rename_i l e
    rw [e] at h1
    simp only [VR] at h1
    obtain ⟨us, h2, h3⟩ := h1
    split at h
    · rename_i y e2
      cases h
      obtain ⟨u, h4, h5⟩ := h3.get i e2
      refine wp_of_pure (v := u) hs ?_ h5 hK
      unfold execOp
      rw [Array.getElem?_toList] at h4
      simp [ho, h2, Instr.extract, h4]
    · cases h
  · cases h

def isPtr : CV → Bool
  | .po _ _ | .pt _ _ _ _ | .pe _ _ _ _ | .pi _ _ _ _ _ _ _ _ => true
  | _ => false
theorem isPtr_ok {p : CV} {u : Value} (h : isPtr p = true) (hp : VRc R w p u) : ∃ b o, u = .pointer (some ⟨b, o, none⟩) := by
  cases p <;> simp [isPtr] at h
  · obtain ⟨b, o, us, h, _⟩ := hp; exact ⟨_, _, h⟩
  · exact ⟨_, _, hp⟩
  · exact ⟨_, _, hp⟩
  · obtain ⟨b, l, cap, us, _, _, _, h, _⟩ := hp; exact ⟨_, _, h⟩
def aNil (σ : St) (x : Operand) : Option Res :=
  match σ.ev x with
  | .c p => if isPtr p then pureRes (.c p) else none
  | _ => none
theorem aNil_ok {x : Operand} {r : Res} (ho : o.op = .nilCheck x) (h : aNil σ x = some r) (hs : Sim R0 w0 R σ a w)
    (hK : ∀ R' v w', Done R w r.N r.M r.r r.news R' v w' → K (a.put o.dst v) w') : o.wp P a w K Q := by
  have h1 := hs.ev x
  unfold aNil at h
  split at h
  · rename_i p e
    rw [e] at h1
    split at h
    · rename_i hp
      cases h
      have h2 := h1
      simp only [VR] at h2
      obtain ⟨b, k, h3⟩ := isPtr_ok hp h2
      refine wp_of_pure (v := a.eval x) hs ?_ h1 hK
      unfold execOp
      simp [ho, h3]
    · cases h
  · cases h

def moved (k : Nat) : CV → CV
  | .po n o => .po n (o + k)
  | .pt S t x o => .pt S t x (o + k)
  | .pe n i wd o => .pe n i wd (o + k)
  | .pi n i wd o j t x q => .pi n i wd o j t x (q + k)
  | c => c
def aField (P : Program) (σ : St) (s : TypeId) (x : Operand) (f : Nat) : Option Res :=
  match σ.ev x with
  | .c p => if isPtr p then match P.underlying s with
    | some (.struct fs) => match fs[f]? with
      | some fd => match szOf P fd.type with
        | some (_ + 1) => pureRes (.c (moved fd.offset p))
        | _ => none
      | none => none
    | _ => none else none
  | _ => none
theorem moved_ok {p : CV} {u : Value} {k : Nat} (hp : isPtr p = true) (h : VRc R w p u) : ∃ b o, u = .pointer (some ⟨b, o, none⟩) ∧ VRc R w (moved k p) (.pointer (some ⟨b, o + k, none⟩)) := by
  cases p <;> simp [isPtr] at hp
  · rename_i S t x o
    obtain ⟨b, o', us, rfl, h1⟩ := h
    exact ⟨b, _, rfl, b, o', us, by rw [Nat.add_assoc], h1⟩
  · rename_i n o; exact ⟨_, _, h, rfl⟩
  · rename_i n i wd o; exact ⟨_, _, h, by simp [VRc, moved, Nat.add_assoc]⟩
  · rename_i n i wd o j t x q
    obtain ⟨b, l, cap, us, h1, h2, h3, rfl, h5⟩ := h
    exact ⟨b, _, rfl, b, l, cap, us, h1, h2, h3, by rw [Nat.add_assoc], h5⟩
theorem aField_ok {s : TypeId} {x : Operand} {f : Nat} {r : Res} (ho : o.op = .fieldAddr s x f) (h : aField P σ s x f = some r) (hs : Sim R0 w0 R σ a w)
    (hK : ∀ R' v w', Done R w r.N r.M r.r r.news R' v w' → K (a.put o.dst v) w') : o.wp P a w K Q := by
  have h1 := hs.ev x
  unfold aField at h
  split at h
  · rename_i p e
    rw [e] at h1
    simp only [VR] at h1
    split at h
    case isFalse => cases h
    rename_i hp
    split at h
    · rename_i fs e1
      split at h
      · rename_i fd e2
        split at h
        · rename_i k e3
          cases h
          obtain ⟨b, k', h2, h3⟩ := moved_ok (k := fd.offset) hp h1
          refine wp_of_pure (v := .pointer (some ⟨b, k' + fd.offset, none⟩)) hs ?_ (by simpa only [VR] using h3) hK
          unfold execOp
          cases hq : P.info? fd.type with
          | none => simp [szOf, hq] at e3
          | some i =>
            have e4 : i.size = k + 1 := by simpa [szOf, hq] using e3
            simp [ho, h2, Instr.fieldAt, run_underlying e1, e2, Instr.sureAddr, fieldPlace, sizeOf, typeInfo, hq, e4, Addr.add_mid]
        · cases h
      · cases h
    · cases h
  · cases h

def aLoad (P : Program) (σ : St) (t : TypeId) (x : Operand) : Option Res :=
  match σ.ev x with
  | .c p => match place σ p with
    | some (c, l, k) => match P.underlying t with
      | some (.struct _) => match szOf P t with
        | some n => if k + n ≤ l.length then some ⟨c, .agg ((l.drop k).take n), [], [], []⟩ else none
        | none => none
      | some (.array ..) => none
      | some _ => match l[k]? with
        | some cv => some ⟨c, .c cv, [], [], []⟩
        | none => none
      | none => none
    | none => none
  | _ => none
theorem load_val {t : TypeId} {x : Operand} {r : Res} (h : aLoad P σ t x = some r) (hc : r.c) (hs : Sim R0 w0 R σ a w) :
    ∃ v b q, a.eval x = .pointer (some ⟨b, q, none⟩) ∧ (loadVar t ⟨b, q, none⟩).run P w = .ok v w ∧ VR R w r.r v ∧ r.N = [] ∧ r.M = [] ∧ r.news = [] := by
  have h1 := hs.ev x
  unfold aLoad at h
  split at h
  case h_2 => cases h
  rename_i p e
  rw [e] at h1
  simp only [VR] at h1
  split at h
  case h_2 => cases h
  rename_i c l k hp
  have hcc : c := by
    split at h
    · split at h
      · split at h <;> cases h
        exact hc
      · cases h
    · cases h
    · split at h <;> cases h
      exact hc
    · cases h
  obtain ⟨b, q, us, h2, h3, h4⟩ := place_ok hs h1 hp hcc
  have hul := h3.length
  split at h
  · rename_i fs e1
    split at h
    case h_2 => cases h
    rename_i n e2
    split at h
    case isFalse => cases h
    rename_i hle
    cases h
    have hlen : ((us.drop k).take n).length = n := by simp; omega
    have := run_loadVar_mid (P := P) w b (q + k) t ((us.drop k).take n) _ (fun j v hj => by
      have hjn : j < n := by have := (List.getElem?_eq_some_iff.1 hj).1; omega
      rw [drop_take_get hjn] at hj
      rw [Nat.add_assoc, h4 _ (by omega)]; exact hj) e1 rfl (by rw [hlen]; exact e2)
    exact ⟨_, b, q + k, h2, this, by simp only [VR]; exact ⟨_, rfl, by simpa using (h3.drop k).take n⟩, rfl, rfl, rfl⟩
  · cases h
  · rename_i d d1 d2 e1
    split at h
    case h_2 => cases h
    rename_i cv e2
    cases h
    have hk := (List.getElem?_eq_some_iff.1 e2).1
    obtain ⟨u, h5, h6⟩ := h3.get k e2
    have hag : (isAgg t).run P w = .ok false w := by
      unfold isAgg
      rw [Sem.run_bind, run_underlying e1 w]
      cases d <;> simp_all
    have h7 := h4 k hk
    rw [h5] at h7
    exact ⟨u, b, q + k, h2, by simp [loadVar, hag, h7], by simpa only [VR] using h6, rfl, rfl, rfl⟩
  · cases h
theorem aLoad_ok {t : TypeId} {x : Operand} {r : Res} (ho : o.op = .load t x) (h : aLoad P σ t x = some r) (hc : r.c) (hs : Sim R0 w0 R σ a w)
    (hK : ∀ R' v w', Done R w r.N r.M r.r r.news R' v w' → K (a.put o.dst v) w') : o.wp P a w K Q := by
  obtain ⟨v, b, q, h1, h2, h3, h4, h5, h6⟩ := load_val h hc hs
  rw [h4, h5, h6] at hK
  refine wp_of_pure hs ?_ h3 hK
  unfold execOp
  simp [ho, h1, Instr.loadAt, Instr.sureAddr, h2]
end
end Go.Proofs.Ythglggjgjlmhlaa
