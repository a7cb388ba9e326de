/-
  The logic of trees, fifth part: indices, lengths, parts.
-/
import Derived.Test.YthglggjgjlmhlaaGd
namespace Go.Proofs.Ythglggjgjlmhlaa
open Go.RowKit
set_option linter.unusedSimpArgs false
set_option linter.unusedVariables false

def aIdx (P : Program) (σ : St) (tt : TypeId) (x ix : Operand) : Option Res :=
  match σ.ev x, σ.ev ix with
  | .c (.rd S _ t xs), .c (.sc (.int _ i)) => match P.underlying tt with
    | some (.slice e) => if szOf P e = some t.w then some ⟨0 ≤ i ∧ i < xs.length, .c (.pt S t (xs.getD i.toNat t.dflt) 0), [], [], []⟩ else none
    | _ => none
  | .c (.ow n), .c (.sc (.int _ i)) => match σ.look n with
    | some (.row _ t xs _) => match P.underlying tt with
      | some (.slice e) => if szOf P e = some t.w then some ⟨0 ≤ i ∧ i < xs.length, .c (.pe n i.toNat t.w 0), [], [], []⟩ else none
      | _ => none
    | some (.tree _ t xs _) => match P.underlying tt with
      | some (.slice e) => if szOf P e = some t.w then some ⟨0 ≤ i ∧ i < xs.length, .c (.pe n i.toNat t.w 0), [], [], []⟩ else none
      | _ => none
    | _ => none
  | .c (.sub n q wd o _ t xs), .c (.sc (.int _ i)) => match P.underlying tt with
    | some (.slice e) => if szOf P e = some t.w then some ⟨0 ≤ i ∧ i < xs.length, .c (.pi n q wd o i.toNat t (xs.getD i.toNat t.dflt) 0), [], [], []⟩ else none
    | _ => none
  | _, _ => none
def aLen (P : Program) (σ : St) (tt : TypeId) (x : Operand) : Option Res :=
  match σ.ev x with
  | .c p => match lenOf σ p with
    | some n => match p, P.underlying tt with
      | .sc (.string _), some .string => pureRes (.c (.sc (.int .i64 n)))
      | .sc (.string _), _ => none
      | _, some (.slice _) => pureRes (.c (.sc (.int .i64 n)))
      | _, _ => none
    | none => none
  | _ => none
def asIx (σ : St) (d : Int) : Option Operand → Option Int
  | none => some d
  | some x => match σ.ev x with
    | .c (.sc (.int _ i)) => some i
    | _ => none
/-- The names that a slice's elements belong to. -/
def srcOf (σ : St) : CV → List Nat
  | .rd S _ _ _ => S
  | .sub n _ _ _ _ _ _ => [n]
  | .ow n => match σ.look n with
    | some (.row _ _ _ S) => n :: S
    | some (.tree _ _ _ _) => [n]
    | _ => []
  | _ => []
def aSlice (P : Program) (σ : St) (tt : TypeId) (x : Operand) (lo hi : Option Operand) : Option Res :=
  match σ.ev x with
  | .c p => match rowOf σ p with
    | some ⟨e', t, xs⟩ => match asIx σ 0 lo, asIx σ xs.length hi with
      | some l, some h => match P.underlying tt with
        | some (.slice e) => if szOf P e = some t.w then some ⟨0 ≤ l ∧ l ≤ h ∧ h ≤ xs.length, .c (.rd (srcOf σ p) e' t ((xs.take h.toNat).drop l.toNat)), [], [], []⟩ else none
        | _ => none
      | _, _ => none
    | none => none
  | _ => none
def aPart (P : Program) (σ : St) (tt : TypeId) (x : Operand) (f : Nat) : Option Res :=
  match σ.ev x with
  | .agg l => match P.underlying tt with
    | some (.struct fs) => match fs[f]? with
      | some fd => match P.underlying fd.type with
        | some (.struct _) => match szOf P fd.type with
          | some n => if fd.offset + n ≤ l.length then pureRes (.agg ((l.drop fd.offset).take n)) else none
          | none => none
        | some (.array ..) => none
        | some _ => match l[fd.offset]? with
          | some c => pureRes (.c c)
          | none => none
        | none => none
      | none => none
    | _ => none
  | _ => none

section
variable {P : Program} {R0 R : Rz} {w0 w : World} {σ : St} {a : Act} {o : Oper} {K : Act → World → Prop} {Q : Exit → Act → World → Prop}
theorem szOf_info {t : TypeId} {n : Nat} (h : szOf P t = some n) : ∃ i, P.info? t = some i ∧ i.size = n := by
  cases hq : P.info? t with
  | none => simp [szOf, hq] at h
  | some i => exact ⟨i, rfl, by simpa [szOf, hq] using h⟩
/-- A row reads, whoever owns it. -/
theorem row_reads (hs : Sim R0 w0 R σ a w) {p : CV} {u : Value} (hp : VRc R w p u) {e : TypeId} {t : Ty} {xs : List t.den} (h : rowOf σ p = some ⟨e, t, xs⟩) :
    Rd (okS R (srcOf σ p)) w (.row e t) [u] xs := by
  unfold rowOf at h
  split at h
  · cases h; exact hp
  · cases h; exact hp.2.2.rd
  · rename_i n
    split at h
    · rename_i e' t' xs' S he
      cases h
      have ho := hs.look he
      simp only [VRc] at hp
      have hsrc : srcOf σ (.ow n) = n :: S := by simp [srcOf, he]
      rw [hsrc, hp]
      rcases ho with ⟨h1, h2⟩ | ⟨cap, cur, h1, h2, h3, h4, h5, h6, h7⟩
      · subst h2; rw [h1]; exact ⟨none, 0, rfl, by simp, by simp, fun h => by simp at h⟩
      · rw [h1]
        refine ⟨_, cap, rfl, h4, h5, fun h0 => ⟨R.bk n, 0, rfl, .inr (by rw [h2]; simp), fun i hi => ?_⟩⟩
        refine ⟨_, Rd.len (h7 i hi), fun j hj => ?_, (h7 i hi).frame fun b hb ho => ⟨?_, rfl⟩⟩
        · rw [drop_take_get hj]
          simp [World.cell?, h3]
        · rcases ho with ho | ho
          · exact .inl ho
          · exact .inr (List.mem_cons_of_mem _ ho)
    · rename_i e' t' xs' he
      cases h
      have ho := hs.look he
      simp only [VRc] at hp
      have hsrc : srcOf σ (.ow n) = [n] := by simp [srcOf, he]
      rw [hsrc, hp]
      rcases ho with ⟨h1, h2⟩ | ⟨cap, cur, h1, h2, h3, h4, h5, h6, h7, h8⟩
      · subst h2; rw [h1]; exact ⟨none, 0, rfl, by simp, by simp, fun h => by simp at h⟩
      · rw [h1]
        refine ⟨_, cap, rfl, h4, h5, fun h0 => ⟨R.bk n, 0, rfl, .inr (by rw [h2]; simp), fun i hi => ?_⟩⟩
        have h9 := (h7 i hi (by simp [inH])).rd
        refine ⟨_, Rd.len h9, fun j hj => ?_, h9⟩
        rw [drop_take_get hj]
        simp [World.cell?, h3]
    · cases h
  · cases h
theorem aIdx_ok {tt : TypeId} {x ix : Operand} {r : Res} (ho : o.op = .indexAddr tt x ix) (h : aIdx P σ tt x ix = some r) (hc : r.c) (hs : Sim R0 w0 R σ a w)
    (hK : ∀ R' v w', Done R w r.N r.M r.r r.news R' v w' → K (a.put o.dst v) w') : o.wp P a w K Q := by
  have h1 := hs.ev x
  have h2 := hs.ev ix
  unfold aIdx at h
  split at h
  · rename_i S e' t xs k i e1 e2
    rw [e1] at h1; rw [e2] at h2
    simp only [VR, VRc] at h1 h2
    split at h
    case h_2 => cases h
    rename_i e e3
    split at h
    case isFalse => cases h
    rename_i e4
    cases h
    obtain ⟨c0, c1⟩ := hc
    obtain ⟨ad, cap, h3, h4, h4', h5⟩ := h1
    simp only [List.cons.injEq, and_true] at h3
    obtain ⟨b, q, rfl, hb, h6⟩ := h5 (by omega)
    obtain ⟨vs, h7, h8, h9⟩ := h6 i.toNat (by omega)
    obtain ⟨ie, e5, e6⟩ := szOf_info e4
    refine wp_of_pure (v := .pointer (some ⟨b, q + i.toNat * t.w, none⟩)) hs ?_ ?_ hK
    · unfold execOp
      simp [ho, h2, h3, Instr.indexAt, run_underlying e3, asIntOf, c0, c1, sizeOf, typeInfo, e5, e6, Addr.add_mid]
    · simp only [VR, VRc]
      refine ⟨b, q + i.toNat * t.w, vs, rfl, hb, h7, h8, ?_⟩
      have : xs.getD i.toNat t.dflt = xs[i.toNat]'(by omega) := by simp [List.getD, (by omega : i.toNat < xs.length)]
      rw [this]; exact h9
  · rename_i n k i e1 e2
    rw [e1] at h1; rw [e2] at h2
    simp only [VR, VRc] at h1 h2
    split at h
    · rename_i e' t xs S he
      split at h
      case h_2 => cases h
      rename_i e e3
      split at h
      case isFalse => cases h
      rename_i e4
      cases h
      obtain ⟨c0, c1⟩ := hc
      obtain ⟨ie, e5, e6⟩ := szOf_info e4
      rcases hs.look he with ⟨h3, h4⟩ | ⟨cap, cur, h3, h4, _⟩
      · subst h4; simp at c1; omega
      refine wp_of_pure (v := .pointer (some ⟨R.bk n, i.toNat * t.w, none⟩)) hs ?_ (by simp [VR, VRc]) hK
      unfold execOp
      simp [ho, h2, h1, h3, Instr.indexAt, run_underlying e3, asIntOf, c0, c1, sizeOf, typeInfo, e5, e6, Addr.add_mid]
    · rename_i e' t xs S he
      split at h
      case h_2 => cases h
      rename_i e e3
      split at h
      case isFalse => cases h
      rename_i e4
      cases h
      obtain ⟨c0, c1⟩ := hc
      obtain ⟨ie, e5, e6⟩ := szOf_info e4
      rcases hs.look he with ⟨h3, h4⟩ | ⟨cap, cur, h3, h4, _⟩
      · subst h4; simp at c1; omega
      refine wp_of_pure (v := .pointer (some ⟨R.bk n, i.toNat * t.w, none⟩)) hs ?_ (by simp [VR, VRc]) hK
      unfold execOp
      simp [ho, h2, h1, h3, Instr.indexAt, run_underlying e3, asIntOf, c0, c1, sizeOf, typeInfo, e5, e6, Addr.add_mid]
    · cases h
  · rename_i n q wd oo e' t xs k i e1 e2
    rw [e1] at h1; rw [e2] at h2
    simp only [VR, VRc] at h1 h2
    split at h
    case h_2 => cases h
    rename_i e e3
    split at h
    case isFalse => cases h
    rename_i e4
    cases h
    obtain ⟨c0, c1⟩ := hc
    obtain ⟨ie, e5, e6⟩ := szOf_info e4
    obtain ⟨g1, g2, g3⟩ := h1
    rcases g3 with ⟨h3, h4⟩ | ⟨b, cap, cur, h3, h4, h5, h6, h7, h8, h9⟩
    · subst h4; simp at c1; omega
    have hi : i.toNat < xs.length := by omega
    have hx : xs.getD i.toNat t.dflt = xs[i.toNat] := by simp [List.getD, hi]
    refine wp_of_pure (v := .pointer (some ⟨b, i.toNat * t.w, none⟩)) hs ?_ ?_ hK
    · unfold execOp
      simp [ho, h2, h3, Instr.indexAt, run_underlying e3, asIntOf, c0, c1, sizeOf, typeInfo, e5, e6, Addr.add_mid]
    · simp only [VR, VRc]
      rw [hx]
      have h10 := h9 _ hi
      refine ⟨b, _, _, _, by rw [g1, h3], g2, h4, rfl, h10.len, fun q hq => ?_, h10.frame fun b hb ho => ⟨?_, rfl⟩⟩
      · rw [drop_take_get hq]
        simp [World.cell?, h5]
      · rcases ho with ho | ho
        · exact .inl ho
        · cases ho
  · cases h
theorem aLen_ok {tt t' : TypeId} {x : Operand} {r : Res} (ho : o.op = .call { callee := .builtin .len, args := #[x], argTypes := #[tt] }) (h : aLen P σ tt x = some r) (hs : Sim R0 w0 R σ a w)
    (hK : ∀ R' v w', Done R w r.N r.M r.r r.news R' v w' → K (a.put o.dst v) w') : o.wp P a w K Q := by
  have h1 := hs.ev x
  unfold aLen at h
  split at h
  case h_2 => cases h
  rename_i p e1
  rw [e1] at h1
  simp only [VR] at h1
  split at h
  case h_2 => cases h
  rename_i n e2
  have key : (∃ s, a.eval x = .string s ∧ s.size = n ∧ ∃ s', p = .sc (.string s')) ∨ (∃ ad cap, a.eval x = .slice ad n cap ∧ ∀ s, p ≠ .sc (.string s)) := by
    unfold lenOf at e2
    split at e2
    · cases e2; exact .inl ⟨_, h1, rfl, _, rfl⟩
    · cases e2; exact .inr ⟨_, _, h1, fun s h => by cases h⟩
    · cases e2
      obtain ⟨ad, cap, h3, _⟩ := h1
      simp only [List.cons.injEq, and_true] at h3
      exact .inr ⟨ad, cap, h3, fun s h => by cases h⟩
    · cases e2
      obtain ⟨_, _, h3⟩ := h1
      rcases h3 with ⟨h3, h4⟩ | ⟨b, cap, cur, h3, _⟩
      · subst h4; exact .inr ⟨none, 0, h3, fun s h => by cases h⟩
      · exact .inr ⟨_, cap, h3, fun s h => by cases h⟩
    · rename_i m
      split at e2
      · rename_i e' t xs S he
        cases e2
        rcases hs.look he with ⟨h3, h4⟩ | ⟨cap, cur, h3, h4, _⟩
        · subst h4; exact .inr ⟨none, 0, by rw [show a.eval x = R.hd m from h1, h3]; rfl, fun s h => by cases h⟩
        · exact .inr ⟨_, cap, by rw [show a.eval x = R.hd m from h1, h3], fun s h => by cases h⟩
      · rename_i e' t xs S he
        cases e2
        rcases hs.look he with ⟨h3, h4⟩ | ⟨cap, cur, h3, h4, _⟩
        · subst h4; exact .inr ⟨none, 0, by rw [show a.eval x = R.hd m from h1, h3]; rfl, fun s h => by cases h⟩
        · exact .inr ⟨_, cap, by rw [show a.eval x = R.hd m from h1, h3], fun s h => by cases h⟩
      · cases e2
    · cases e2
  have fin : ∀ (hr : (execOp a.eval o).run P w = .ok (.value (.int .i64 n)) w), r = ⟨True, .c (.sc (.int .i64 n)), [], [], []⟩ → o.wp P a w K Q := by
    intro hr e
    subst e
    exact wp_of_pure hs hr (by simp [VR, VRc]) hK
  have step : execOp a.eval o = (do pure (.value (← Builtin.len_ #[tt] o.type #[a.eval x]))) := by
    unfold execOp
    simp [ho, resolve, invoke, builtin]
  rcases key with ⟨s, h3, h4, s', hp⟩ | ⟨ad, cap, h3, hp⟩
  · subst hp
    split at h
    · rename_i q1 q2 q3
      refine fin ?_ (by cases h; rfl)
      rw [step]
      simp [Builtin.len_, h3, run_underlying q3, goInt, h4]
    · cases h
    · exfalso; simp_all
    · cases h
  · split at h
    · rename_i q1 q2 q3; exact absurd rfl (hp _)
    · cases h
    · rename_i q1 q2 q3 q4
      refine fin ?_ (by cases h; rfl)
      rw [step]
      simp [Builtin.len_, h3, run_underlying ‹_›, goInt]
    · cases h
theorem asIx_ok (hs : Sim R0 w0 R σ a w) {d i : Int} {x : Option Operand} (h : asIx σ d x = some i) : (x = none ∧ i = d) ∨ ∃ y k, x = some y ∧ a.eval y = .int k i := by
  unfold asIx at h
  split at h
  · cases h; exact .inl ⟨rfl, rfl⟩
  · rename_i y
    have h1 := hs.ev y
    split at h
    · rename_i k j e
      cases h
      rw [e] at h1
      exact .inr ⟨_, k, rfl, h1⟩
    · cases h
theorem aSlice_ok {tt : TypeId} {x : Operand} {lo hi : Option Operand} {r : Res} (ho : o.op = .slice tt x lo hi none) (h : aSlice P σ tt x lo hi = some r) (hc : r.c) (hs : Sim R0 w0 R σ a w)
    (hK : ∀ R' v w', Done R w r.N r.M r.r r.news R' v w' → K (a.put o.dst v) w') : o.wp P a w K Q := by
  have h1 := hs.ev x
  unfold aSlice at h
  split at h
  case h_2 => cases h
  rename_i p e1
  rw [e1] at h1
  simp only [VR] at h1
  split at h
  case h_2 => cases h
  rename_i e' t xs e2
  split at h
  case h_2 => cases h
  rename_i l hh e3 e4
  split at h
  case h_2 => cases h
  rename_i e e5
  split at h
  case isFalse => cases h
  rename_i e6
  cases h
  obtain ⟨c0, c1, c2⟩ := hc
  obtain ⟨ie, e7, e8⟩ := szOf_info e6
  have hr := row_reads hs h1 e2
  have hw := t.w_pos
  obtain ⟨ad, cap, h2, h3, h3', h4⟩ := hr
  simp only [List.cons.injEq, and_true] at h2
  have hlen : ((xs.take hh.toNat).drop l.toNat).length = hh.toNat - l.toNat := by simp; omega
  have hlo : ∃ lv : Option Value, lo.map a.eval = lv ∧ (lv = none ∧ l = 0 ∨ ∃ k, lv = some (.int k l)) := by
    rcases asIx_ok hs e3 with ⟨rfl, rfl⟩ | ⟨y, k, rfl, h5⟩
    · exact ⟨none, rfl, .inl ⟨rfl, rfl⟩⟩
    · exact ⟨_, rfl, .inr ⟨k, by simp [h5]⟩⟩
  have hhi : ∃ hv : Option Value, hi.map a.eval = hv ∧ (hv = none ∧ hh = xs.length ∨ ∃ k, hv = some (.int k hh)) := by
    rcases asIx_ok hs e4 with ⟨rfl, rfl⟩ | ⟨y, k, rfl, h5⟩
    · exact ⟨none, rfl, .inl ⟨rfl, rfl⟩⟩
    · exact ⟨_, rfl, .inr ⟨k, by simp [h5]⟩⟩
  obtain ⟨lv, el, hlv⟩ := hlo
  obtain ⟨hv, eh, hhv⟩ := hhi
  have hb : (Instr.sliceBounds true xs.length cap lv hv none).run P w = .ok (l.toNat, hh.toNat, cap) w := by
    have b1 : ∀ k, (Instr.sliceBound (.int k hh) cap .sliceAcap).run P w = .ok hh.toNat w := fun k => by
      simp [Instr.sliceBound, asIntOf]; omega
    have b2 : ∀ k, (Instr.sliceBound (.int k l) hh.toNat .sliceB).run P w = .ok l.toNat w := fun k => by
      simp [Instr.sliceBound, asIntOf]; omega
    have b3 : ∀ k, (Instr.sliceBound (.int k l) xs.length .sliceB).run P w = .ok l.toNat w := fun k => by
      simp [Instr.sliceBound, asIntOf]; omega
    rcases hlv with ⟨rfl, rfl⟩ | ⟨k, rfl⟩ <;> rcases hhv with ⟨rfl, rfl⟩ | ⟨k', rfl⟩ <;> simp [Instr.sliceBounds, b1, b2, b3]
  refine wp_of_pure (v := .slice (if cap = l.toNat then ad else ad.map (·.add (l.toNat * t.w))) (hh.toNat - l.toNat) (cap - l.toNat)) hs ?_ ?_ hK
  · unfold execOp
    simp [ho, h2, el, eh, Instr.sliceAt, run_underlying e5, Instr.slice, hb, sizeOf, typeInfo, e7, e8]
  · simp only [VR, VRc]
    refine ⟨_, cap - l.toNat, by rw [hlen], by rw [hlen]; omega, by omega, fun h0 => ?_⟩
    rw [hlen] at h0
    obtain ⟨b, q, rfl, hb, h6⟩ := h4 (by omega)
    have hne : ¬ cap = l.toNat := by omega
    refine ⟨b, q + l.toNat * t.w, by simp [hne, Addr.add_mid], hb, fun i hi => ?_⟩
    rw [hlen] at hi
    obtain ⟨vs, h7, h8, h9⟩ := h6 (l.toNat + i) (by omega)
    refine ⟨vs, h7, fun j hj => ?_, by simpa using h9⟩
    rw [← h8 j hj, Nat.add_mul]
    congr 2
    omega
theorem aPart_ok {tt : TypeId} {x : Operand} {f : Nat} {r : Res} (ho : o.op = .field tt x f) (h : aPart P σ tt x f = some r) (hs : Sim R0 w0 R σ a w)
    (hK : ∀ R' v w', Done R w r.N r.M r.r r.news R' v w' → K (a.put o.dst v) w') : o.wp P a w K Q := by
  have h1 := hs.ev x
  unfold aPart at h
  split at h
  case h_2 => cases h
  rename_i l e1
  rw [e1] at h1
  simp only [VR] at h1
  obtain ⟨us, h2, h3⟩ := h1
  have hul := h3.length
  split at h
  case h_2 => cases h
  rename_i fs e2
  split at h
  case h_2 => cases h
  rename_i fd e3
  split at h
  · rename_i q e4
    split at h
    case h_2 => cases h
    rename_i n e5
    split at h
    case isFalse => cases h
    rename_i hle
    cases h
    obtain ⟨ie, e7, e8⟩ := szOf_info e5
    refine wp_of_pure (v := .agg (us.extract fd.offset (fd.offset + n))) hs ?_ ?_ hK
    · unfold execOp
      have hag : (isAgg fd.type).run P w = .ok true w := by
        unfold isAgg
        rw [Sem.run_bind, run_underlying e4 w]
        simp
      simp [ho, h2, Instr.field, run_underlying e2, e3, asAgg, part, hag, sizeOf, typeInfo, e7, e8]
    · simp only [VR]
      refine ⟨_, rfl, ?_⟩
      have := (h3.drop fd.offset).take n
      rw [Array.toList_extract]
      simpa [List.extract, Nat.add_sub_cancel_left] using this
  · cases h
  · rename_i d d1 d2 e4
    split at h
    case h_2 => cases h
    rename_i c e5
    cases h
    obtain ⟨u, h5, h6⟩ := h3.get _ e5
    rw [Array.getElem?_toList] at h5
    refine wp_of_pure (v := u) hs ?_ (by simpa only [VR] using h6) hK
    unfold execOp
    have hag : (isAgg fd.type).run P w = .ok false w := by
      unfold isAgg
      rw [Sem.run_bind, run_underlying e4 w]
      cases d <;> simp_all
    simp [ho, h2, Instr.field, run_underlying e2, e3, asAgg, part, hag, h5]
  · cases h
end
end Go.Proofs.Ythglggjgjlmhlaa
