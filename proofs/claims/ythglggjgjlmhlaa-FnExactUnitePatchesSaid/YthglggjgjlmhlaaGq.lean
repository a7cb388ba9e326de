/-
  The logic of trees: a region whose order is drawn, second half.
-/
import Derived.Test.YthglggjgjlmhlaaGo
namespace Go.Proofs.Ythglggjgjlmhlaa
open Go.RowKit
set_option linter.unusedSimpArgs false
set_option linter.unusedVariables false

def dsts (ops : List Oper) : List Nat := ops.filterMap (·.dst)
def bfAt (bf : List (List Nat)) (i : Nat) : List Nat := bf.getD i []
def unord (bf : List (List Nat)) (i k : Nat) : Bool := i != k && !(bfAt bf i).contains k && !(bfAt bf k).contains i
/-- What the edges and the slots of a region have to be: bf: what each operation waits for; dn: what it must not look at; dc: what each may write. -/
def chkS (ops : List Oper) (bf dn dc : List (List Nat)) : Bool :=
  decide (dsts ops).Nodup && (List.range ops.length).all fun i => match ops[i]? with
    | none => true
    | some o =>
      (match o.op with | .select .. => false | _ => true) &&
      (o.after.toList.all fun e => !Region.binds .any e || decide (e.on < i)) &&
      ((bfAt bf i).all fun j => decide (j < i) && o.after.toList.any fun e => Region.binds .any e && (e.on == j || (bfAt bf e.on).contains j)) &&
      ((opSlots o).all fun t => (List.range ops.length).all fun j => match ops[j]? with
        | some oj => !(oj.dst == some t) || j == i || (bfAt bf i).contains j || (bfAt bf j).contains i
        | none => true) &&
      (match o.guard with | some (j, _) => (bfAt bf i).contains j | none => true) &&
      (List.range ops.length).all fun k => !unord bf i k || (bfAt dc k).all fun m => (bfAt dn i).contains m
def chkA (n : Nat) (bf dc : List (List Nat)) : Nat → List DR → Bool
  | _, [] => true
  | k, d :: rs => ((List.range n).all (fun i => !unord bf i k) || (d.r.N.all (fun m => (bfAt dc k).contains m) && d.r.M.all (fun m => (bfAt dc k).contains m) && d.r.news.all fun p => (bfAt dc k).contains p.1)) && chkA n bf dc (k + 1) rs

section
variable (σ0 : St) (ops : List Oper) (dn : List (List Nat)) (rs : List DR)
def dstOf (j : Nat) : Option Tmp := (ops[j]?).bind (·.dst)
def Rr (j : Nat) : Res := (rs.getD j DR.none).r
/-- The text's states. -/
def sT : Nat → St
  | 0 => σ0
  | m + 1 => finD (sT m) (dstOf ops m) (dn.getD m []) (Rr rs m)
def cat (f : Nat → List Nat) (lo hi : Nat) : List Nat := (List.range' lo (hi - lo)).flatMap f
end
theorem mem_cat {f : Nat → List Nat} {lo hi n : Nat} : n ∈ cat f lo hi ↔ ∃ k, lo ≤ k ∧ k < hi ∧ n ∈ f k := by
  simp only [cat, List.mem_flatMap, List.mem_range'_1]
  constructor
  · rintro ⟨k, hk, h⟩; exact ⟨k, hk.1, by omega, h⟩
  · rintro ⟨k, h1, h2, h⟩; exact ⟨k, ⟨h1, by omega⟩, h⟩
theorem cat_succ {f : Nat → List Nat} {lo m : Nat} (h : lo ≤ m) : cat f lo (m + 1) = cat f lo m ++ f m := by
  unfold cat
  rw [show m + 1 - lo = (m - lo) + 1 by omega, List.range'_concat, List.flatMap_append]
  simp [show lo + (m - lo) = m by omega]
theorem cat_self {f : Nat → List Nat} {m : Nat} : cat f m m = [] := by simp [cat]
theorem CV.kill_nil (c : CV) : c.kill [] [] = c := by simp [CV.kill, CV.hit]
mutual
theorem AV.kill_nil (x : AV) : x.kill [] [] = x := by
  match x with
  | .c q => simp only [AV.kill, CV.kill_nil]
  | .agg l => simp only [AV.kill]; congr 1; exact (List.map_congr_left fun c _ => CV.kill_nil c).trans (List.map_id _)
  | .tup l => simp only [AV.kill, AV.killL_nil l]
theorem AV.killL_nil (l : List AV) : AV.killL [] [] l = l := by
  match l with
  | [] => rfl
  | x :: l => simp only [AV.killL, AV.kill_nil x, AV.killL_nil l]
end
theorem killL_get (N M : List Nat) (l : List AV) (t : Nat) : ((AV.killL N M l)[t]?).getD (.c .bot) = ((l[t]?).getD (.c .bot)).kill N M := by
  induction l generalizing t with
  | nil => simp [AV.killL, AV.kill, CV.kill, CV.hit, CV.srcs, CV.ids]
  | cons x l ih =>
    cases t with
    | zero => simp [AV.killL]
    | succ t => simpa [AV.killL] using ih t
theorem killL_length (N M : List Nat) (l : List AV) : (AV.killL N M l).length = l.length := by
  induction l with
  | nil => rfl
  | cons x l ih => simp [AV.killL, ih]
theorem fin_get {σ : St} {d : Option Tmp} {N M : List Nat} {r : AV} {news : List (Nat × Ob)} (t : Nat) : (σ.fin d N M r news).get t = if d = some t ∧ t < σ.tm.length then r else (σ.get t).kill N M := by
  have e : (if N.isEmpty && M.isEmpty then σ.tm else AV.killL N M σ.tm) = AV.killL N M σ.tm := by
    split
    · rename_i h
      simp only [Bool.and_eq_true, List.isEmpty_iff] at h
      obtain ⟨rfl, rfl⟩ := h
      rw [AV.killL_nil]
    · rfl
  unfold St.get St.fin
  simp only [e]
  cases d with
  | none => simp only [reduceCtorEq, false_and, if_false]; exact killL_get N M σ.tm t
  | some d =>
    simp only [Option.some.injEq, List.getElem?_set, killL_length]
    by_cases h : d = t
    · subst h
      by_cases h2 : d < σ.tm.length
      · simp [h2]
      · simp only [h2, and_false, if_false, if_true, Option.getD_none]
        have e2 : σ.tm[d]? = none := List.getElem?_eq_none (Nat.le_of_not_lt h2)
        rw [e2]
        simp [AV.kill, CV.kill, CV.hit, CV.srcs, CV.ids]
    · simp only [h, false_and, if_false]
      exact killL_get N M σ.tm t
theorem fin_length {σ : St} {d : Option Tmp} {N M : List Nat} {r : AV} {news : List (Nat × Ob)} : (σ.fin d N M r news).tm.length = σ.tm.length := by
  unfold St.fin
  cases d <;> simp only [] <;> split <;> simp [killL_length]
theorem fin_ob {σ : St} {d : Option Tmp} {N M : List Nat} {r : AV} {news : List (Nat × Ob)} {p : Nat × Ob} (h : p ∈ (σ.fin d N M r news).ob) :
    p ∈ news ∨ ∃ q ∈ σ.ob, q.1 = p.1 ∧ q.1 ∉ N ∧ q.1 ∉ M ∧ q.2.kill N M = some p.2 := by
  simp only [St.fin, List.mem_append] at h
  rcases h with h | h
  · exact .inl h
  · right
    split at h
    · rename_i e
      simp only [Bool.and_eq_true, List.isEmpty_iff] at e
      obtain ⟨rfl, rfl⟩ := e
      refine ⟨p, h, rfl, by simp, by simp, ?_⟩
      cases p.2 with
      | box l => simp only [Ob.kill]; congr 2; exact (List.map_congr_left fun c _ => CV.kill_nil c).trans (List.map_id _)
      | row e t xs S => simp [Ob.kill]
      | tree e t xs h' => simp [Ob.kill]
    · obtain ⟨q, h1, h2, h3, h4, h5⟩ := mem_kill h
      exact ⟨q, h1, h2.symm, h3, h4, h5⟩
section
variable {σ0 : St} {ops : List Oper} {dn : List (List Nat)} {rs : List DR}
theorem sT_length (m : Nat) : (sT σ0 ops dn rs m).tm.length = σ0.tm.length := by
  induction m with
  | zero => rfl
  | succ m ih => simp only [sT, finD, fin_length, ih]
abbrev Nk (rs : List DR) (k : Nat) : List Nat := (Rr rs k).N
abbrev Mk (rs : List DR) (k : Nat) : List Nat := (Rr rs k).M
theorem sT_old {t : Nat} : ∀ m, (∀ j, j < m → dstOf ops j ≠ some t) → (sT σ0 ops dn rs m).get t = (σ0.get t).kill (cat (Nk rs) 0 m) (cat (Mk rs) 0 m) := by
  intro m
  induction m with
  | zero => intro _; simp only [sT, cat_self, AV.kill_nil]
  | succ m ih =>
    intro h
    have h1 := ih fun j hj => h j (by omega)
    simp only [sT, finD, fin_get]
    rw [if_neg (fun hh => h m (by omega) hh.1), h1, AV.kill_kill, ← cat_succ (Nat.zero_le m), ← cat_succ (Nat.zero_le m)]
theorem sT_new {t j : Nat} (hj : dstOf ops j = some t) (ht : t < σ0.tm.length) (hd : ∀ k, dstOf ops k = some t → k = j) : ∀ m, j < m →
    (sT σ0 ops dn rs m).get t = (Rr rs j).r.kill (dn.getD j [] ++ cat (Nk rs) (j + 1) m) (dn.getD j [] ++ cat (Mk rs) (j + 1) m) := by
  intro m hm
  induction m with
  | zero => omega
  | succ m ih =>
    simp only [sT, finD, fin_get, sT_length]
    by_cases e : m = j
    · subst e
      rw [if_pos ⟨hj, ht⟩, cat_self, cat_self, List.append_nil]
    · rw [if_neg (fun hh => e (hd m hh.1)), ih (by omega), AV.kill_kill, List.append_assoc, List.append_assoc, ← cat_succ (by omega), ← cat_succ (by omega)]
theorem sT_ob {p : Nat × Ob} : ∀ m, p ∈ (sT σ0 ops dn rs m).ob →
    (∃ q ∈ σ0.ob, q.1 = p.1 ∧ q.1 ∉ cat (Nk rs) 0 m ∧ q.1 ∉ cat (Mk rs) 0 m ∧ q.2.kill (cat (Nk rs) 0 m) (cat (Mk rs) 0 m) = some p.2) ∨
    ∃ j, j < m ∧ ∃ q ∈ (Rr rs j).news, q.1 = p.1 ∧ q.1 ∉ dn.getD j [] ++ cat (Nk rs) (j + 1) m ∧ q.1 ∉ dn.getD j [] ++ cat (Mk rs) (j + 1) m ∧
      q.2.kill (dn.getD j [] ++ cat (Nk rs) (j + 1) m) (dn.getD j [] ++ cat (Mk rs) (j + 1) m) = some p.2 := by
  intro m
  induction m generalizing p with
  | zero =>
    intro h
    refine .inl ⟨p, h, rfl, by simp [cat_self], by simp [cat_self], ?_⟩
    rw [cat_self, cat_self]
    cases p.2 with
    | box l => simp only [Ob.kill]; congr 2; exact (List.map_congr_left fun c _ => CV.kill_nil c).trans (List.map_id _)
    | row e t xs S => simp [Ob.kill]
    | tree e t xs h' => simp [Ob.kill]
  | succ m ih =>
    intro h
    simp only [sT, finD] at h
    rcases fin_ob h with h | ⟨q, h1, h2, h3, h4, h5⟩
    · obtain ⟨q, h1, h2, h3, h4, h5⟩ := mem_kill h
      exact .inr ⟨m, by omega, q, h1, h2.symm, by simpa [cat_self] using h3, by simpa [cat_self] using h4, by rw [cat_self, cat_self, List.append_nil]; exact h5⟩
    · rcases ih h1 with ⟨q', k1, k2, k3, k4, k5⟩ | ⟨j, hj, q', k1, k2, k3, k4, k5⟩
      · refine .inl ⟨q', k1, k2.trans h2, ?_, ?_, ?_⟩
        · rw [cat_succ (Nat.zero_le m), List.mem_append]; exact fun hh => hh.elim k3 (fun hh => h3 (k2 ▸ hh))
        · rw [cat_succ (Nat.zero_le m), List.mem_append]; exact fun hh => hh.elim k4 (fun hh => h4 (k2 ▸ hh))
        · rw [cat_succ (Nat.zero_le m), cat_succ (Nat.zero_le m)]; exact Ob.kill_kill k5 h5
      · refine .inr ⟨j, by omega, q', k1, k2.trans h2, ?_, ?_, ?_⟩
        · rw [cat_succ (by omega), ← List.append_assoc, List.mem_append]; exact fun hh => hh.elim k3 (fun hh => h3 (k2 ▸ hh))
        · rw [cat_succ (by omega), ← List.append_assoc, List.mem_append]; exact fun hh => hh.elim k4 (fun hh => h4 (k2 ▸ hh))
        · rw [cat_succ (by omega), cat_succ (by omega), ← List.append_assoc, ← List.append_assoc]; exact Ob.kill_kill k5 h5
end

/-- What is known when the operations E have been done, in whatever order. -/
structure Inv (R0 : Rz) (w0 : World) (σ0 : St) (ops : List Oper) (bf : List (List Nat)) (rs : List DR) (E : Nat → Prop) (R : Rz) (a : Act) (w : World) : Prop where
  size : a.tmps.size = σ0.tm.length
  s0 : ∀ t, (∀ j, E j → dstOf ops j ≠ some t) → ∀ ZN ZM, (∀ k, E k → (∀ n ∈ Nk rs k, n ∈ ZN) ∧ (∀ n ∈ Mk rs k, n ∈ ZM)) → VR R w ((σ0.get t).kill ZN ZM) (a.tmps.getD t undef)
  s1 : ∀ j t, E j → dstOf ops j = some t → t < σ0.tm.length → ∀ ZN ZM, (∀ k, E k → k ≠ j → k ∉ bfAt bf j → (∀ n ∈ Nk rs k, n ∈ ZN) ∧ (∀ n ∈ Mk rs k, n ∈ ZM)) → VR R w ((Rr rs j).r.kill ZN ZM) (a.tmps.getD t undef)
  o0 : ∀ q ∈ σ0.ob, ∀ ZN ZM o', (∀ k, E k → (∀ n ∈ Nk rs k, n ∈ ZN) ∧ (∀ n ∈ Mk rs k, n ∈ ZM)) → q.1 ∉ ZN → q.1 ∉ ZM → q.2.kill ZN ZM = some o' → OR R w q.1 o'
  o1 : ∀ j, E j → ∀ q ∈ (Rr rs j).news, ∀ ZN ZM o', (∀ k, E k → k ≠ j → k ∉ bfAt bf j → (∀ n ∈ Nk rs k, n ∈ ZN) ∧ (∀ n ∈ Mk rs k, n ∈ ZM)) → q.1 ∉ ZN → q.1 ∉ ZM → q.2.kill ZN ZM = some o' → OR R w q.1 o'
  os : w.os = w0.os
  tape : w.tape = w0.tape
  output : w.output = w0.output
  grow : w0.heap.size ≤ w.heap.size
  keep : ∀ b, b < w0.heap.size → R0.root b ≤ 5 → w.heap[b]? = w0.heap[b]? ∧ R.root b = R0.root b
  pl : ∀ n, 30 ≤ n → n < 46 → R.hd n = R0.hd n ∧ R.bk n = R0.bk n
  defers : a.defers = []

theorem VRt_of_get {R : Rz} {w : World} : ∀ {l : List AV} {us : List Value}, us.length = l.length → (∀ t : Nat, VR R w ((l[t]?).getD (.c .bot)) ((us[t]?).getD undef)) → VRt R w l us := by
  intro l
  induction l with
  | nil => intro us h _; simp only [VRt]; exact List.eq_nil_of_length_eq_zero h
  | cons x l ih =>
    intro us h k
    cases us with
    | nil => simp at h
    | cons u us =>
      simp only [VRt]
      exact ⟨u, us, rfl, by simpa using k 0, ih (by simpa using h) fun t => by simpa using k (t + 1)⟩
section
variable {R0 : Rz} {w0 : World} {σ0 : St} {ops : List Oper} {bf : List (List Nat)} {rs : List DR} {E : Nat → Prop} {R : Rz} {a : Act} {w : World}
theorem Inv.sim (h : Inv R0 w0 σ0 ops bf rs E R a w) {σ : St} (hl : σ.tm.length = σ0.tm.length) (hs : ∀ t, VR R w (σ.get t) (a.tmps.getD t undef)) (ho : obsOk R w σ.ob) : Sim R0 w0 R σ a w :=
  ⟨h.size.trans hl.symm, VRt_of_get (by simp [h.size, hl]) fun t => by
    have := hs t
    rw [Array.getD_eq_getD_getElem?, ← Array.getElem?_toList] at this
    exact this, ho, h.os, h.tape, h.output, h.grow, h.keep, h.pl, h.defers⟩
theorem Inv.start (hs : Sim R0 w0 R σ0 a w) : Inv R0 w0 σ0 ops bf rs (fun _ => False) R a w :=
  ⟨hs.size, fun t _ ZN ZM _ => VR.weaker (hs.get t), fun j t h => h.elim, fun q hq ZN ZM o' _ h1 h2 h3 => by
    -- killing tells less
    have key := hs.ob q hq
    by_cases h0 : 0 ∈ ZN
    · cases hq2 : q.2 with
      | box l =>
        rw [hq2] at key h3
        simp only [Ob.kill, Option.some.injEq] at h3
        subst h3
        obtain ⟨us, T, k1, k2, k3⟩ := key
        refine ⟨us, T, k1, k2, ?_⟩
        clear k1
        have : ∀ (l : List CV) (us : List Value), VRs R w l us → VRs R w (l.map (CV.kill ZN ZM)) us := by
          intro l
          induction l with
          | nil => intro us h; exact h
          | cons c l ih =>
            intro us h
            obtain ⟨u, us', rfl, m1, m2⟩ := h
            refine ⟨u, us', rfl, ?_, ih us' m2⟩
            unfold CV.kill; split
            · trivial
            · exact m1
        exact this _ _ k3
      | row e t xs S =>
        rw [hq2] at key h3
        simp only [Ob.kill] at h3
        split at h3
        · cases h3
        · cases h3; exact key
      | tree e t xs h' =>
        rw [hq2] at key h3
        simp only [Ob.kill, Option.some.injEq] at h3
        subst h3
        exact key
    · exact OR.kill key (FR.refl ZN ZM R w) h0 h1 h2 h3, fun j h => h.elim, hs.os, hs.tape, hs.output, hs.grow, hs.keep, hs.pl, hs.defers⟩
/-- One more operation has been done. -/
theorem Inv.step {i : Nat} {o : Oper} {R' : Rz} {v : Value} {w' : World} (h : Inv R0 w0 σ0 ops bf rs E R a w) (ho : ops[i]? = some o) (hdist : ∀ j k t, dstOf ops j = some t → dstOf ops k = some t → j = k) (hE : ¬ E i) (hup : ∀ j, E j → i ∉ bfAt bf j)
    (hd : Done R w (Nk rs i) (Mk rs i) (Rr rs i).r (Rr rs i).news R' v w') : Inv R0 w0 σ0 ops bf rs (fun k => k = i ∨ E k) R' (a.put o.dst v) w' := by
  have h0 : 0 ∉ Nk rs i := fun hh => by have := hd.n5 0 hh; omega
  have hdi : dstOf ops i = o.dst := by simp [dstOf, ho]
  have hget : ∀ t, o.dst ≠ some t → (a.put o.dst v).tmps.getD t undef = a.tmps.getD t undef := fun t ht => by
    cases hq : o.dst with
    | none => rfl
    | some d =>
      have : d ≠ t := fun e => ht (by rw [hq, e])
      simp [Act.put, Array.getD_eq_getD_getElem?, Array.getElem?_setIfInBounds_ne this]
  refine ⟨?_, fun t ht ZN ZM hc => ?_, fun j t hj hdj htl ZN ZM hc => ?_, fun q hq ZN ZM o' hc h1 h2 h3 => ?_, fun j hj q hq ZN ZM o' hc h1 h2 h3 => ?_, hd.fr.os.trans h.os, hd.fr.tape.trans h.tape, hd.fr.output.trans h.output, Nat.le_trans h.grow hd.fr.size, fun b hb hr => ?_, fun n k1 k2 => ⟨(hd.fr.lo n (by omega)).1.trans (h.pl n k1 k2).1, (hd.fr.lo n (by omega)).2.trans (h.pl n k1 k2).2⟩, ?_⟩
  · rw [← h.size]; cases o.dst <;> simp [Act.put]
  · rw [hget t (by rw [← hdi]; exact ht i (.inl rfl))]
    exact VR.stay (h.s0 t (fun j hj => ht j (.inr hj)) ZN ZM fun k hk => hc k (.inr hk)) hd.fr h0 (hc i (.inl rfl)).1 (hc i (.inl rfl)).2
  · rcases hj with rfl | hj
    · have e : (a.put o.dst v).tmps.getD t undef = v := by
        rw [← hdi, hdj]
        have : t < a.tmps.size := by rw [h.size]; exact htl
        simp [Act.put, Array.getD_eq_getD_getElem?, this]
      rw [e]
      exact VR.weaker hd.vr
    · have hne : i ≠ j := fun e => hE (e ▸ hj)
      rw [hget t (fun e => hne (hdist i j t (by rw [hdi]; exact e) hdj))]
      have hci := hc i (.inl rfl) hne (hup j hj)
      exact VR.stay (h.s1 j t hj hdj htl ZN ZM fun k hk => hc k (.inr hk)) hd.fr h0 hci.1 hci.2
  · exact OR.stay (h.o0 q hq ZN ZM o' (fun k hk => hc k (.inr hk)) h1 h2 h3) h3 h1 h2 hd.fr h0 (hc i (.inl rfl)).1 (hc i (.inl rfl)).2
  · rcases hj with rfl | hj
    · have key := hd.ob q hq
      by_cases hz : 0 ∈ ZN
      · cases hq2 : q.2 with
        | box l =>
          rw [hq2] at key h3
          simp only [Ob.kill, Option.some.injEq] at h3
          subst h3
          obtain ⟨us, T, k1, k2, k3⟩ := key
          refine ⟨us, T, k1, k2, ?_⟩
          have : ∀ (l : List CV) (us : List Value), VRs R' w' l us → VRs R' w' (l.map (CV.kill ZN ZM)) us := by
            intro l
            induction l with
            | nil => intro us h; exact h
            | cons c l ih =>
              intro us h
              obtain ⟨u, us', rfl, m1, m2⟩ := h
              refine ⟨u, us', rfl, ?_, ih us' m2⟩
              unfold CV.kill; split
              · trivial
              · exact m1
          exact this _ _ k3
        | row e t xs S =>
          rw [hq2] at key h3
          simp only [Ob.kill] at h3
          split at h3
          · cases h3
          · cases h3; exact key
        | tree e t xs h' =>
          rw [hq2] at key h3
          simp only [Ob.kill, Option.some.injEq] at h3
          subst h3
          exact key
      · exact OR.kill key (FR.refl ZN ZM R' w') hz h1 h2 h3
    · have hne : i ≠ j := fun e => hE (e ▸ hj)
      have hci := hc i (.inl rfl) hne (hup j hj)
      exact OR.stay (h.o1 j hj q hq ZN ZM o' (fun k hk => hc k (.inr hk)) h1 h2 h3) h3 h1 h2 hd.fr h0 hci.1 hci.2
  · obtain ⟨h1, h2⟩ := h.keep b hb hr
    obtain ⟨k1, k2⟩ := hd.fr.keep b (Nat.lt_of_lt_of_le hb h.grow) (fun hm => by rw [h2] at hm; have := hd.n5 _ hm; omega)
    exact ⟨k1.trans h1, k2.trans h2⟩
  · cases o.dst <;> exact h.defers
end
end Go.Proofs.Ythglggjgjlmhlaa
