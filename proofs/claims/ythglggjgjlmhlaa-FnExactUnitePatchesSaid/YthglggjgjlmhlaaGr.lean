/-
  The logic of trees: a region whose order is drawn: the law.
-/
import Derived.Test.YthglggjgjlmhlaaGq
namespace Go.Proofs.Ythglggjgjlmhlaa
open Go.RowKit
set_option linter.unusedSimpArgs false
set_option linter.unusedVariables false

theorem keepAt_get (l : List Nat) : ∀ (xs : List AV) (i t : Nat), ((keepAt l i xs)[t]?).getD (.c .bot) = if l.contains (i + t) then (xs[t]?).getD (.c .bot) else .c .bot := by
  intro xs
  induction xs with
  | nil => intro i t; simp [keepAt]
  | cons x xs ih =>
    intro i t
    cases t with
    | zero => simp [keepAt]
    | succ t => simp only [keepAt, List.getElem?_cons_succ]; rw [ih]; congr 2; congr 1; omega
theorem keepAt_length (l : List Nat) : ∀ (xs : List AV) (i : Nat), (keepAt l i xs).length = xs.length := by
  intro xs
  induction xs with
  | nil => intro i; rfl
  | cons x xs ih => intro i; simp [keepAt, ih]
theorem bot_kill {N M : List Nat} : (AV.c CV.bot).kill N M = .c .bot := by simp [AV.kill, CV.kill, CV.hit, CV.srcs, CV.ids]

/-- What the text's run says of operation i. -/
def TrAt (P : Program) (G : TypeId → Option Ty) (T : Tab) (dn : List (List Nat)) (ops : List Oper) (σ0 : St) (rs : List DR) (i : Nat) (o : Oper) : Prop :=
  ((o.guard = none ∨ ∃ j want d, o.guard = some (j, want) ∧ gval (sT σ0 ops dn rs i) ops j = some (d, want)) ∧ aop P G T (sB (sT σ0 ops dn rs i) (opSlots o) (dn.getD i [])) o = some (Rr rs i) ∧ (Rr rs i).c) ∨
  ((∃ j want, o.guard = some (j, want) ∧ ((∃ d, gval (sT σ0 ops dn rs i) ops j = some (d, !want)) ∨ gnone (sT σ0 ops dn rs i) ops j = true)) ∧ Rr rs i = DR.none.r)
theorem DTr_at {P : Program} {G : TypeId → Option Ty} {T : Tab} {dn : List (List Nat)} {all : List Oper} {σ0 : St} : ∀ {l : List Oper} {i : Nat} {σ : St} {rs : List DR} {σ' : St}, DTr P G T dn all l i σ rs σ' →
    ∀ (pre : List Oper) (prs : List DR), all = pre ++ l → pre.length = i → prs.length = i → σ = sT σ0 all dn (prs ++ rs) i →
    rs.length = l.length ∧ σ' = sT σ0 all dn (prs ++ rs) (i + l.length) ∧ ∀ k o, l[k]? = some o → TrAt P G T dn all σ0 (prs ++ rs) (i + k) o := by
  intro l i σ rs σ' h
  induction h with
  | nil i σ => intro pre prs _ _ _ h; exact ⟨rfl, by simpa using h, fun k o h => by simp at h⟩
  | @run o l i σ r rs σ' hg h hc k ih =>
    intro pre prs h1 h2 h3 h4
    have hr : Rr (prs ++ ⟨true, r⟩ :: rs) i = r := by
      simp [Rr, List.getD, List.getElem?_append_right (show prs.length ≤ i by omega), show i - prs.length = 0 by omega]
    have hd : dstOf all i = o.dst := by
      simp [dstOf, h1, List.getElem?_append_right (show pre.length ≤ i by omega), show i - pre.length = 0 by omega]
    obtain ⟨k1, k2, k3⟩ := ih (pre ++ [o]) (prs ++ [⟨true, r⟩]) (by simp [h1]) (by simp [h2]) (by simp [h3]) (by
      simp only [List.append_assoc, List.singleton_append, sT]
      rw [hr, hd, ← h4])
    simp only [List.append_assoc, List.singleton_append] at k2 k3
    refine ⟨by simp [k1], by rw [k2]; congr 1; simp; omega, fun m o' hm => ?_⟩
    cases m with
    | zero =>
      simp only [List.getElem?_cons_zero, Option.some.injEq] at hm
      subst hm
      rw [Nat.add_zero]
      refine .inl ⟨?_, ?_, by rw [hr]; exact hc⟩
      · rw [← h4]; exact hg
      · rw [← h4, hr]; exact h
    | succ m =>
      simp only [List.getElem?_cons_succ] at hm
      have := k3 m o' hm
      rw [show i + (m + 1) = i + 1 + m by omega]
      exact this
  | @skip o l i σ rs σ' hg k ih =>
    intro pre prs h1 h2 h3 h4
    have hr : Rr (prs ++ DR.none :: rs) i = DR.none.r := by
      simp [Rr, List.getD, List.getElem?_append_right (show prs.length ≤ i by omega), show i - prs.length = 0 by omega]
    have hd : dstOf all i = o.dst := by
      simp [dstOf, h1, List.getElem?_append_right (show pre.length ≤ i by omega), show i - pre.length = 0 by omega]
    obtain ⟨k1, k2, k3⟩ := ih (pre ++ [o]) (prs ++ [DR.none]) (by simp [h1]) (by simp [h2]) (by simp [h3]) (by
      simp only [List.append_assoc, List.singleton_append, sT]
      rw [hr, hd, ← h4])
    simp only [List.append_assoc, List.singleton_append] at k2 k3
    refine ⟨by simp [k1], by rw [k2]; congr 1; simp; omega, fun m o' hm => ?_⟩
    cases m with
    | zero =>
      simp only [List.getElem?_cons_zero, Option.some.injEq] at hm
      subst hm
      rw [Nat.add_zero]
      exact .inr ⟨by rw [← h4]; exact hg, hr⟩
    | succ m =>
      simp only [List.getElem?_cons_succ] at hm
      have := k3 m o' hm
      rw [show i + (m + 1) = i + 1 + m by omega]
      exact this

/-- The checks, as facts. -/
structure Chk (ops : List Oper) (bf dn dc : List (List Nat)) (rs : List DR) : Prop where
  dist : ∀ j k t, dstOf ops j = some t → dstOf ops k = some t → j = k
  sel : ∀ (i : Nat) (o : Oper) cs b, ops[i]? = some o → o.op ≠ .select cs b
  edge : ∀ (i : Nat) (o : Oper), ops[i]? = some o → ∀ e ∈ o.after, Region.binds .any e = true → e.on < i
  bef : ∀ (i : Nat) (o : Oper), ops[i]? = some o → ∀ j ∈ bfAt bf i, j < i ∧ ∃ e ∈ o.after, Region.binds .any e = true ∧ (e.on = j ∨ j ∈ bfAt bf e.on)
  out : ∀ i : Nat, ops[i]? = none → bfAt bf i = []
  slot : ∀ (i : Nat) (o : Oper), ops[i]? = some o → ∀ t ∈ opSlots o, ∀ j, dstOf ops j = some t → j = i ∨ j ∈ bfAt bf i ∨ i ∈ bfAt bf j
  grd : ∀ (i : Nat) (o : Oper) j want, ops[i]? = some o → o.guard = some (j, want) → j ∈ bfAt bf i
  down : ∀ i k, i < ops.length → k < ops.length → unord bf i k = true → ∀ m ∈ bfAt dc k, m ∈ dn.getD i []
  dec : ∀ i k, i < ops.length → k < ops.length → unord bf i k = true → (∀ n ∈ Nk rs k, n ∈ bfAt dc k) ∧ (∀ n ∈ Mk rs k, n ∈ bfAt dc k) ∧ ∀ p ∈ (Rr rs k).news, p.1 ∈ bfAt dc k
theorem filterMap_dist {ops : List Oper} (h : (dsts ops).Nodup) : ∀ j k t, dstOf ops j = some t → dstOf ops k = some t → j = k := by
  induction ops with
  | nil => intro j k t h; simp [dstOf] at h
  | cons o ops ih =>
    have mem : ∀ (k : Nat) (t : Tmp), dstOf ops k = some t → t ∈ dsts ops := fun k t hk => by
      unfold dstOf at hk
      cases hq : ops[k]? with
      | none => rw [hq] at hk; simp at hk
      | some q => rw [hq] at hk; exact List.mem_filterMap.2 ⟨q, List.mem_of_getElem? hq, by simpa using hk⟩
    have h' : (dsts ops).Nodup ∧ ∀ t, o.dst = some t → t ∉ dsts ops := by
      unfold dsts at h ⊢
      rw [List.filterMap_cons] at h
      cases hd : o.dst with
      | none => rw [hd] at h; exact ⟨h, fun t ht => by cases ht⟩
      | some d =>
        rw [hd] at h
        simp only [List.nodup_cons] at h
        exact ⟨h.2, fun t ht => by cases ht; exact h.1⟩
    intro j k t hj hk
    cases j with
    | zero =>
      cases k with
      | zero => rfl
      | succ k =>
        have hj : o.dst = some t := by simpa [dstOf] using hj
        exact absurd (mem k t (by simpa [dstOf] using hk)) (h'.2 t hj)
    | succ j =>
      cases k with
      | zero =>
        have hk : o.dst = some t := by simpa [dstOf] using hk
        exact absurd (mem j t (by simpa [dstOf] using hj)) (h'.2 t hk)
      | succ k => rw [ih h'.1 j k t (by simpa [dstOf] using hj) (by simpa [dstOf] using hk)]
theorem chkA_at {n : Nat} {bf dc : List (List Nat)} : ∀ {rs : List DR} {k : Nat}, chkA n bf dc k rs = true → ∀ m d, rs[m]? = some d → ∀ i, i < n → unord bf i (k + m) = true →
    (∀ x ∈ d.r.N, x ∈ bfAt dc (k + m)) ∧ (∀ x ∈ d.r.M, x ∈ bfAt dc (k + m)) ∧ ∀ p ∈ d.r.news, p.1 ∈ bfAt dc (k + m) := by
  intro rs
  induction rs with
  | nil => intro k _ m d h; simp at h
  | cons d0 rs ih =>
    intro k h m d hm i hi hu
    simp only [chkA, Bool.and_eq_true] at h
    cases m with
    | zero =>
      simp only [List.getElem?_cons_zero, Option.some.injEq] at hm
      subst hm
      rw [Nat.add_zero] at hu ⊢
      rcases (Bool.or_eq_true _ _).mp h.1 with h1 | h1
      · have := List.all_eq_true.1 h1 i (List.mem_range.2 hi)
        rw [hu] at this; simp at this
      · simp only [Bool.and_eq_true] at h1
        exact ⟨fun x hx => by simpa using List.all_eq_true.1 h1.1.1 x hx, fun x hx => by simpa using List.all_eq_true.1 h1.1.2 x hx, fun p hp => by simpa using List.all_eq_true.1 h1.2 p hp⟩
    | succ m =>
      simp only [List.getElem?_cons_succ] at hm
      have := ih h.2 m d hm i hi (by rw [show k + 1 + m = k + (m + 1) by omega]; exact hu)
      rw [show k + 1 + m = k + (m + 1) by omega] at this
      exact this
theorem chk_of {ops : List Oper} {bf dn dc : List (List Nat)} {rs : List DR} (h : chkS ops bf dn dc = true) (hl : bf.length ≤ ops.length) (k : chkA ops.length bf dc 0 rs = true) : Chk ops bf dn dc rs := by
  simp only [chkS, Bool.and_eq_true, decide_eq_true_eq] at h
  obtain ⟨h1, h2⟩ := h
  have at_ : ∀ i o, ops[i]? = some o → _ := fun i o ho => by
    have h3 := List.all_eq_true.1 h2 i (List.mem_range.2 (List.getElem?_eq_some_iff.1 ho).1)
    rw [ho] at h3
    simp only [Bool.and_eq_true] at h3
    exact h3
  refine ⟨filterMap_dist h1, fun i o cs b ho e => ?_, fun i o ho e he hb => ?_, fun i o ho j hj => ?_, fun i hi => ?_, fun i o ho t ht j hj => ?_, fun i o j want ho hg => ?_, fun i k hi hk hu m hm => ?_, fun i k' hi hk hu => ?_⟩
  · have := (at_ i o ho).1.1.1.1.1
    rw [e] at this; cases this
  · have := List.all_eq_true.1 (at_ i o ho).1.1.1.1.2 e (by simpa using he)
    rw [hb] at this; simpa using this
  · have := List.all_eq_true.1 (at_ i o ho).1.1.1.2 j hj
    simp only [Bool.and_eq_true, decide_eq_true_eq] at this
    obtain ⟨e, he, hh⟩ := List.any_eq_true.1 this.2
    simp only [Bool.and_eq_true, Bool.or_eq_true, beq_iff_eq, List.contains_iff_mem] at hh
    exact ⟨this.1, e, by simpa using he, hh.1, hh.2⟩
  · unfold bfAt
    have : ops.length ≤ i := List.getElem?_eq_none_iff.1 hi
    rw [List.getD_eq_getElem?_getD, List.getElem?_eq_none (by omega)]; rfl
  · have h3 := List.all_eq_true.1 (at_ i o ho).1.1.2 t ht
    cases hq : ops[j]? with
    | none => simp [dstOf, hq] at hj
    | some oj =>
      have h4 := List.all_eq_true.1 h3 j (List.mem_range.2 (List.getElem?_eq_some_iff.1 hq).1)
      have h5 : oj.dst = some t := by simpa [dstOf, hq] using hj
      rw [hq] at h4
      simp only [h5, beq_self_eq_true, Bool.not_true, Bool.false_or, Bool.or_eq_true, beq_iff_eq, List.contains_iff_mem] at h4
      rcases h4 with (h4 | h4) | h4
      · exact .inl h4
      · exact .inr (.inl h4)
      · exact .inr (.inr h4)
  · have h3 := (at_ i o ho).1.2
    rw [hg] at h3
    simpa using h3
  · have h3 := (at_ i _ (List.getElem?_eq_getElem hi)).2
    have h4 := List.all_eq_true.1 h3 k (List.mem_range.2 hk)
    rw [hu] at h4
    simp only [Bool.not_true, Bool.false_or] at h4
    simpa [bfAt] using List.all_eq_true.1 h4 m hm
  · cases hq : rs[k']? with
    | none =>
      have : Rr rs k' = DR.none.r := by simp [Rr, List.getD, hq]
      simp only [Nk, Mk, this, DR.none]
      exact ⟨fun n hn => (by cases hn), fun n hn => (by cases hn), fun p hp => (by cases hp)⟩
    | some d =>
      have h3 := chkA_at k k' d hq i hi (by rw [Nat.zero_add]; exact hu)
      rw [Nat.zero_add] at h3
      have : Rr rs k' = d.r := by simp [Rr, List.getD, hq]
      simp only [Nk, Mk, this]
      exact h3

section
variable {P : Program} {G : TypeId → Option Ty} {T : Tab} {R0 : Rz} {w0 : World} {σ0 : St} {ops : List Oper} {bf dn dc : List (List Nat)} {rs : List DR} {E : Nat → Prop} {R : Rz} {a : Act} {w : World}
theorem Nk_out {k : Nat} (h : rs.length ≤ k) : Nk rs k = [] ∧ Mk rs k = [] ∧ (Rr rs k).news = [] := by
  have : Rr rs k = DR.none.r := by simp [Rr, List.getD, List.getElem?_eq_none h]
  simp [Nk, Mk, this, DR.none]
theorem unord_symm {i k : Nat} (h : unord bf i k = true) : unord bf k i = true := by
  simp only [unord, Bool.and_eq_true, bne_iff_ne, ne_eq, Bool.not_eq_true', List.contains_iff_mem, ← Bool.not_eq_true] at h ⊢
  exact ⟨⟨fun e => h.1.1 e.symm, h.2⟩, h.1.2⟩
theorem unord_mk {i k : Nat} (h1 : k ≠ i) (h2 : k ∉ bfAt bf i) (h3 : i ∉ bfAt bf k) : unord bf i k = true := by
  simp only [unord, Bool.and_eq_true, bne_iff_ne, ne_eq, Bool.not_eq_true', ← Bool.not_eq_true, List.contains_iff_mem]
  exact ⟨⟨fun e => h1 e.symm, h2⟩, h3⟩
theorem Chk.lt (h : Chk ops bf dn dc rs) {i j : Nat} (hj : j ∈ bfAt bf i) : j < i := by
  cases ho : ops[i]? with
  | none => rw [h.out i ho] at hj; cases hj
  | some o => exact (h.bef i o ho j hj).1
/-- What operation k writes is among what a later one must not look at, or comes before it. -/
theorem Chk.cover (h : Chk ops bf dn dc rs) (hl : rs.length = ops.length) (hlt : ∀ k, E k → k < ops.length) {i j : Nat} (hi : i < ops.length) (hj : j < ops.length) (hji : j < i) (hE : ∀ k, E k → k ≠ i ∧ i ∉ bfAt bf k) :
    ∀ k, E k → k ≠ j → k ∉ bfAt bf j → (∀ n ∈ Nk rs k, n ∈ dn.getD j [] ++ cat (Nk rs) (j + 1) i ++ dn.getD i []) ∧ (∀ n ∈ Mk rs k, n ∈ dn.getD j [] ++ cat (Mk rs) (j + 1) i ++ dn.getD i []) := by
  intro k hk hkj hkb
  have hkl := hlt k hk
  by_cases h1 : k ∈ bfAt bf i
  · have hki := h.lt h1
    by_cases h2 : j < k
    · exact ⟨fun n hn => List.mem_append_left _ (List.mem_append_right _ (mem_cat.2 ⟨k, h2, hki, hn⟩)), fun n hn => List.mem_append_left _ (List.mem_append_right _ (mem_cat.2 ⟨k, h2, hki, hn⟩))⟩
    · have hu : unord bf j k = true := unord_mk hkj hkb (fun hh => h2 (h.lt hh))
      have hd := h.dec j k hj hkl hu
      exact ⟨fun n hn => List.mem_append_left _ (List.mem_append_left _ (h.down j k hj hkl hu n (hd.1 n hn))), fun n hn => List.mem_append_left _ (List.mem_append_left _ (h.down j k hj hkl hu n (hd.2.1 n hn)))⟩
  · have hu : unord bf i k = true := unord_mk (hE k hk).1 h1 (hE k hk).2
    have hd := h.dec i k hi hkl hu
    exact ⟨fun n hn => List.mem_append_right _ (h.down i k hi hkl hu n (hd.1 n hn)), fun n hn => List.mem_append_right _ (h.down i k hi hkl hu n (hd.2.1 n hn))⟩
theorem Chk.cover0 (h : Chk ops bf dn dc rs) (hlt : ∀ k, E k → k < ops.length) {i : Nat} (hi : i < ops.length) (hE : ∀ k, E k → k ≠ i ∧ i ∉ bfAt bf k) :
    ∀ k, E k → (∀ n ∈ Nk rs k, n ∈ cat (Nk rs) 0 i ++ dn.getD i []) ∧ (∀ n ∈ Mk rs k, n ∈ cat (Mk rs) 0 i ++ dn.getD i []) := by
  intro k hk
  have hkl := hlt k hk
  by_cases h1 : k ∈ bfAt bf i
  · have hki := h.lt h1
    exact ⟨fun n hn => List.mem_append_left _ (mem_cat.2 ⟨k, Nat.zero_le _, hki, hn⟩), fun n hn => List.mem_append_left _ (mem_cat.2 ⟨k, Nat.zero_le _, hki, hn⟩)⟩
  · have hu : unord bf i k = true := unord_mk (hE k hk).1 h1 (hE k hk).2
    have hd := h.dec i k hi hkl hu
    exact ⟨fun n hn => List.mem_append_right _ (h.down i k hi hkl hu n (hd.1 n hn)), fun n hn => List.mem_append_right _ (h.down i k hi hkl hu n (hd.2.1 n hn))⟩
/-- A slot that operation i may look at. -/
theorem Inv.slot (h : Inv R0 w0 σ0 ops bf rs E R a w) (hc : Chk ops bf dn dc rs) (hl : rs.length = ops.length) (hlt : ∀ k, E k → k < ops.length) {i : Nat} (hi : i < ops.length) (hE : ∀ k, E k → k ≠ i ∧ i ∉ bfAt bf k) (hbf : ∀ j ∈ bfAt bf i, E j)
    {t : Nat} (ht : ∀ j, dstOf ops j = some t → j = i ∨ j ∈ bfAt bf i ∨ i ∈ bfAt bf j) : VR R w (((sT σ0 ops dn rs i).get t).kill (dn.getD i []) (dn.getD i [])) (a.tmps.getD t undef) := by
  by_cases htl : t < σ0.tm.length
  · by_cases hj : ∃ j, j ∈ bfAt bf i ∧ dstOf ops j = some t
    · obtain ⟨j, hj, hd⟩ := hj
      have hji := hc.lt hj
      rw [sT_new hd htl (fun k hk => hc.dist k j t hk hd) i hji, AV.kill_kill]
      exact h.s1 j t (hbf j hj) hd htl _ _ (hc.cover hl hlt hi (by omega) hji hE)
    · have hold : ∀ j, j < i → dstOf ops j ≠ some t := fun j hji hd => by
        rcases ht j hd with h1 | h1 | h1
        · omega
        · exact hj ⟨j, h1, hd⟩
        · have := hc.lt h1; omega
      rw [sT_old i hold, AV.kill_kill]
      refine h.s0 t (fun j hEj hd => ?_) _ _ (hc.cover0 hlt hi hE)
      rcases ht j hd with h1 | h1 | h1
      · exact (hE j hEj).1 h1
      · exact hj ⟨j, h1, hd⟩
      · exact (hE j hEj).2 h1
  · have e : (sT σ0 ops dn rs i).get t = .c .bot := by
      unfold St.get
      rw [List.getElem?_eq_none (by rw [sT_length]; omega)]; rfl
    rw [e, bot_kill]
    simp [VR, VRc]
/-- The state over which operation i is reckoned holds when its turn comes. -/
theorem Inv.before (h : Inv R0 w0 σ0 ops bf rs E R a w) (hc : Chk ops bf dn dc rs) (hl : rs.length = ops.length) (hlt : ∀ k, E k → k < ops.length) {i : Nat} {o : Oper} (ho : ops[i]? = some o) (hE : ∀ k, E k → k ≠ i ∧ i ∉ bfAt bf k) (hbf : ∀ j ∈ bfAt bf i, E j) :
    Sim R0 w0 R (sB (sT σ0 ops dn rs i) (opSlots o) (dn.getD i [])) a w := by
  have hi := (List.getElem?_eq_some_iff.1 ho).1
  refine h.sim (by simp [sB, killL_length, keepAt_length, sT_length]) (fun t => ?_) (fun p hp => ?_)
  · unfold sB St.get
    simp only [killL_get, keepAt_get, Nat.zero_add]
    split
    · rename_i hm
      exact h.slot hc hl hlt hi hE hbf (hc.slot i o ho t (by simpa using hm))
    · rw [bot_kill]; simp [VR, VRc]
  · obtain ⟨q, h1, h2, h3, h4, h5⟩ := mem_kill hp
    rw [h2]
    rcases sT_ob i h1 with ⟨q', k1, k2, k3, k4, k5⟩ | ⟨j, hj, q', k1, k2, k3, k4, k5⟩
    · rw [← k2]
      exact h.o0 q' k1 _ _ _ (hc.cover0 hlt hi hE) (by rw [List.mem_append, k2]; exact fun hh => hh.elim (fun hh => k3 (k2 ▸ hh)) h3) (by rw [List.mem_append, k2]; exact fun hh => hh.elim (fun hh => k4 (k2 ▸ hh)) h4) (Ob.kill_kill k5 h5)
    · rw [← k2]
      by_cases hb : j ∈ bfAt bf i
      · exact h.o1 j (hbf j hb) q' k1 _ _ _ (hc.cover hl hlt hi (by omega) hj hE) (by rw [List.mem_append, k2]; exact fun hh => hh.elim (fun hh => k3 (k2 ▸ hh)) h3) (by rw [List.mem_append, k2]; exact fun hh => hh.elim (fun hh => k4 (k2 ▸ hh)) h4) (Ob.kill_kill k5 h5)
      · have hu : unord bf i j = true := unord_mk (by omega) hb (fun hh => absurd (hc.lt hh) (by omega))
        have hd := (hc.dec i j hi (by omega) hu).2.2 q' k1
        exact absurd (hc.down i j hi (by omega) hu _ hd) (by rw [k2]; exact h3)
/-- When all have been done, the text's last state holds. -/
theorem Inv.fin (h : Inv R0 w0 σ0 ops bf rs E R a w) (hc : Chk ops bf dn dc rs) (hl : rs.length = ops.length) (hall : ∀ k, k < ops.length → E k) (hlt : ∀ k, E k → k < ops.length) : Sim R0 w0 R (sT σ0 ops dn rs ops.length) a w := by
  have cov : ∀ j, j < ops.length → ∀ k, E k → k ≠ j → k ∉ bfAt bf j → (∀ n ∈ Nk rs k, n ∈ dn.getD j [] ++ cat (Nk rs) (j + 1) ops.length) ∧ (∀ n ∈ Mk rs k, n ∈ dn.getD j [] ++ cat (Mk rs) (j + 1) ops.length) := fun j hj k hk hkj hkb => by
    have hkl := hlt k hk
    by_cases h2 : j < k
    · exact ⟨fun n hn => List.mem_append_right _ (mem_cat.2 ⟨k, h2, hkl, hn⟩), fun n hn => List.mem_append_right _ (mem_cat.2 ⟨k, h2, hkl, hn⟩)⟩
    · have hu : unord bf j k = true := unord_mk hkj hkb (fun hh => h2 (hc.lt hh))
      have hd := hc.dec j k hj hkl hu
      exact ⟨fun n hn => List.mem_append_left _ (hc.down j k hj hkl hu n (hd.1 n hn)), fun n hn => List.mem_append_left _ (hc.down j k hj hkl hu n (hd.2.1 n hn))⟩
  have cov0 : ∀ k, E k → (∀ n ∈ Nk rs k, n ∈ cat (Nk rs) 0 ops.length) ∧ (∀ n ∈ Mk rs k, n ∈ cat (Mk rs) 0 ops.length) := fun k hk =>
    ⟨fun n hn => mem_cat.2 ⟨k, Nat.zero_le _, hlt k hk, hn⟩, fun n hn => mem_cat.2 ⟨k, Nat.zero_le _, hlt k hk, hn⟩⟩
  refine h.sim (sT_length _) (fun t => ?_) (fun p hp => ?_)
  · by_cases htl : t < σ0.tm.length
    · by_cases hj : ∃ j, dstOf ops j = some t
      · obtain ⟨j, hd⟩ := hj
        have hjl : j < ops.length := by
          cases hq : ops[j]? with
          | none => simp [dstOf, hq] at hd
          | some o => exact (List.getElem?_eq_some_iff.1 hq).1
        rw [sT_new hd htl (fun k hk => hc.dist k j t hk hd) _ hjl]
        exact h.s1 j t (hall j hjl) hd htl _ _ (cov j hjl)
      · rw [sT_old _ (fun j _ hd => hj ⟨j, hd⟩)]
        exact h.s0 t (fun j _ hd => hj ⟨j, hd⟩) _ _ cov0
    · have e : (sT σ0 ops dn rs ops.length).get t = .c .bot := by
        unfold St.get
        rw [List.getElem?_eq_none (by rw [sT_length]; omega)]; rfl
      rw [e]; simp [VR, VRc]
  · rcases sT_ob _ hp with ⟨q', k1, k2, k3, k4, k5⟩ | ⟨j, hj, q', k1, k2, k3, k4, k5⟩
    · rw [← k2]; exact h.o0 q' k1 _ _ _ cov0 k3 k4 k5
    · rw [← k2]; exact h.o1 j (hall j hj) q' k1 _ _ _ (cov j hj) k3 k4 k5
/-- In every order: when all operations have come up, the text's last state holds. -/
theorem drawn_any (hT : TabOk P T) {opsA : Array Oper} (hops : opsA.toList = ops) {Q : Exit → Act → World → Prop} (hc : Chk ops bf dn dc rs) (hl : rs.length = ops.length) (htr : ∀ k o, ops[k]? = some o → TrAt P G T dn ops σ0 rs k o)
    (hQ : ∀ R a w, Sim R0 w0 R (sT σ0 ops dn rs ops.length) a w → Q .normal a w) : ∀ (fuel : Nat) (listed : Array Bool) (R : Rz) (a : Act) (w : World), listed.size = ops.length → ((List.range ops.length).filter fun i => !listed.getD i true).length = fuel →
    (∀ k, listed.getD k false = true → ∀ j ∈ bfAt bf k, listed.getD j false = true) → Inv R0 w0 σ0 ops bf rs (fun k => listed.getD k false = true) R a w → wpAny P .any opsA Q fuel listed a w := by
  have lt_of : ∀ (listed : Array Bool), listed.size = ops.length → ∀ k, listed.getD k false = true → k < ops.length := fun listed hs k hk => by
    rcases Nat.lt_or_ge k listed.size with h | h
    · omega
    · simp [Array.getElem?_eq_none h] at hk
  have get2 : ∀ (listed : Array Bool), listed.size = ops.length → ∀ k, k < ops.length → listed.getD k true = listed.getD k false := fun listed hs k hk => by
    simp [show k < listed.size by omega]
  have opsAt : ∀ k : Nat, opsA[k]? = ops[k]? := fun k => by rw [← hops, Array.getElem?_toList]
  have hsz : opsA.size = ops.length := by rw [← hops]; simp
  have none_ready : ∀ (listed : Array Bool), listed.size = ops.length → Region.ready .any opsA listed = [] → ∀ k, k < ops.length → listed.getD k false = true := by
    intro listed hs hr k
    induction k using Nat.strongRecOn with
    | _ k ih =>
      intro hk
      cases hg : listed.getD k false with
      | true => rfl
      | false =>
        exfalso
        have ho : ops[k]? = some ops[k] := List.getElem?_eq_getElem hk
        have : k ∈ Region.ready .any opsA listed := mem_ready.2 ⟨by rw [get2 listed hs k hk]; exact hg, ops[k], by rw [opsAt]; exact ho, fun e he hb => ih e.on (hc.edge k _ ho e he hb) (by have := hc.edge k _ ho e he hb; omega)⟩
        rw [hr] at this
        cases this
  intro fuel
  induction fuel with
  | zero =>
    intro listed R a w hs hf hdown hinv
    have hall : ∀ k, k < ops.length → listed.getD k false = true := fun k hk => by
      have h1 := List.eq_nil_of_length_eq_zero hf
      cases hg : listed.getD k false with
      | true => rfl
      | false =>
        have : k ∈ (List.range ops.length).filter fun i => !listed.getD i true := List.mem_filter.2 ⟨List.mem_range.2 hk, by rw [get2 listed hs k hk, hg]; rfl⟩
        rw [h1] at this; cases this
    refine ⟨?_, hQ R a w (hinv.fin hc hl hall (lt_of listed hs))⟩
    apply List.eq_nil_iff_forall_not_mem.2
    intro k hk
    obtain ⟨h1, o, h2, _⟩ := mem_ready.1 hk
    rw [opsAt] at h2
    have hkl := (List.getElem?_eq_some_iff.1 h2).1
    rw [get2 listed hs k hkl, hall k hkl] at h1
    cases h1
  | succ fuel ih =>
    intro listed R a w hs hf hdown hinv
    refine ⟨fun hr => hQ R a w (hinv.fin hc hl (none_ready listed hs hr) (lt_of listed hs)), fun i hi => ?_⟩
    obtain ⟨hun, o, ho', hed⟩ := mem_ready.1 hi
    have ho : ops[i]? = some o := by rw [← opsAt]; exact ho'
    have hil := (List.getElem?_eq_some_iff.1 ho).1
    have hnE : ¬ listed.getD i false = true := by rw [← get2 listed hs i hil, hun]; simp
    have hbf : ∀ j ∈ bfAt bf i, listed.getD j false = true := fun j hj => by
      obtain ⟨_, e, he, hb, hh⟩ := hc.bef i o ho j hj
      rcases hh with rfl | hh
      · exact hed e he hb
      · exact hdown e.on (hed e he hb) j hh
    have hE : ∀ k, listed.getD k false = true → k ≠ i ∧ i ∉ bfAt bf k := fun k hk => ⟨fun e => hnE (e ▸ hk), fun hh => hnE (hdown k hk i hh)⟩
    have hlt := lt_of listed hs
    have set_get : ∀ k, (listed.setIfInBounds i true).getD k false = true ↔ k = i ∨ listed.getD k false = true := fun k => by
      by_cases e : i = k
      · subst e; simp [show i < listed.size by omega]
      · rw [getD_set_ne false e]
        constructor
        · exact .inr
        · rintro (h | h)
          · exact absurd h.symm e
          · exact h
    have next : ∀ (R' : Rz) (v : Value) (w' : World), Done R w (Nk rs i) (Mk rs i) (Rr rs i).r (Rr rs i).news R' v w' → wpAny P .any opsA Q fuel (listed.setIfInBounds i true) (a.put o.dst v) w' := fun R' v w' hd => by
      refine ih _ R' _ w' (by simpa using hs) ?_ (fun k hk j hj => ?_) ?_
      · have h1 : ((List.range ops.length).filter fun j => !(listed.setIfInBounds i true).getD j true) = ((List.range ops.length).filter fun j => !listed.getD j true).filter (fun j => j != i) := by
          rw [List.filter_filter]
          apply List.filter_congr
          intro j hj
          have hj := List.mem_range.1 hj
          by_cases e : i = j
          · subst e; simp [show i < listed.size by omega]
          · rw [getD_set_ne true e]
            have : (j != i) = true := by simpa using fun h => e h.symm
            rw [this, Bool.true_and]
        rw [h1]
        have hmem : i ∈ (List.range ops.length).filter fun j => !listed.getD j true := List.mem_filter.2 ⟨List.mem_range.2 hil, by rw [hun]; rfl⟩
        have hnd : ((List.range ops.length).filter fun j => !listed.getD j true).Nodup := List.Pairwise.filter _ List.nodup_range
        have h2 : ∀ (l : List Nat), l.Nodup → i ∈ l → (l.filter (fun j => j != i)).length + 1 = l.length := by
          intro l
          induction l with
          | nil => intro _ h; cases h
          | cons x l ihl =>
            intro hn hm
            simp only [List.nodup_cons] at hn
            rcases List.mem_cons.1 hm with rfl | hm
            · have : l.filter (fun j => j != i) = l := List.filter_eq_self.2 fun j hj => by simp only [bne_iff_ne, ne_eq]; rintro rfl; exact hn.1 hj
              simp [this]
            · have hx : x ≠ i := fun e => hn.1 (e ▸ hm)
              simp [hx, ihl hn.2 hm]
        have := h2 _ hnd hmem
        omega
      · rw [set_get] at hk ⊢
        rcases hk with rfl | hk
        · exact .inr (hbf j hj)
        · exact .inr (hdown k hk j hj)
      · have := hinv.step ho hc.dist hnE (fun j hj => (hE j hj).2) hd
        have e : (fun k => (listed.setIfInBounds i true).getD k false = true) = fun k => k = i ∨ listed.getD k false = true := funext fun k => propext (set_get k)
        rw [e]; exact this
    have guard_val : ∀ j want b d, o.guard = some (j, want) → gval (sT σ0 ops dn rs i) ops j = some (d, b) → yielded opsA a.tmps j = some b := fun j want b d hg hv => by
      obtain ⟨oj, e1, e2, e3⟩ := gval_get hv
      have hjb := hc.grd i o j want ho hg
      have hd : dstOf ops j = some d := by simp [dstOf, e1, e2]
      have h1 := hinv.slot hc hl hlt hil hE hbf (t := d) (fun j' hj' => .inr (.inl (by rw [hc.dist j' j d hj' hd]; exact hjb)))
      rw [e3] at h1
      have h2 : a.tmps.getD d undef = .bool b := by
        simpa [AV.kill, CV.kill, CV.hit, CV.srcs, CV.ids, VR, VRc] using h1
      have h3 : a.tmps[d]? = some (.bool b) := by
        rw [Array.getD_eq_getD_getElem?] at h2
        cases hq : a.tmps[d]? with
        | none => rw [hq] at h2; cases h2
        | some v => rw [hq] at h2; simp at h2; rw [h2]
      have e4 : opsA[j]? = some oj := by rw [opsAt]; exact e1
      simp [yielded, e4, e2, h3]
    have guard_none : ∀ j want, o.guard = some (j, want) → gnone (sT σ0 ops dn rs i) ops j = true → yielded opsA a.tmps j = none := fun j want hg hv => by
      obtain ⟨oj, d, x, e1, e2, e3⟩ := gnone_get hv
      have hjb := hc.grd i o j want ho hg
      have hd : dstOf ops j = some d := by simp [dstOf, e1, e2]
      have h1 := hinv.slot hc hl hlt hil hE hbf (t := d) (fun j' hj' => .inr (.inl (by rw [hc.dist j' j d hj' hd]; exact hjb)))
      rw [e3] at h1
      have h2 : a.tmps.getD d undef = .tuple x := by
        simpa [AV.kill, CV.kill, CV.hit, CV.srcs, CV.ids, VR, VRc] using h1
      exact yielded_none (by rw [opsAt]; exact e1) e2 h2
    unfold wpOp
    rw [ho']
    simp only
    rcases htr i o ho with ⟨hg, hop, hcond⟩ | ⟨⟨j, want, hg, hv⟩, hr⟩
    · have hw : Region.wanted o (yielded opsA a.tmps) = true := by
        rcases hg with hg | ⟨j, want, d, hg, hv⟩
        · simp [Region.wanted, hg]
        · simp [Region.wanted, hg, guard_val j want want d hg hv]
      rw [if_pos hw]
      exact .inl (aop_ok hT hop hcond (hinv.before hc hl hlt ho hE hbf) next)
    · have hw : Region.wanted o (yielded opsA a.tmps) = false := by
        rcases hv with ⟨d, hv⟩ | hv
        · simp only [Region.wanted, hg, guard_val j want (!want) d hg hv]
          cases want <;> rfl
        · simp only [Region.wanted, hg, guard_none j want hg hv]
          cases want <;> rfl
      rw [if_neg (by rw [hw]; simp)]
      refine next R undef w ?_
      have e1 : Nk rs i = [] ∧ Mk rs i = [] ∧ (Rr rs i).r = .c (.sc (.tuple #[])) ∧ (Rr rs i).news = [] := by simp [Nk, Mk, hr, DR.none]
      rw [e1.1, e1.2.1, e1.2.2.1, e1.2.2.2]
      exact ⟨FR.refl _ _ _ _, by simp, by simp [VR, VRc, undef], fun p hp => by cases hp⟩
end

theorem chkS_len {ops : List Oper} {bf : List (List Nat)} (h : decide (bf.length ≤ ops.length) = true) : bf.length ≤ ops.length := by simpa using h
/-- A region whose order is drawn. -/
theorem AWP_draw {P : Program} {σ : St} {Q : Exit → St → Prop} {id : Nat} {ops : Array Oper} {G : TypeId → Option Ty} {T : Tab} (hT : TabOk P T) (hm : P.follows .mixedOrders = true) (bf dn dc : List (List Nat)) (hS : chkS ops.toList bf dn dc = true) (hb : decide (bf.length ≤ ops.toList.length) = true)
    (h : adraw P G T dn ops.toList ops.toList 0 σ [] (fun σ' rs => chkA ops.toList.length bf dc 0 rs = true ∧ Q .normal σ')) : AWP P (.region id ops true) σ Q := fun R0 w0 R a w hs => by
  obtain ⟨rs, σ', h1, h2, h3⟩ := adraw_tr ops.toList 0 σ [] h
  simp only [List.nil_append] at h2
  obtain ⟨k1, k2, k3⟩ := DTr_at h1 [] [] rfl rfl rfl rfl
  simp only [List.nil_append, Nat.zero_add] at k2 k3
  refine wp_region_any hm ?_
  have hc := chk_of hS (chkS_len hb) h2
  have hs' : Sim R0 w0 R σ a { w with drawn := w.drawn + 1 } := by
    have := hs
    exact ⟨this.size, (show VRt R _ σ.tm a.tmps.toList from by
      have f : FR [] [] R w R { w with drawn := w.drawn + 1 } := ⟨rfl, rfl, rfl, Nat.le_refl _, fun _ _ _ => ⟨rfl, rfl⟩, fun _ _ => ⟨rfl, rfl⟩, fun _ _ => ⟨rfl, rfl⟩⟩
      have := VRt.kill hs.tm f (by simp)
      rwa [AV.killL_nil] at this), fun p hp => by
      have f : FR [] [] R w R { w with drawn := w.drawn + 1 } := ⟨rfl, rfl, rfl, Nat.le_refl _, fun _ _ _ => ⟨rfl, rfl⟩, fun _ _ => ⟨rfl, rfl⟩, fun _ _ => ⟨rfl, rfl⟩⟩
      refine OR.kill (hs.ob p hp) f (by simp) (by simp) (by simp) ?_
      cases p.2 with
      | box l => simp only [Ob.kill]; congr 2; exact (List.map_congr_left fun c _ => CV.kill_nil c).trans (List.map_id _)
      | row e t xs S => simp [Ob.kill]
      | tree e t xs h' => simp [Ob.kill], hs.os, hs.tape, hs.output, hs.grow, hs.keep, hs.pl, hs.defers⟩
  have hfalse : (fun k => (Array.replicate ops.size false).getD k false = true) = fun _ => False := by
    funext k
    apply propext
    simp only [iff_false, Bool.not_eq_true]
    rcases Nat.lt_or_ge k ops.size with h | h <;> simp [h]
  refine drawn_any (R0 := R0) (w0 := w0) hT rfl hc k1 (fun k o ho => k3 k o ho) (fun R' a' w' hs2 => ⟨R', σ', by rw [k2]; exact hs2, h3⟩) ops.size _ R a _ (by simp) ?_ (fun k hk => ?_) ?_
  · rw [List.filter_eq_self.2 (fun j hj => by
      have : j < ops.size := by simpa using List.mem_range.1 hj
      simp [this])]
    simp
  · have := congrFun hfalse k
    rw [this] at hk
    exact hk.elim
  · rw [hfalse]; exact Inv.start hs'
end Go.Proofs.Ythglggjgjlmhlaa
