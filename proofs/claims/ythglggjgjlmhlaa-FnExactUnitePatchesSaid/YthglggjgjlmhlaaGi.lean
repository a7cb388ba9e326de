/-
  The logic of trees, ninth part: stores and append.
-/
import Derived.Test.YthglggjgjlmhlaaGga
namespace Go.Proofs.Ythglggjgjlmhlaa
open Go.RowKit
set_option linter.unusedSimpArgs false
set_option linter.unusedVariables false

def aStore (P : Program) (σ : St) (t : TypeId) (p x : Operand) : Option Res :=
  match σ.ev p, cellsA (σ.ev x) with
  | .c (.po n k), some cs => match σ.look n with
    | some (.box l) => if szOf P t = some cs.length ∧ k + cs.length ≤ l.length ∧ cs.all (cvOne σ) ∧ 5 < n then
        some ⟨True, .c .bot, [n], [], [(n, .box ((splice l k cs).map (CV.kill [n] [])))]⟩ else none
    | _ => none
  | .c (.pe n i wd k), some cs => match σ.look n with
    | some (.row e t' xs S) => if szOf P t = some cs.length ∧ wd = t'.w ∧ k + cs.length ≤ t'.w ∧ cs.all (cvOne σ) ∧ 5 < n then
        match rds σ t' (splice (cellsOf S t' (xs.getD i t'.dflt)) k cs) with
        | some (y, S') => match t'.flat with
          | true => some ⟨i < xs.length, .c .bot, [n], [], [(n, .row e t' (xs.set i y) [])]⟩
          | false => if (uni S S').contains n then none else some ⟨i < xs.length, .c .bot, [n], [], [(n, .row e t' (xs.set i y) (uni S S'))]⟩
        | none => none
      else none
    | some (.tree e t' xs h) => if szOf P t = some cs.length ∧ wd = t'.w ∧ k + cs.length ≤ t'.w ∧ cs.all (cvOne σ) ∧ 5 < n then
        match h with
        | none => match elT σ (some (n, i, wd)) 0 t' (splice (cellsTr n i wd 0 t' (xs.getD i t'.dflt)) k cs) with
          | some (y, ms) => if ms.Nodup ∧ ¬ ms.contains n ∧ ms.all (fun m => 5 < m) then some ⟨i < xs.length, .c .bot, n :: ms, ms, [(n, .tree e t' (xs.set i y) none)]⟩ else none
          | none => none
        | some pq => if k = 0 ∧ cs.length = t'.w then match elT σ none 0 t' cs with
          | some (y, ms) => if ms.Nodup ∧ ¬ ms.contains n ∧ ms.all (fun m => 5 < m) then some ⟨i < xs.length ∧ pq.1 = i ∧ pq.2 = i + 1, .c .bot, n :: ms, ms, [(n, .tree e t' (xs.set i y) none)]⟩ else none
          | none => none else none
      else none
    | _ => none
  | .c (.pi n i wd o j t' x' k), some cs => match σ.look n with
    | some (.tree e T xs none) => if szOf P t = some cs.length ∧ wd = T.w ∧ o < T.w ∧ k + cs.length ≤ t'.w ∧ cs.all (cvOne σ) ∧ 5 < n ∧ t'.flat = true then
        match rds σ t' (splice (cellsOf [n] t' x') k cs) with
        | some (y, _) => match updRow T o t' (fun l => l.set j y) (xs.getD i T.dflt) with
          | some z => some ⟨i < xs.length, .c .bot, [n], [], [(n, .tree e T (xs.set i z) none)]⟩
          | none => none
        | none => none
      else none
    | _ => none
  | _, _ => none
section
variable {P : Program} {R0 R : Rz} {w0 w : World} {σ : St} {a : Act} {o : Oper} {K : Act → World → Prop} {Q : Exit → Act → World → Prop}
theorem wp_of_skip {w' : World} {R' : Rz} {r : Res} (hs : Sim R0 w0 R σ a w) (hrun : (execOp a.eval o).run P w = .ok .skip w')
    (hf : FR r.N r.M R w R' w') (h0 : ∀ n ∈ r.N, 5 < n) (hr : r.r = .c .bot) (hn : obsOk R' w' r.news)
    (hK : ∀ R' v w', Done R w r.N r.M r.r r.news R' v w' → K (a.put o.dst v) w') : o.wp P a w K Q := by
  unfold Oper.wp
  rw [hrun]
  exact hK _ _ _ ⟨hf, h0, by rw [hr]; simp [VR, VRc], hn⟩
theorem fr_setRow {n : Nat} {cs : Array Value} (h : R.root (R.bk n) = n) : FR [n] [] R w R (w.setRow (R.bk n) cs) := by
  refine ⟨rfl, rfl, rfl, by simp, fun b hb hr => ⟨setRow_other w _ b cs ?_, rfl⟩, fun m _ => ⟨rfl, rfl⟩, fun m _ => ⟨rfl, rfl⟩⟩
  intro e
  subst e
  exact hr (by rw [h]; simp)
theorem store_run {t : TypeId} {x : Operand} {p : Operand} {g k : Nat} {cur : Array Value} {T : TypeId} (ho : o.op = .store t p x) (hp : a.eval p = .pointer (some ⟨g, k, none⟩)) (hg : w.heap[g]? = some (.cells cur T (0, 0)))
    (hsz : szOf P t = some (a.eval x).cells.size) (hl : k + (a.eval x).cells.size ≤ cur.size) (h1 : ∀ v ∈ (a.eval x).cells.toList, v.oneCell' = true) :
    (execOp a.eval o).run P w = .ok .skip (w.setRow g (splice cur.toList k (a.eval x).cells.toList).toArray) := by
  obtain ⟨i, e1, e2⟩ := szOf_info hsz
  have h2 := run_storeCells_at P g k T (a.eval x).cells.toList 0 cur w hg (by simpa using hl) h1
  simp only [Nat.add_zero] at h2
  unfold execOp
  simp only [ho, hp, Instr.storeAt, Instr.sureAddr, storeVar, Sem.run_bind, Sem.run_pure, Result.andThen_ok, sizeOf, typeInfo, run_program, e1, e2]
  simp only [ne_eq, not_true_eq_false, if_false, h2, Result.andThen_ok, splice]
theorem splice_slice (L us : List Value) (i j k w' : Nat) (hk : k + us.length ≤ w') (hL : i * w' + w' ≤ L.length) :
    ((splice L (i * w' + k) us).drop (j * w')).take w' = if j = i then splice ((L.drop (i * w')).take w') k us else (L.drop (j * w')).take w' := by
  apply List.ext_getElem?
  intro q
  by_cases hj : j = i
  · subst hj
    rw [if_pos rfl]
    by_cases hq : q < w'
    · rw [drop_take_get hq, splice_get _ _ _ (by omega), splice_get _ _ _ (by simp; omega), drop_take_get hq]
      by_cases h1 : k ≤ q ∧ q < k + us.length
      · rw [if_pos (by omega), if_pos h1]; congr 1; omega
      · rw [if_neg (by omega), if_neg h1]
    · rw [List.getElem?_eq_none (by simp; omega), List.getElem?_eq_none (by rw [splice_length _ _ _ (by simp; omega)]; simp; omega)]
  · rw [if_neg hj]
    by_cases hq : q < w'
    · rw [drop_take_get hq, drop_take_get hq, splice_get _ _ _ (by omega), if_neg]
      rintro ⟨h1, h2⟩
      rcases Nat.lt_or_gt_of_ne hj with h3 | h3
      · have := Nat.mul_le_mul_right w' h3
        rw [Nat.succ_mul] at this; omega
      · have := Nat.mul_le_mul_right w' h3
        rw [Nat.succ_mul] at this; omega
    · rw [List.getElem?_eq_none (by simp; omega), List.getElem?_eq_none (by simp; omega)]
theorem aStore_ok {t : TypeId} {p x : Operand} {r : Res} (ho : o.op = .store t p x) (h : aStore P σ t p x = some r) (hc : r.c) (hs : Sim R0 w0 R σ a w)
    (hK : ∀ R' v w', Done R w r.N r.M r.r r.news R' v w' → K (a.put o.dst v) w') : o.wp P a w K Q := by
  have h1 := hs.ev p
  have h2 := hs.ev x
  unfold aStore at h
  split at h
  · rename_i n k cs e1 e2
    rw [e1] at h1
    simp only [VR, VRc] at h1
    split at h
    case h_2 => cases h
    rename_i l e3
    split at h
    case isFalse => cases h
    rename_i hcond
    obtain ⟨c1, c2, c3, c4⟩ := hcond
    cases h
    obtain ⟨us, T, h3, h4, h5⟩ := hs.look e3
    obtain ⟨h6, h7⟩ := cellsA_ok hs h2 e2 c3
    have hl6 := h6.length
    have hl5 := h5.length
    simp only [Array.length_toList] at hl6 hl5
    have hf := fr_setRow (w := w) (cs := (splice us.toList k (a.eval x).cells.toList).toArray) h4
    have h0 : (0 : Nat) ∉ [n] := by simp; omega
    refine wp_of_skip hs (store_run ho h1 h3 (by rw [c1, hl6]) (by omega) h7) hf (by simpa using c4) rfl ?_ hK
    intro q hq
    simp only [List.mem_singleton] at hq
    subst hq
    exact ⟨_, T, setRow_heap w _ us _ T _ h3, h4, (h5.splice k h6).kill hf h0⟩
  · rename_i n i wd k cs e1 e2
    rw [e1] at h1
    simp only [VR, VRc] at h1
    obtain ⟨R1, hR1⟩ : ∃ R1 : List Nat → Rz, R1 = fun ms => { R with root := fun b => if R.root b ∈ ms then n else R.root b } := ⟨_, rfl⟩
    have frT : ∀ (ms : List Nat) (cs : Array Value), R.root (R.bk n) = n → FR (n :: ms) ms R w (R1 ms) (w.setRow (R.bk n) cs) := fun ms cs hr => by
      subst hR1
      refine ⟨rfl, rfl, rfl, by simp, fun b hb hr' => ?_, fun m _ => ⟨rfl, rfl⟩, fun m _ => ⟨rfl, rfl⟩⟩
      simp only [List.mem_cons, not_or] at hr'
      exact ⟨setRow_other w _ b cs (by rintro rfl; exact hr'.1 hr), by simp [hr'.2]⟩
    split at h
    · rename_i e t' xs S e3
      split at h
      case isFalse => cases h
      rename_i hcond
      obtain ⟨c1, rfl, c3, c4, c5⟩ := hcond
      split at h
      case h_2 => cases h
      rename_i y S' e4
      have core : ∀ (S1 : List Nat), (∀ us z, Rd (okS R (uni S S')) w t' us z → Rd (okS R S1) w t' us z) → n ∉ S1 → r = ⟨i < xs.length, .c .bot, [n], [], [(n, .row e t' (xs.set i y) S1)]⟩ → o.wp P a w K Q := by
        intro S1 hS1 hnS1 hr
        subst hr
        have hc : i < xs.length := hc
        obtain ⟨h6, h7⟩ := cellsA_ok hs h2 e2 c4
        have hl6 := h6.length
        simp only [Array.length_toList] at hl6
        rcases hs.look e3 with ⟨_, k2⟩ | ⟨cap, cur, k1, k2, k3, k4, k5, k6, k7⟩
        · subst k2; simp at hc
        have hle : i * t'.w + t'.w ≤ cur.size := by
          rw [k6, ← Nat.succ_mul]; exact Nat.mul_le_mul_right _ (by omega)
        have hf := fr_setRow (w := w) (cs := (splice cur.toList (i * t'.w + k) (a.eval x).cells.toList).toArray) k2
        have h0 : (0 : Nat) ∉ [n] := by simp; omega
        have e5 : xs.getD i t'.dflt = xs[i] := by simp [List.getD, hc]
        rw [e5] at e4
        have hnS : ∀ m ∈ S1, m ∉ [n] := fun m hm => by
          simp only [List.mem_singleton]
          intro e
          exact hnS1 (e ▸ hm)
        have hy : Rd (okS R S1) w t' (splice ((cur.toList.drop (i * t'.w)).take t'.w) k (a.eval x).cells.toList) y :=
          hS1 _ _ ((rds_ok hs t' (((k7 i hc).cells).splice k h6) e4).mono (okS.mono fun _ => uni_r))
        refine wp_of_skip hs (store_run ho h1 k3 (by rw [c1, hl6]) (by omega) h7) hf (by simpa using c5) rfl ?_ hK
        intro q hq
        simp only [List.mem_singleton] at hq
        subst hq
        refine .inr ⟨cap, _, by rw [List.length_set]; exact k1, k2, setRow_heap w _ cur _ e _ k3, by rw [List.length_set]; exact k4, k5, ?_, fun j hj => ?_⟩
        · rw [← Array.length_toList, splice_length _ _ _ (by simp; omega)]; simpa using k6
        · rw [List.length_set] at hj
          simp only []
          rw [splice_slice _ _ i j k t'.w (by simp; omega) (by simpa using hle)]
          by_cases hji : j = i
          · subst hji
            rw [if_pos rfl, List.getElem_set_self]
            exact hy.fr hf h0 hnS
          · rw [if_neg hji, List.getElem_set_ne (Ne.symm hji)]
            exact (hS1 _ _ ((k7 j hj).mono (okS.mono fun _ => uni_l))).fr hf h0 hnS
      split at h
      · rename_i hfl
        cases h
        exact core [] (fun us z hz => Rd.flat hfl hz) (by simp) rfl
      · split at h
        case isTrue => cases h
        rename_i c6
        cases h
        exact core (uni S S') (fun us z hz => hz) (by simpa using c6) rfl
    · rename_i e t' xs hh e3
      split at h
      case isFalse => cases h
      rename_i hcond
      obtain ⟨c1, rfl, c3, c4, c5⟩ := hcond
      obtain ⟨h6, h7⟩ := cellsA_ok hs h2 e2 c4
      have hl6 := h6.length
      simp only [Array.length_toList] at hl6
      have tw := t'.w_pos
      -- the element's new cells, read
      have core : ∀ {pos : Option (Nat × Nat × Nat)} {y : t'.den} {ms : List Nat} {l : List CV}, i < xs.length → (∀ j, j < xs.length → j ≠ i → ¬ inH hh j) → (pos = none ∨ pos = some (n, i, t'.w) ∧ ¬ inH hh i) →
          (∀ us, us.length = t'.w → (¬ inH hh i → VRs R w (cellsTr n i t'.w 0 t' (xs.getD i t'.dflt)) us) → VRs R w l (splice us k (a.eval x).cells.toList)) →
          elT σ pos 0 t' l = some (y, ms) → ms.Nodup → n ∉ ms → (∀ m ∈ ms, 5 < m) → r = ⟨r.c, .c .bot, n :: ms, ms, [(n, .tree e t' (xs.set i y) none)]⟩ → o.wp P a w K Q := by
        intro pos y ms l hc hoth hpos hl e4 d1 d2 d3 hr
        rcases hs.look e3 with ⟨_, k2⟩ | ⟨cap, cur, k1, k2, k3, k4, k5, k6, k7, k8⟩
        · subst k2; simp at hc
        have hle : i * t'.w + t'.w ≤ cur.size := by
          rw [k6, ← Nat.succ_mul]; exact Nat.mul_le_mul_right _ (by omega)
        have hlen : ((cur.toList.drop (i * t'.w)).take t'.w).length = t'.w := by simp; omega
        have e5 : xs.getD i t'.dflt = xs[i] := by simp [List.getD, hc]
        have hcell : ∀ j, j < t'.w → w.cell? ⟨R.bk n, i * t'.w + j, none⟩ = ((cur.toList.drop (i * t'.w)).take t'.w)[j]? := fun j hj => by
          rw [drop_take_get hj]
          simp [World.cell?, k3]
        have hV := hl _ hlen (fun hi => by rw [e5]; exact (k7 i hc hi).cells k2 (fun j hj => by rw [Nat.zero_add]; exact hcell j hj))
        have hf := frT ms (splice cur.toList (i * t'.w + k) (a.eval x).cells.toList).toArray k2
        have hposn : ∀ q i' wd, pos = some (q, i', wd) → q = n ∧ i' = i ∧ wd = t'.w ∧ ¬ inH hh i := fun q i' wd h => by
          rcases hpos with h' | ⟨h', h''⟩
          · rw [h'] at h; cases h
          · rw [h'] at h; cases h; exact ⟨rfl, rfl, rfl, h''⟩
        obtain ⟨src, inj⟩ := elT_src hs pos t' hV e4 d1 (fun q i' wd h => by rw [(hposn q i' wd h).1]; exact d2)
        -- each of the new element's slices has moved in, or was there
        have old : ∀ (c b l' q : Nat), c < t'.w → (splice ((cur.toList.drop (i * t'.w)).take t'.w) k (a.eval x).cells.toList)[c]? = some (.slice (some ⟨b, 0, none⟩) l' q) → R.root b ∈ ms ∨ R.root b = n ∧ ¬ inH hh i ∧ cur.toList[i * t'.w + c]? = some (.slice (some ⟨b, 0, none⟩) l' q) := fun c b l' q hcw hc' => by
          rcases src c b l' q hc' with h | ⟨n1, i1, wd1, h, h', h''⟩
          · exact .inl h
          · obtain ⟨rfl, rfl, rfl, h4⟩ := hposn _ _ _ h
            refine .inr ⟨h', h4, ?_⟩
            rw [Nat.zero_add, hcell c hcw, drop_take_get hcw, hc'] at h''
            exact h''
        have rt : ∀ b, R.root b = n → (R1 ms).root b = n := fun b hb => by subst hR1; simp [hb, d2]
        have hp : ∀ b, b ≠ R.bk n → (w.setRow (R.bk n) (splice cur.toList (i * t'.w + k) (a.eval x).cells.toList).toArray).heap[b]? = w.heap[b]? := fun b hb => setRow_other w _ b _ hb
        have olds : ∀ (c b l' q : Nat), c < xs.length * t'.w → ¬ inH hh (c / t'.w) → cur.toList[c]? = some (.slice (some ⟨b, 0, none⟩) l' q) → R.root b = n := fun c b l' q hc1 hc2 hc3 => by
          have h1 := k7 (c / t'.w) (by rw [Nat.div_lt_iff_lt_mul tw]; exact hc1) hc2
          have e : (c / t'.w) * t'.w + c % t'.w = c := by rw [Nat.mul_comm]; exact Nat.div_add_mod c t'.w
          exact (h1.root (c := c % t'.w) (l := l') (cap := q) (by rw [drop_take_get (Nat.mod_lt _ tw), e]; exact hc3)).1
        have hbkm : ∀ b, R.root b ∈ ms → b ≠ R.bk n := fun b hb => by rintro rfl; rw [k2] at hb; exact d2 hb
        have hEl : ElO (R1 ms) (w.setRow (R.bk n) (splice cur.toList (i * t'.w + k) (a.eval x).cells.toList).toArray) n t' (splice ((cur.toList.drop (i * t'.w)).take t'.w) k (a.eval x).cells.toList) y := by
          refine elT_ok hs ms (fun b hb _ => ⟨hp b (hbkm b hb), by subst hR1; simp [hb]⟩) t' hV e4 (fun m hm => hm) fun n1 i1 wd1 h c o1 e1 t1 xs1 b l' q hlc hus hr' hlt => ?_
          obtain ⟨rfl, rfl, rfl, h4⟩ := hposn _ _ _ h
          have hcw : c < t'.w := by
            have := (List.getElem?_eq_some_iff.1 hus).1
            rw [splice_length _ _ _ (by rw [hlen]; simp; omega), hlen] at this
            exact this
          rcases old c b l' q hcw hus with hm | ⟨_, _, ho⟩
          · exact absurd (hr' ▸ hm) d2
          · have hlt2 : i1 * t'.w + c < xs.length * t'.w := by
              have : (i1 + 1) * t'.w ≤ xs.length * t'.w := Nat.mul_le_mul_right _ hc
              rw [Nat.succ_mul] at this; omega
            exact ⟨hp b (k8 _ b l' q hlt2 (by rw [div_at' _ hcw]; exact h4) ho).1, rt b hr'⟩
        rw [hr] at hK
        refine wp_of_skip (r := ⟨r.c, .c .bot, n :: ms, ms, [(n, .tree e t' (xs.set i y) none)]⟩) hs (store_run ho h1 k3 (by rw [c1, hl6]) (by omega) h7) hf (fun m hm => ?_) rfl ?_ hK
        · rcases List.mem_cons.1 hm with rfl | hm
          · exact c5
          · exact d3 m hm
        intro q hq
        simp only [List.mem_singleton] at hq
        subst hq
        have hbk : (R1 ms).bk n = R.bk n := by subst hR1; rfl
        have hhd : (R1 ms).hd n = R.hd n := by subst hR1; rfl
        have gnew : ∀ c, (splice cur.toList (i * t'.w + k) (a.eval x).cells.toList)[c]? = if i * t'.w ≤ c ∧ c < i * t'.w + t'.w then (splice ((cur.toList.drop (i * t'.w)).take t'.w) k (a.eval x).cells.toList)[c - i * t'.w]? else cur.toList[c]? := fun c => by
          rw [splice_get _ _ _ (by simp; omega)]
          split
          · rename_i h
            rw [if_pos (by simp at h; omega), splice_get _ _ _ (by rw [hlen]; simp; omega), if_pos (by simp at h ⊢; omega)]
            congr 1; omega
          · rename_i h
            split
            · rename_i h'
              rw [splice_get _ _ _ (by rw [hlen]; simp; omega), if_neg (by simp at h ⊢; omega), drop_take_get (by omega)]
              congr 1; omega
            · rfl
        refine .inr ⟨cap, (splice cur.toList (i * t'.w + k) (a.eval x).cells.toList).toArray, by rw [List.length_set, hbk, hhd]; exact k1, by rw [hbk]; exact rt _ k2, by rw [hbk]; exact setRow_heap w _ cur _ e _ k3, by rw [List.length_set]; exact k4, k5, ?_, fun j hj _ => ?_, fun c b l' q hc1 _ hcell' => ?_⟩
        · rw [← Array.length_toList, splice_length _ _ _ (by simp; omega)]; simpa using k6
        · rw [List.length_set] at hj
          simp only []
          rw [splice_slice _ _ i j k t'.w (by simp; omega) (by simpa using hle)]
          by_cases hji : j = i
          · subst hji
            rw [if_pos rfl, List.getElem_set_self]
            exact hEl
          · rw [if_neg hji, List.getElem_set_ne (Ne.symm hji)]
            refine (k7 j hj (hoth j hj hji)).mv fun c b l' q hc2 hr' hlt => ⟨hp b ?_, rt b hr'⟩
            have hcw : c < t'.w := by have := (List.getElem?_eq_some_iff.1 hc2).1; simp at this; omega
            rw [drop_take_get hcw] at hc2
            have hlt2 : j * t'.w + c < xs.length * t'.w := by
              have : (j + 1) * t'.w ≤ xs.length * t'.w := Nat.mul_le_mul_right _ hj
              rw [Nat.succ_mul] at this; omega
            exact (k8 _ b l' q hlt2 (by rw [div_at' _ hcw]; exact hoth j hj hji) hc2).1
        · rw [List.length_set] at hc1 ⊢
          simp only [] at hcell' ⊢
          rw [hbk]
          have cls : ∀ (c l' q : Nat), c < xs.length * t'.w → (splice cur.toList (i * t'.w + k) (a.eval x).cells.toList)[c]? = some (.slice (some ⟨b, 0, none⟩) l' q) →
              (R.root b ∈ ms ∧ i * t'.w ≤ c ∧ c < i * t'.w + t'.w ∧ (splice ((cur.toList.drop (i * t'.w)).take t'.w) k (a.eval x).cells.toList)[c - i * t'.w]? = some (.slice (some ⟨b, 0, none⟩) l' q)) ∨
              (R.root b = n ∧ ¬ inH hh (c / t'.w) ∧ cur.toList[c]? = some (.slice (some ⟨b, 0, none⟩) l' q)) := fun c l' q hc1 hc2 => by
            rw [gnew c] at hc2
            split at hc2
            · rename_i h
              rcases old _ b l' q (by omega) hc2 with hm | ⟨h3, h4, h5⟩
              · exact .inl ⟨hm, h.1, h.2, hc2⟩
              · rw [(by omega : i * t'.w + (c - i * t'.w) = c)] at h5
                exact .inr ⟨h3, by rw [div_at h.1 h.2]; exact h4, h5⟩
            · rename_i h
              have hne : c / t'.w ≠ i := by
                intro h'
                apply h
                have e : t'.w * (c / t'.w) + c % t'.w = c := Nat.div_add_mod c t'.w
                have := Nat.mod_lt c tw
                rw [h', Nat.mul_comm] at e
                omega
              have hnh := hoth (c / t'.w) (by rw [Nat.div_lt_iff_lt_mul tw]; exact hc1) hne
              exact .inr ⟨olds c b l' q hc1 hnh hc2, hnh, hc2⟩
          rcases cls c l' q hc1 hcell' with ⟨m1, m2, m3, m4⟩ | ⟨m1, m2, m3⟩
          · refine ⟨hbkm b m1, fun c' l2 q2 hc1' _ hcell2 => ?_⟩
            rcases cls c' l2 q2 hc1' hcell2 with ⟨p1, p2, p3, p4⟩ | ⟨p1, p2, p3⟩
            · have := inj _ _ b _ _ _ _ p4 m4 m1; omega
            · rw [p1] at m1; exact absurd m1 d2
          · obtain ⟨g1, g2⟩ := k8 c b l' q hc1 m2 m3
            refine ⟨g1, fun c' l2 q2 hc1' _ hcell2 => ?_⟩
            rcases cls c' l2 q2 hc1' hcell2 with ⟨p1, p2, p3, p4⟩ | ⟨p1, p2, p3⟩
            · rw [m1] at p1; exact absurd p1 d2
            · exact g2 c' l2 q2 hc1' p2 p3
      split at h
      · split at h
        case h_2 => cases h
        rename_i y ms e4
        split at h
        case isFalse => cases h
        rename_i hcond
        obtain ⟨d1, d2, d3⟩ := hcond
        cases h
        exact core hc (fun _ _ _ => by simp [inH]) (.inr ⟨rfl, by simp [inH]⟩) (fun us _ hus => (hus (by simp [inH])).splice k h6) e4 d1 (by simpa using d2) (fun m hm => by simpa using List.all_eq_true.1 d3 m hm) rfl
      · rename_i pq
        split at h
        case isFalse => cases h
        rename_i hk
        obtain ⟨hk0, hkl⟩ := hk
        subst hk0
        split at h
        case h_2 => cases h
        rename_i y ms e4
        split at h
        case isFalse => cases h
        rename_i hcond
        obtain ⟨d1, d2, d3⟩ := hcond
        cases h
        obtain ⟨hc1, hc2, hc3⟩ := hc
        refine core hc1 (fun j _ hj => by simp only [inH]; omega) (.inl rfl) (fun us hus _ => ?_) e4 d1 (by simpa using d2) (fun m hm => by simpa using List.all_eq_true.1 d3 m hm) rfl
        have : splice us 0 (a.eval x).cells.toList = (a.eval x).cells.toList := by
          unfold splice
          rw [List.take_zero, List.drop_eq_nil_of_le (by simp; omega)]
          simp
        rw [this]
        exact h6
    · cases h
  · rename_i n i wd oo j t' x' k cs e1 e2
    rw [e1] at h1
    simp only [VR] at h1
    split at h
    case h_2 => cases h
    rename_i e T xs e3
    split at h
    case isFalse => cases h
    rename_i hcond
    obtain ⟨c1, rfl, c2, c3, c4, c5, c6⟩ := hcond
    split at h
    case h_2 => cases h
    rename_i y S' e4
    split at h
    case h_2 => cases h
    rename_i z e5
    cases h
    have hc : i < xs.length := hc
    obtain ⟨h6, h7⟩ := cellsA_ok hs h2 e2 c4
    have hl6 := h6.length
    simp only [Array.length_toList] at hl6
    have tw := T.w_pos
    obtain ⟨b, l0, cap0, us, g1, g2, g3, g4, g5, g6, g7⟩ := h1
    rcases hs.look e3 with ⟨_, k2⟩ | ⟨cap, cur, k1, k2, k3, k4, k5, k6, k7, k8⟩
    · subst k2; simp at hc
    have hcur : cur.toList[i * T.w + oo]? = some (.slice (some ⟨b, 0, none⟩) l0 cap0) := by
      have := g1
      simpa [World.cell?, k3] using this
    have hlt2 : i * T.w + oo < xs.length * T.w := by
      have : (i + 1) * T.w ≤ xs.length * T.w := Nat.mul_le_mul_right _ hc
      rw [Nat.succ_mul] at this; omega
    obtain ⟨hb0, huniq⟩ := k8 _ b l0 cap0 hlt2 (by simp [inH]) hcur
    have e6 : xs.getD i T.dflt = xs[i] := by simp [List.getD, hc]
    rw [e6] at e5
    have hEl0 := k7 i hc (by simp [inH])
    obtain ⟨cur2, e2', hb2⟩ := hEl0.block (c := oo) (by rw [drop_take_get c2]; exact hcur)
    have tw' := t'.w_pos
    have hcell2 : ∀ q, q < t'.w → cur2.toList[j * t'.w + q]? = us[q]? := fun q hq => by
      have := g6 q hq
      simpa [World.cell?, hb2] using this
    have hin : j * t'.w + t'.w ≤ cur2.toList.length := by
      have h8 := hcell2 (t'.w - 1) (by omega)
      rw [List.getElem?_eq_getElem (by omega : t'.w - 1 < us.length)] at h8
      have := (List.getElem?_eq_some_iff.1 h8).1
      omega
    have hus : (cur2.toList.drop (j * t'.w)).take t'.w = us := by
      apply List.ext_getElem?
      intro q
      by_cases hq : q < t'.w
      · rw [drop_take_get hq, hcell2 q hq]
      · rw [List.getElem?_eq_none (by simp; omega), List.getElem?_eq_none (by omega)]
    have hy : Rd (okS R S') w t' (splice us k (a.eval x).cells.toList) y := rds_ok hs t' (g7.cells.splice k h6) e4
    have hf : FR [n] [] R w R (w.setRow b (splice cur2.toList (j * t'.w + k) (a.eval x).cells.toList).toArray) := by
      refine ⟨rfl, rfl, rfl, by simp, fun b' hb hr => ⟨setRow_other w _ b' _ ?_, rfl⟩, fun m _ => ⟨rfl, rfl⟩, fun m _ => ⟨rfl, rfl⟩⟩
      rintro rfl
      exact hr (by rw [g3]; simp)
    have hp : ∀ b', b' ≠ b → (w.setRow b (splice cur2.toList (j * t'.w + k) (a.eval x).cells.toList).toArray).heap[b']? = w.heap[b']? := fun b' hb => setRow_other w _ b' _ hb
    refine wp_of_skip hs (store_run ho g4 hb2 (by rw [c1, hl6]) (by simp at hin; omega) h7) hf (by simpa using c5) rfl ?_ hK
    intro q hq
    simp only [List.mem_singleton] at hq
    subst hq
    refine .inr ⟨cap, cur, by rw [List.length_set]; exact k1, k2, by rw [hp _ (Ne.symm hb0)]; exact k3, by rw [List.length_set]; exact k4, k5, k6, fun j' hj _ => ?_, by rw [List.length_set]; exact k8⟩
    have hj' : j' < xs.length := by rw [List.length_set] at hj; exact hj
    by_cases hji : j' = i
    · subst hji
      rw [List.getElem_set_self]
      refine ElO.upd (b := b) (l0 := l0) (cap0 := cap0) (t := t') (f := fun l => l.set j y) (fun e' ys hro => ?_) (fun b' hb hr hlt => ⟨hp b' hb, hr⟩) T (hEl0) (o := oo) (by rw [drop_take_get c2]; exact hcur) e5 (fun c l k' hc' => ?_)
      · rcases hro with ⟨h8, _⟩ | ⟨b', cap', cur', h8, h9, h10, h11, h12, h13, h14⟩
        · cases h8
        · cases h8
          rw [hb2] at h10
          cases h10
          refine .inr ⟨b, cap0, (splice cur2.toList (j * t'.w + k) (a.eval x).cells.toList).toArray, by rw [List.length_set], h9, setRow_heap w _ cur2 _ _ _ hb2, by rw [List.length_set]; exact h11, h12, ?_, fun q hq => ?_⟩
          · rw [← Array.length_toList, splice_length _ _ _ (by simp at hin ⊢; omega)]; simpa using h13
          · rw [List.length_set] at hq
            simp only []
            rw [splice_slice _ _ j q k t'.w (by simp; omega) (by simpa using hin)]
            by_cases hqj : q = j
            · subst hqj
              rw [if_pos rfl, List.getElem_set_self, hus]
              exact Rd.flat c6 hy
            · rw [if_neg hqj, List.getElem_set_ne (Ne.symm hqj)]
              exact Rd.flat c6 (h14 q hq)
      · have hcw : c < T.w := by have := (List.getElem?_eq_some_iff.1 hc').1; simp at this; omega
        rw [drop_take_get hcw] at hc'
        have := huniq (j' * T.w + c) l k' (by
          have : (j' + 1) * T.w ≤ xs.length * T.w := Nat.mul_le_mul_right _ hj'
          rw [Nat.succ_mul] at this; omega) (by simp [inH]) hc'
        omega
    · rw [List.getElem_set_ne (Ne.symm hji)]
      refine (k7 j' hj' (by simp [inH])).mv fun c b' l' q' hc' hr' hlt => ⟨hp b' ?_, hr'⟩
      rintro rfl
      have hcw : c < T.w := by have := (List.getElem?_eq_some_iff.1 hc').1; simp at this; omega
      rw [drop_take_get hcw] at hc'
      have := huniq (j' * T.w + c) l' q' (by
          have : (j' + 1) * T.w ≤ xs.length * T.w := Nat.mul_le_mul_right _ hj'
          rw [Nat.succ_mul] at this; omega) (by simp [inH]) hc'
      apply hji
      have e1 : j' = (j' * T.w + c) / T.w := (div_at' _ hcw).symm
      rw [e1, this]
      exact div_at' _ c2
  · cases h

/-- The block of what append gives. -/
theorem append_run (t ty e : TypeId) (i : TypeInfo) (z : Value) (size bytes : Nat) (ht : P.underlying t = some (.slice e)) (hi : P.info? e = some i) (hz : i.zero = some z)
    (hsize : i.size = size) (hby : i.bytes = bytes) (hzs : z.cells.size = size) (hsz : 0 < size)
    (v : Value) (n : Nat) (xs : List Value) (hown : w.ownsRow 0 e size v n xs)
    (ad : Addr) (m c : Nat) (news : List Value) (hl : news.length = m * size) (hnews : ∀ j u, news[j]? = some u → w.cell? (ad.add j) = some u) (h1 : ∀ u ∈ news, u.oneCell' = true)
    (h63 : n + m ≤ maxLen) (hbytes : (n + m) * bytes ≤ 140737488355328) :
    ∃ v' w', (Builtin.append_ #[t, t] ty #[v, .slice (some ad) m c]).run P w = .ok v' w' ∧ w'.ownsRow 0 e size v' (n + m) (xs ++ news) ∧ w.grownBy w' v.ownBlock ∧
      (∀ g, v'.ownBlock = some g → v.ownBlock = some g ∨ w.heap.size ≤ g) := by
  obtain ⟨v', w', hr, h2, h3, h4⟩ := run_append_own (P := P) w 0 t ty e i z size bytes ht hi hz hsize hby hzs hsz v n xs hown ad m c news hl hnews h1 h63 hbytes (Nat.zero_le _)
  refine ⟨v', w', hr, h2, h3, fun g hg => ?_⟩
  rcases hown.2 with ⟨rfl, rfl⟩ | ⟨g0, cap, cur, rfl, _, hgg, hnc, hcm, hcs, htake⟩
  · have hx : xs = [] := List.eq_nil_of_length_eq_zero (by simpa using hown.1)
    subst hx
    obtain ⟨v2, w2, hr2, k2, _, _⟩ := run_append_own (P := P) w w.heap.size t ty e i z size bytes ht hi hz hsize hby hzs hsz _ 0 [] (World.ownsRow_nil w _ e size) ad m c news hl hnews h1 h63 hbytes (Nat.le_refl _)
    rw [hr] at hr2
    cases hr2
    exact .inr (World.ownsRow.lt k2 g hg).1
  · subst hsize
    by_cases hroom : n + m ≤ cap
    · have hfit : n * i.size + news.length ≤ cur.size := by rw [hl, hcs, ← Nat.add_mul]; exact Nat.mul_le_mul_right _ hroom
      have hr2 := run_append_room (P := P) w t ty e i ht hi g0 n cap cur hgg ad m c news hl hnews h1 hroom hfit
      rw [hr] at hr2
      cases hr2
      exact .inl hg
    · subst hby
      have holds : ∀ j u, xs[j]? = some u → w.cell? ((⟨g0, 0, none⟩ : Addr).add j) = some u := World.ownsRow.cells hown (g := g0) rfl
      have hm : n + m ≤ 9223372036854775807 := by unfold maxLen at h63; omega
      have hr2 := run_append_grow (P := P) w t ty e i z ht hi hz ⟨g0, 0, none⟩ n cap xs hown.1 holds ad m c news hl hnews (by omega) (by omega) (growslice_fits (by omega) hbytes)
      rw [hr] at hr2
      cases hr2
      right
      simp only [Value.ownBlock, Option.some.injEq] at hg
      omega
theorem Rd.one {S : Nat → Prop} {t : Ty} {us : List Value} {x : t.den} (h : Rd S w t us x) : ∀ v ∈ us, v.oneCell' = true := by
  induction t generalizing us with
  | int k => simp only [Rd] at h; subst h; simp [Value.oneCell']
  | bool => simp only [Rd] at h; subst h; simp [Value.oneCell']
  | str => simp only [Rd] at h; subst h; simp [Value.oneCell']
  | row e t ih => obtain ⟨a, cap, rfl, _⟩ := h; simp [Value.oneCell']
  | prod a b ha hb =>
    obtain ⟨u1, u2, rfl, h1, h2⟩ := h
    intro v hv
    rcases List.mem_append.1 hv with hv | hv
    · exact ha h1 v hv
    · exact hb h2 v hv
theorem RdL.one' {S : Nat → Prop} {t : Ty} {us : List Value} {xs : List t.den} (h : RdL S w t us xs) : ∀ v ∈ us, v.oneCell' = true := by
  intro v hv
  obtain ⟨q, hq, rfl⟩ := List.mem_iff_getElem.1 hv
  have hw := t.w_pos
  have h1 := h.1
  have hi : q / t.w < xs.length := by rw [Nat.div_lt_iff_lt_mul hw]; omega
  refine (h.2 _ hi).one _ ?_
  have hm := Nat.mod_lt q hw
  have e : (q / t.w) * t.w + q % t.w = q := by rw [Nat.mul_comm]; exact Nat.div_add_mod q t.w
  have : ((us.drop (q / t.w * t.w)).take t.w)[q % t.w]? = some us[q] := by
    rw [drop_take_get hm, e, List.getElem?_eq_getElem hq]
  exact List.mem_of_getElem? this
/-- The names that a slice's elements depend on, and its elements' cells. -/
def elSrc (σ : St) : CV → List Nat
  | .rd S _ _ _ => S
  | .sub n _ _ _ _ _ _ => [n]
  | .ow n => match σ.look n with
    | some (.row _ _ _ S) => S
    | some (.tree _ _ _ _) => [n]
    | _ => []
  | _ => []
theorem rd_cells {S : Nat → Prop} {u : Value} {e : TypeId} {t : Ty} {ys : List t.den} (hp : Rd S w (.row e t) [u] ys) :
    ∃ ad cap news, u = .slice ad ys.length cap ∧ ys.length ≤ cap ∧ RdL S w t news ys ∧ (ys.length = 0 ∨ ∃ ad0, ad = some ad0 ∧ ∀ j v, news[j]? = some v → w.cell? (ad0.add j) = some v) := by
  obtain ⟨ad, cap, h1, h2, h3, h4⟩ := hp
  simp only [List.cons.injEq, and_true] at h1
  by_cases h0 : ys.length = 0
  · have : ys = [] := List.eq_nil_of_length_eq_zero h0
    subst this
    exact ⟨ad, cap, [], h1, h2, RdL.nil _ _ _, .inl rfl⟩
  · obtain ⟨b, q, rfl, hb, h5⟩ := h4 (by omega)
    have hw := t.w_pos
    refine ⟨_, cap, (List.range (ys.length * t.w)).map (fun j => (w.cell? ⟨b, q + j, none⟩).getD undef), h1, h2, ⟨by simp, fun i hi => ?_⟩, .inr ⟨_, rfl, fun j v hj => ?_⟩⟩
    · obtain ⟨vs, k1, k2, k3⟩ := h5 i hi
      have hle : i * t.w + t.w ≤ ys.length * t.w := by rw [← Nat.succ_mul]; exact Nat.mul_le_mul_right _ hi
      have : (((List.range (ys.length * t.w)).map (fun j => (w.cell? ⟨b, q + j, none⟩).getD undef)).drop (i * t.w)).take t.w = vs := by
        apply List.ext_getElem?
        intro j
        by_cases hj : j < t.w
        · rw [drop_take_get hj, List.getElem?_map, List.getElem?_range (by omega), Option.map_some, ← Nat.add_assoc, k2 j hj, List.getElem?_eq_getElem (by omega)]; rfl
        · rw [List.getElem?_eq_none (by simp; omega), List.getElem?_eq_none (by omega)]
      rw [this]
      exact k3
    · have hj2 : j < ys.length * t.w := by simpa using (List.getElem?_eq_some_iff.1 hj).1
      have hi : j / t.w < ys.length := by rw [Nat.div_lt_iff_lt_mul hw]; exact hj2
      obtain ⟨vs, k1, k2, k3⟩ := h5 _ hi
      have e : (j / t.w) * t.w + j % t.w = j := by rw [Nat.mul_comm]; exact Nat.div_add_mod j t.w
      have k4 := k2 (j % t.w) (Nat.mod_lt _ hw)
      rw [Nat.add_assoc, e, List.getElem?_eq_getElem (by rw [k1]; exact Nat.mod_lt _ hw)] at k4
      rw [List.getElem?_map, List.getElem?_range hj2, Option.map_some, k4] at hj
      rw [Addr.add_mid, k4]
      exact hj
theorem TrL.rdl {n b0 : Nat} {t : Ty} {us : List Value} {xs : List t.den} (h : TrL R w n b0 t none us xs) : RdL (okS R [n]) w t us xs := ⟨h.len, fun i hi => (h.el i hi (by simp [inH])).rd⟩
theorem own_at {e : TypeId} {s k : Nat} {u : Value} {us : List Value} (h1 : w.ownsRow 0 e s u k us) : ∃ ad cap, u = .slice ad k cap ∧ k ≤ cap ∧ (k = 0 ∨ ∃ ad0, ad = some ad0 ∧ ∀ j v, us[j]? = some v → w.cell? (ad0.add j) = some v) := by
  rcases h1.2 with ⟨h4, h5⟩ | ⟨g, cap, cur, h4, h5, h6, h7, h8, h9, h10⟩
  · exact ⟨none, 0, by rw [h4, h5], by omega, .inl h5⟩
  · refine ⟨_, cap, h4, h7, .inr ⟨_, rfl, fun j v hj => ?_⟩⟩
    rw [h4] at h1
    exact World.ownsRow.cells h1 (g := g) rfl j v hj
theorem row_cells (hs : Sim R0 w0 R σ a w) {p : CV} {u : Value} (hp : VRc R w p u) {e : TypeId} {t : Ty} {ys : List t.den} (h : rowOf σ p = some ⟨e, t, ys⟩) :
    ∃ ad cap news, u = .slice ad ys.length cap ∧ ys.length ≤ cap ∧ RdL (okS R (elSrc σ p)) w t news ys ∧ (ys.length = 0 ∨ ∃ ad0, ad = some ad0 ∧ ∀ j v, news[j]? = some v → w.cell? (ad0.add j) = some v) := by
  unfold rowOf at h
  split at h
  · cases h
    exact rd_cells hp
  · cases h
    exact rd_cells hp.2.2.rd
  · rename_i n
    split at h
    · rename_i e' t' xs S he
      cases h
      have hsrc : elSrc σ (.ow n) = S := by simp [elSrc, he]
      rw [hsrc]
      obtain ⟨us, h1, h2, h3⟩ := OR_cells (hs.look he)
      have hu : u = R.hd n := hp
      rw [hu]
      obtain ⟨ad, cap, q1, q2, q3⟩ := own_at h1
      exact ⟨ad, cap, us, q1, q2, h2, q3⟩
    · rename_i e' t' xs he
      cases h
      have hsrc : elSrc σ (.ow n) = [n] := by simp [elSrc, he]
      rw [hsrc]
      obtain ⟨us, h1, h2, h3⟩ := OR_trL (hs.look he)
      have hu : u = R.hd n := hp
      rw [hu]
      obtain ⟨ad, cap, q1, q2, q3⟩ := own_at h1
      exact ⟨ad, cap, us, q1, q2, h2.rdl, q3⟩
    · cases h
  · cases h
/-- What append does to memory. -/
theorem app_mem {tt e : TypeId} {s x : Operand} {t : Ty} {k m : Nat} {ie : TypeInfo} {z : Value} {us news : List Value} {ad : Option Addr} {cap : Nat}
    (ho : o.op = .call { callee := .builtin .append, args := #[s, x], argTypes := #[tt, tt] }) (ht : P.underlying tt = some (.slice e)) (hi : P.info? e = some ie) (hsz : ie.size = t.w)
    (hz : ie.zero = some z) (hzs : z.cells.size = t.w) (hown : w.ownsRow 0 e t.w (a.eval s) k us)
    (hx : a.eval x = .slice ad m cap) (hnl : news.length = m * t.w) (h1 : ∀ u ∈ news, u.oneCell' = true) (hne : m = 0 ∨ ∃ ad0, ad = some ad0 ∧ ∀ j v, news[j]? = some v → w.cell? (ad0.add j) = some v)
    (hb : (k + m) * ie.bytes ≤ 140737488355328) (hb0 : ie.bytes ≠ 0) :
    ∃ v' w', (execOp a.eval o).run P w = .ok (.value v') w' ∧ w'.ownsRow 0 e t.w v' (k + m) (us ++ news) ∧ w.grownBy w' (a.eval s).ownBlock ∧ (∀ g, v'.ownBlock = some g → (a.eval s).ownBlock = some g ∨ w.heap.size ≤ g) := by
  have h63 : k + m ≤ maxLen := by
    have : k + m ≤ (k + m) * ie.bytes := Nat.le_mul_of_pos_right _ (by omega)
    unfold maxLen; omega
  have key : ∃ v' w', (Builtin.append_ #[tt, tt] o.type #[a.eval s, a.eval x]).run P w = .ok v' w' ∧ w'.ownsRow 0 e t.w v' (k + m) (us ++ news) ∧ w.grownBy w' (a.eval s).ownBlock ∧
      (∀ g, v'.ownBlock = some g → (a.eval s).ownBlock = some g ∨ w.heap.size ≤ g) := by
    rcases hne with h0 | ⟨ad0, rfl, hcell⟩
    · have hnews : news = [] := List.eq_nil_of_length_eq_zero (by rw [hnl, h0]; simp)
      subst hnews
      refine ⟨a.eval s, w, ?_, by rw [h0]; simpa using hown, ⟨rfl, rfl, rfl, Nat.le_refl _, fun _ _ _ => rfl⟩, fun g hg => .inl hg⟩
      rw [hx, h0]
      rcases hown.2 with ⟨h1, h2⟩ | ⟨g, cap', cur, h1, _, h2, h3, h4, h5, h6⟩
      · rw [h1]
        cases ad <;> simp [Builtin.append_, run_underlying ht, sizeOf, typeInfo, hi, Builtin.lenOf, Builtin.firstCells, loadCells, loadCellsFrom]
      · rw [h1]
        cases ad <;> simp [Builtin.append_, run_underlying ht, sizeOf, typeInfo, hi, Builtin.lenOf, Builtin.firstCells, loadCells, loadCellsFrom, h3, storeCells]
    · rw [hx]
      exact append_run tt o.type e ie z t.w ie.bytes ht hi hz hsz rfl hzs t.w_pos _ _ us hown ad0 m cap news hnl hcell h1 h63 hb
  obtain ⟨v', w', hr, h2, h3, h4⟩ := key
  refine ⟨v', w', ?_, h2, h3, h4⟩
  unfold execOp
  simp only [ho, resolve, invoke, builtin, Sem.run_bind, Sem.run_pure, Result.andThen_ok, List.map_toArray, List.map_cons, List.map_nil, hr]
/-- The owners behind an append: what belonged to the names Ns is d's; the blocks Bs are nobody's. -/
def Rz.apT (R : Rz) (Ns Bs : List Nat) (d : Nat) (v : Value) : Rz :=
  { root := fun b => if v.ownBlock = some b then d else if b ∈ Bs then 1 else if R.root b ∈ Ns then d else if R.root b = d then 1 else R.root b
    hd := fun m => if m = d then v else R.hd m
    bk := fun m => if m = d then v.ownBlock.getD 0 else R.bk m }
/-- Only the slice's own block changes its owner. -/
def Rz.apS (R : Rz) (d : Nat) (v : Value) : Rz :=
  { root := fun b => if v.ownBlock = some b then d else if R.root b = d then 1 else R.root b
    hd := fun m => if m = d then v else R.hd m
    bk := fun m => if m = d then v.ownBlock.getD 0 else R.bk m }
theorem own_obj {R' : Rz} {e : TypeId} {t : Ty} {k d : Nat} {v : Value} {us : List Value} (h : w.ownsRow 0 e t.w v k us) (hh : R'.hd d = v) (hb : R'.bk d = v.ownBlock.getD 0) (hr : ∀ b, v.ownBlock = some b → R'.root b = d) :
    (R'.hd d = .slice none 0 0 ∧ k = 0) ∨ ∃ cap cur, R'.hd d = .slice (some ⟨R'.bk d, 0, none⟩) k cap ∧ R'.root (R'.bk d) = d ∧ w.heap[R'.bk d]? = some (.cells cur e (0, 0)) ∧ k ≤ cap ∧ cap ≤ maxLen ∧ cur.size = cap * t.w ∧ cur.toList.take (k * t.w) = us ∧ v.ownBlock = some (R'.bk d) := by
  rcases h.2 with ⟨h4, h5⟩ | ⟨g, cap', cur, h4, _, h5, h6, h7, h8, h9⟩
  · exact .inl ⟨by rw [hh, h4], h5⟩
  · have e1 : v.ownBlock = some g := by rw [h4]; rfl
    have e2 : R'.bk d = g := by rw [hb, e1]; rfl
    exact .inr ⟨cap', cur, by rw [hh, h4, e2], by rw [e2]; exact hr g e1, by rw [e2]; exact h5, h6, h7, h8, h9, by rw [e2]; exact e1⟩
theorem app_row {tt e : TypeId} {s x : Operand} {t : Ty} {xs ys : List t.den} {S : List Nat} {Ns : List Nat} {d : Nat} {ie : TypeInfo} {z : Value} {us news : List Value} {ad : Option Addr} {cap : Nat}
    (hs : Sim R0 w0 R σ a w) (ho : o.op = .call { callee := .builtin .append, args := #[s, x], argTypes := #[tt, tt] }) (ht : P.underlying tt = some (.slice e)) (hi : P.info? e = some ie) (hsz : ie.size = t.w)
    (hz : ie.zero = some z) (hzs : z.cells.size = t.w) (hown : w.ownsRow 0 e t.w (a.eval s) xs.length us) (hblk : ∀ b, (a.eval s).ownBlock = some b → R.root b ∈ Ns)
    (hx : a.eval x = .slice ad ys.length cap) (hnl : news.length = ys.length * t.w) (hone : ∀ u ∈ news, u.oneCell' = true) (hrd : RdL (okS R S) w t (us ++ news) (xs ++ ys)) (hne : ys.length = 0 ∨ ∃ ad0, ad = some ad0 ∧ ∀ j v, news[j]? = some v → w.cell? (ad0.add j) = some v)
    (hN : ∀ n ∈ Ns, 5 < n) (hd0 : 100 ≤ d) (hS : ∀ m ∈ S, m ∉ Ns ∧ m ≠ d) (hb : (xs.length + ys.length) * ie.bytes ≤ 140737488355328) (hb0 : ie.bytes ≠ 0)
    (hK : ∀ R' v w', Done R w (d :: Ns) (d :: Ns) (.c (.ow d)) [(d, .row e t (xs ++ ys) S)] R' v w' → K (a.put o.dst v) w') : o.wp P a w K Q := by
  obtain ⟨v', w', hrun, h1, h2, h3⟩ := app_mem ho ht hi hsz hz hzs hown hx hnl hone hne hb hb0
  have hf : FR (d :: Ns) (d :: Ns) R w (R.apT Ns [] d v') w' := by
    refine ⟨h2.os, h2.tape, h2.output, h2.size, fun b hb hr => ?_, fun m hm => ?_, fun m hm => ?_⟩
    · simp only [List.mem_cons, not_or] at hr
      have h4 : (a.eval s).ownBlock ≠ some b := fun e => hr.2 (hblk b e)
      have h5 : v'.ownBlock ≠ some b := fun e => by
        rcases h3 b e with h6 | h6
        · exact h4 h6
        · omega
      exact ⟨h2.block b hb (fun e => h4 e.symm), by simp [Rz.apT, h5, hr.1, hr.2]⟩
    · simp only [List.mem_cons, not_or] at hm
      simp [Rz.apT, hm.1]
    · have : m ≠ d := by omega
      simp [Rz.apT, this]
  have h0 : (0 : Nat) ∉ d :: Ns := by simp only [List.mem_cons, not_or]; exact ⟨by omega, fun h => by have := hN 0 h; omega⟩
  refine wp_of_run (r := ⟨True, .c (.ow d), d :: Ns, d :: Ns, [(d, .row e t (xs ++ ys) S)]⟩) hs hrun hf (fun n hn => ?_) (by simp [VR, VRc, Rz.apT]) ?_ hK
  · rcases List.mem_cons.1 hn with rfl | hn
    · omega
    · exact hN n hn
  intro p hp
  simp only [List.mem_singleton] at hp
  subst hp
  have hrd' := hrd.fr hf h0 (fun m hm => by simp only [List.mem_cons, not_or]; exact ⟨(hS m hm).2, (hS m hm).1⟩)
  have hlen : (xs ++ ys).length = xs.length + ys.length := by simp
  rcases own_obj (R' := R.apT Ns [] d v') (d := d) h1 (by simp [Rz.apT]) (by simp [Rz.apT]) (fun b hb => by simp [Rz.apT, hb]) with ⟨q1, q2⟩ | ⟨cap', cur, q1, q2, q3, q4, q5, q6, q7, _⟩
  · exact .inl ⟨q1, List.eq_nil_of_length_eq_zero (by omega)⟩
  · exact OR_row (cap := cap') (cur := cur) (by rw [hlen]; exact q1) q2 q3 (by omega) q5 q6 (by rw [hlen, q7]; exact hrd')
theorem app_tree {tt e : TypeId} {s x : Operand} {t : Ty} {xs ys : List t.den} {Ns Bs : List Nat} {d : Nat} {ie : TypeInfo} {z : Value} {us news : List Value} {ad : Option Addr} {cap : Nat}
    (hs : Sim R0 w0 R σ a w) (ho : o.op = .call { callee := .builtin .append, args := #[s, x], argTypes := #[tt, tt] }) (ht : P.underlying tt = some (.slice e)) (hi : P.info? e = some ie) (hsz : ie.size = t.w)
    (hz : ie.zero = some z) (hzs : z.cells.size = t.w) (hown : w.ownsRow 0 e t.w (a.eval s) xs.length us) (hblk : ∀ b, (a.eval s).ownBlock = some b → R.root b ∈ Ns ∧ b ∈ Bs)
    (hx : a.eval x = .slice ad ys.length cap) (hnl : news.length = ys.length * t.w) (hone : ∀ u ∈ news, u.oneCell' = true) (hBs : ∀ b ∈ Bs, R.root b ∈ Ns)
    (hrd : ∀ (R' : Rz) (w' : World) (b1 : Nat), (∀ b, R.root b ∈ Ns → b ∉ Bs → b < w.heap.size → w'.heap[b]? = w.heap[b]? ∧ R'.root b = d ∧ b ≠ b1) → TrL R' w' d b1 t none (us ++ news) (xs ++ ys))
    (hne : ys.length = 0 ∨ ∃ ad0, ad = some ad0 ∧ ∀ j v, news[j]? = some v → w.cell? (ad0.add j) = some v)
    (hN : ∀ n ∈ Ns, 5 < n) (hd0 : 100 ≤ d) (hb : (xs.length + ys.length) * ie.bytes ≤ 140737488355328) (hb0 : ie.bytes ≠ 0)
    (hK : ∀ R' v w', Done R w (d :: Ns) (d :: Ns) (.c (.ow d)) [(d, .tree e t (xs ++ ys) none)] R' v w' → K (a.put o.dst v) w') : o.wp P a w K Q := by
  obtain ⟨v', w', hrun, h1, h2, h3⟩ := app_mem ho ht hi hsz hz hzs hown hx hnl hone hne hb hb0
  have hf : FR (d :: Ns) (d :: Ns) R w (R.apT Ns Bs d v') w' := by
    refine ⟨h2.os, h2.tape, h2.output, h2.size, fun b hb hr => ?_, fun m hm => ?_, fun m hm => ?_⟩
    · simp only [List.mem_cons, not_or] at hr
      have h4 : (a.eval s).ownBlock ≠ some b := fun e => hr.2 (hblk b e).1
      have h5 : v'.ownBlock ≠ some b := fun e => by
        rcases h3 b e with h6 | h6
        · exact h4 h6
        · omega
      have h6 : b ∉ Bs := fun h => hr.2 (hBs b h)
      exact ⟨h2.block b hb (fun e => h4 e.symm), by simp [Rz.apT, h5, h6, hr.1, hr.2]⟩
    · simp only [List.mem_cons, not_or] at hm
      simp [Rz.apT, hm.1]
    · have : m ≠ d := by omega
      simp [Rz.apT, this]
  refine wp_of_run (r := ⟨True, .c (.ow d), d :: Ns, d :: Ns, [(d, .tree e t (xs ++ ys) none)]⟩) hs hrun hf (fun n hn => ?_) (by simp [VR, VRc, Rz.apT]) ?_ hK
  · rcases List.mem_cons.1 hn with rfl | hn
    · omega
    · exact hN n hn
  intro p hp
  simp only [List.mem_singleton] at hp
  subst hp
  have hlen : (xs ++ ys).length = xs.length + ys.length := by simp
  rcases own_obj (R' := R.apT Ns Bs d v') (d := d) h1 (by simp [Rz.apT]) (by simp [Rz.apT]) (fun b hb => by simp [Rz.apT, hb]) with ⟨q1, q2⟩ | ⟨cap', cur, q1, q2, q3, q4, q5, q6, q7, q8⟩
  · exact .inl ⟨q1, List.eq_nil_of_length_eq_zero (by omega)⟩
  · refine OR_tree (cap := cap') (cur := cur) (by rw [hlen]; exact q1) q2 q3 (by omega) q5 q6 ?_
    rw [hlen, q7]
    refine hrd _ _ _ fun b hb hB hlt => ?_
    have h4 : (a.eval s).ownBlock ≠ some b := fun e => hB (hblk b e).2
    have h5 : v'.ownBlock ≠ some b := fun e => by
      rcases h3 b e with h6 | h6
      · exact h4 h6
      · omega
    refine ⟨h2.block b hlt (fun e => h4 e.symm), by simp [Rz.apT, h5, hB, hb], ?_⟩
    rintro rfl
    exact h5 q8
/-- The slice of an element of a tree is lengthened: it leaves the tree. -/
theorem app_sub {tt e e2 : TypeId} {s x : Operand} {t T : Ty} {XS : List T.den} {n i : Nat} {xs ys : List t.den} {d : Nat} {ie : TypeInfo} {z : Value} {news : List Value} {ad : Option Addr} {cap : Nat}
    (hs : Sim R0 w0 R σ a w) (ho : o.op = .call { callee := .builtin .append, args := #[s, x], argTypes := #[tt, tt] }) (ht : P.underlying tt = some (.slice e)) (hi : P.info? e = some ie) (hsz : ie.size = t.w)
    (hz : ie.zero = some z) (hzs : z.cells.size = t.w) (hf1 : t.flat = true) (hT : T.w = 1) (htr : OR R w n (.tree e2 T XS none)) (hin : i < XS.length) (hsub : VRc R w (.sub n i 1 0 e t xs) (a.eval s))
    (hx : a.eval x = .slice ad ys.length cap) {S' : List Nat} (hrn : RdL (okS R S') w t news ys) (hne : ys.length = 0 ∨ ∃ ad0, ad = some ad0 ∧ ∀ j v, news[j]? = some v → w.cell? (ad0.add j) = some v)
    (hn : 5 < n) (hnd : n ≠ d) (hd0 : 100 ≤ d) (hb : (xs.length + ys.length) * ie.bytes ≤ 140737488355328) (hb0 : ie.bytes ≠ 0)
    (hK : ∀ R' v w', Done R w [n, d] [d] (.c (.ow d)) [(n, .tree e2 T XS (some (i, i + 1))), (d, .row e t (xs ++ ys) [])] R' v w' → K (a.put o.dst v) w') : o.wp P a w K Q := by
  obtain ⟨hc1, hc2, hc3⟩ := hsub
  simp only [Nat.mul_one, Nat.add_zero] at hc1
  -- the slice's cells
  have hrow : ∃ us, w.ownsRow 0 e t.w (a.eval s) xs.length us ∧ RdL (okS R []) w t us xs ∧ ∀ b, (a.eval s).ownBlock = some b → R.root b = n ∧ ∃ l k, a.eval s = .slice (some ⟨b, 0, none⟩) l k := by
    rcases hc3 with ⟨h1, h2⟩ | ⟨b, cap', cur, h1, h2, h3, h4, h5, h6, h7⟩
    · subst h2; rw [h1]; exact ⟨[], World.ownsRow_nil _ _ _ _, RdL.nil _ _ _, fun b hb => by cases hb⟩
    · rw [h1]
      have hle : xs.length * t.w ≤ cur.size := by rw [h6]; exact Nat.mul_le_mul_right _ h4
      have hl : (cur.toList.take (xs.length * t.w)).length = xs.length * t.w := by simp; omega
      refine ⟨cur.toList.take (xs.length * t.w), ⟨hl, .inr ⟨b, cap', cur, rfl, Nat.zero_le _, h3, h4, h5, h6, rfl⟩⟩, ⟨hl, fun j hj => ?_⟩, fun b' hb => by cases hb; exact ⟨h2, _, _, rfl⟩⟩
      have h8 := h7 j hj
      have hle : j * t.w + t.w ≤ xs.length * t.w := by rw [← Nat.succ_mul]; exact Nat.mul_le_mul_right _ hj
      rw [List.drop_take, List.take_take, Nat.min_eq_left (by omega)]
      exact h8
  obtain ⟨us, hown, hru, hblk⟩ := hrow
  have hone := hrn.one'
  obtain ⟨v', w', hrun, h1, h2, h3⟩ := app_mem ho ht hi hsz hz hzs hown hx hrn.1 hone hne hb hb0
  have hvb : ∀ b, b < w.heap.size → (a.eval s).ownBlock ≠ some b → v'.ownBlock ≠ some b := fun b hlt h4 e => by
    rcases h3 b e with h6 | h6
    · exact h4 h6
    · omega
  have hf : FR [n, d] [d] R w (R.apS d v') w' := by
    refine ⟨h2.os, h2.tape, h2.output, h2.size, fun b hb hr => ?_, fun m hm => ?_, fun m hm => ?_⟩
    · simp only [List.mem_cons, List.not_mem_nil, or_false, not_or] at hr
      have h4 : (a.eval s).ownBlock ≠ some b := fun e => hr.1 (hblk b e).1
      exact ⟨h2.block b hb (fun e => h4 e.symm), by simp [Rz.apS, hvb b hb h4, hr.2]⟩
    · simp only [List.mem_singleton] at hm
      simp [Rz.apS, hm]
    · have : m ≠ d := by omega
      simp [Rz.apS, this]
  refine wp_of_run (r := ⟨True, .c (.ow d), [n, d], [d], [(n, .tree e2 T XS (some (i, i + 1))), (d, .row e t (xs ++ ys) [])]⟩) hs hrun hf (by simp; omega) (by simp [VR, VRc, Rz.apS]) ?_ hK
  intro p hp
  simp only [List.mem_cons, List.not_mem_nil, or_false] at hp
  rcases hp with rfl | rfl
  · rcases htr with ⟨_, k2⟩ | ⟨cap', cur, k1, k2, k3, k4, k5, k6, k7, k8⟩
    · subst k2; simp at hin
    have ehd : (R.apS d v').hd n = R.hd n := by simp [Rz.apS, hnd]
    have ebk : (R.apS d v').bk n = R.bk n := by simp [Rz.apS, hnd]
    have hcur : cur.toList[i]? = some (a.eval s) := by simpa [World.cell?, k3] using hc1
    -- other blocks of the tree
    have oth : ∀ b, b < w.heap.size → R.root b = n → (a.eval s).ownBlock ≠ some b → w'.heap[b]? = w.heap[b]? ∧ (R.apS d v').root b = n := fun b hlt hr h4 =>
      ⟨h2.block b hlt (fun e => h4 e.symm), by simp [Rz.apS, hvb b hlt h4, hr, hnd]⟩
    have hlt : R.bk n < w.heap.size := (Array.getElem?_eq_some_iff.1 k3).1
    have hne0 : (a.eval s).ownBlock ≠ some (R.bk n) := fun e => by
      obtain ⟨_, l, k, e2⟩ := hblk _ e
      rw [e2] at hcur
      exact (k8 i _ l k (by rw [hT]; omega) (by simp [inH]) hcur).1 rfl
    obtain ⟨o1, o2⟩ := oth _ hlt k2 hne0
    refine .inr ⟨cap', cur, by rw [ehd, ebk]; exact k1, by rw [ebk]; exact o2, by rw [ebk, o1]; exact k3, k4, k5, k6, fun j hj hh => ?_, fun c b l k hc hh hcell => ?_⟩
    · have hji : j ≠ i := by simp only [inH] at hh; omega
      refine (k7 j hj (by simp [inH])).mv fun c b l k hc hr hlt' => oth b hlt' hr fun e => ?_
      obtain ⟨_, l2, q2, e2⟩ := hblk _ e
      have hcw : c < T.w := by have := (List.getElem?_eq_some_iff.1 hc).1; simp at this; omega
      rw [drop_take_get hcw] at hc
      rw [e2] at hcur
      have := (k8 i b l2 q2 (by rw [hT]; omega) (by simp [inH]) hcur).2 (j * T.w + c) l k (by rw [hT] at hcw ⊢; omega) (by simp [inH]) hc
      rw [hT] at this hcw
      omega
    · rw [ebk]
      obtain ⟨q1, q2⟩ := k8 c b l k hc (by simp [inH]) hcell
      exact ⟨q1, fun c' l' k' hc' _ hcell' => q2 c' l' k' hc' (by simp [inH]) hcell'⟩
  · have hlen : (xs ++ ys).length = xs.length + ys.length := by simp
    have hrd' : RdL (okS (R.apS d v') []) w' t (us ++ news) (xs ++ ys) := by
      have := (hru.mono (S' := fun _ => True) (fun _ _ => trivial)).append (hrn.mono (S' := fun _ => True) (fun _ _ => trivial))
      exact ⟨this.1, fun j hj => Rd.flat hf1 (this.2 j hj)⟩
    rcases own_obj (R' := R.apS d v') (d := d) h1 (by simp [Rz.apS]) (by simp [Rz.apS]) (fun b hb => by simp [Rz.apS, hb]) with ⟨q1, q2⟩ | ⟨cap', cur, q1, q2, q3, q4, q5, q6, q7, _⟩
    · exact .inl ⟨q1, List.eq_nil_of_length_eq_zero (by omega)⟩
    · exact OR_row (cap := cap') (cur := cur) (by rw [hlen]; exact q1) q2 q3 (by omega) q5 q6 (by rw [hlen, q7]; exact hrd')
/-- A tree of the call's own. -/
def treeOf (σ : St) : CV → Option (Nat × ((t : Ty) × List t.den))
  | .ow m => match σ.look m with
    | some (.tree _ t ys none) => some (m, ⟨t, ys⟩)
    | _ => none
  | _ => none
def appC (σ : St) (d : Nat) (e : TypeId) (sz by_ : Nat) : CV → CV → Option Res
  | .ow n, q => match σ.look n with
    | some (.row e' t xs S) => if e' = e ∧ sz = t.w ∧ 5 < n then match t.flat with
        | true => match rowOf σ q with
          | some ⟨_, t', ys⟩ => if h : t' = t then some ⟨(xs.length + ys.length) * by_ ≤ 140737488355328, .c (.ow d), [d, n], [d, n], [(d, .row e t (xs ++ castD h ys) [])]⟩ else none
          | none => none
        | false => match rowOf σ q with
          | some ⟨_, t', ys⟩ => if h : t' = t then if ¬ (uni S (elSrc σ q)).contains n ∧ ¬ (uni S (elSrc σ q)).contains d then
              some ⟨(xs.length + ys.length) * by_ ≤ 140737488355328, .c (.ow d), [d, n], [d, n], [(d, .row e t (xs ++ castD h ys) (uni S (elSrc σ q)))]⟩ else none else none
          | none => none
      else none
    | some (.tree e' t xs none) => if e' = e ∧ sz = t.w ∧ 5 < n then match treeOf σ q with
        | some (m, ⟨t', ys⟩) => if h : t' = t then if m ≠ n ∧ 5 < m then
            some ⟨(xs.length + ys.length) * by_ ≤ 140737488355328, .c (.ow d), [d, n, m], [d, n, m], [(d, .tree e t (xs ++ castD h ys) none)]⟩ else none else none
        | none => match xs with
          | [] => match rowOf σ q with
            | some ⟨_, t', ys⟩ => if h : t' = t then if ¬ (elSrc σ q).contains n ∧ ¬ (elSrc σ q).contains d then
                some ⟨ys.length * by_ ≤ 140737488355328, .c (.ow d), [d, n], [d, n], [(d, .row e t (castD h ys) (elSrc σ q))]⟩ else none else none
            | none => none
          | _ :: _ => none
      else none
    | _ => none
  | .sc (.slice none 0 0), q => match treeOf σ q with
    | some (m, ⟨t, ys⟩) => if sz = t.w ∧ 5 < m then some ⟨ys.length * by_ ≤ 140737488355328, .c (.ow d), [d, m], [d, m], [(d, .tree e t ys none)]⟩ else none
    | none => match rowOf σ q with
      | some ⟨_, t, ys⟩ => if sz = t.w then match t.flat with
          | true => some ⟨ys.length * by_ ≤ 140737488355328, .c (.ow d), [d], [d], [(d, .row e t ys [])]⟩
          | false => if (elSrc σ q).contains d then none else some ⟨ys.length * by_ ≤ 140737488355328, .c (.ow d), [d], [d], [(d, .row e t ys (elSrc σ q))]⟩
        else none
      | none => none
  | .sub n i wd o e' t xs, q => match σ.look n with
    | some (.tree e2 T XS none) => if wd = 1 ∧ o = 0 ∧ T.w = 1 ∧ e' = e ∧ sz = t.w ∧ t.flat = true ∧ 5 < n ∧ n ≠ d then match rowOf σ q with
        | some ⟨_, t', ys⟩ => if h : t' = t then some ⟨i < XS.length ∧ (xs.length + ys.length) * by_ ≤ 140737488355328, .c (.ow d), [n, d], [d], [(n, .tree e2 T XS (some (i, i + 1))), (d, .row e t (xs ++ castD h ys) [])]⟩ else none
        | none => none
      else none
    | _ => none
  | _, _ => none
def aApp (P : Program) (σ : St) (d : Option Tmp) (tt : TypeId) (s x : Operand) : Option Res :=
  match P.underlying tt with
  | some (.slice e) => match sbOf P e with
    | some (sz, by_) => if by_ ≠ 0 ∧ (zeroOf P e).map List.length = some sz then match σ.ev s, σ.ev x with
        | .c p, .c q => appC σ (nm d) e sz by_ p q
        | _, _ => none
      else none
    | none => none
  | _ => none
theorem aApp_ok {tt : TypeId} {s x : Operand} {r : Res} (ho : o.op = .call { callee := .builtin .append, args := #[s, x], argTypes := #[tt, tt] }) (h : aApp P σ o.dst tt s x = some r) (hc : r.c) (hs : Sim R0 w0 R σ a w)
    (hK : ∀ R' v w', Done R w r.N r.M r.r r.news R' v w' → K (a.put o.dst v) w') : o.wp P a w K Q := by
  have h1 := hs.ev s
  have h2 := hs.ev x
  have hnd := nm_ge o.dst
  unfold aApp at h
  split at h
  case h_2 => cases h
  rename_i e e1
  split at h
  case h_2 => cases h
  rename_i sz by_ e2
  split at h
  case isFalse => cases h
  rename_i hcond
  obtain ⟨c1, c2⟩ := hcond
  obtain ⟨i, e3, rfl, rfl⟩ := sbOf_info e2
  obtain ⟨zl, z1, z2⟩ := Option.map_eq_some_iff.1 c2
  obtain ⟨i', zv, z3, z4, z5⟩ := zeroOf_info z1
  rw [e3] at z3
  cases z3
  have hzs : zv.cells.size = i.size := by rw [← Array.length_toList, z5, z2]
  split at h
  case h_2 => cases h
  rename_i p q e4 e5
  rw [e4] at h1; rw [e5] at h2
  simp only [VR] at h1 h2
  -- the block of a row of its own
  have blkRow : ∀ {n : Nat}, (R.hd n = .slice none 0 0 ∨ (R.hd n).ownBlock = some (R.bk n) ∧ R.root (R.bk n) = n) → ∀ b, (R.hd n).ownBlock = some b → R.root b = n ∧ b = R.bk n := fun k3 b hb => by
    rcases k3 with k3 | ⟨k3, k8⟩
    · rw [k3] at hb; cases hb
    · rw [k3] at hb; cases hb; exact ⟨k8, rfl⟩
  unfold appC at h
  split at h
  · -- onto a row or a tree of the call's own
    rename_i q' n
    have h1 : a.eval s = R.hd n := h1
    split at h
    · rename_i e' t xs S he
      split at h
      case isFalse => cases h
      rename_i hcond
      obtain ⟨rfl, d1, d2⟩ := hcond
      obtain ⟨us, k1, k2, k3⟩ := OR_cells (hs.look he)
      split at h
      · rename_i hf
        split at h
        case h_2 => cases h
        rename_i t' ys e6
        split at h
        case isFalse => cases h
        rename_i ht
        subst ht
        cases h
        obtain ⟨ad, cap, news, k4, k5, k6, k7⟩ := row_cells hs h2 e6
        have hu := (k2.mono (S' := fun _ => True) (fun _ _ => trivial)).append (k6.mono (S' := fun _ => True) (fun _ _ => trivial))
        exact app_row (Ns := [n]) (S := []) hs ho e1 e3 d1 z4 (by rw [hzs, d1]) (by rw [h1]; exact k1) (fun b hb => by rw [h1] at hb; simp [(blkRow k3 b hb).1]) k4 k6.1 k6.one' ⟨hu.1, fun j hj => Rd.flat hf (hu.2 j hj)⟩ k7
          (by simpa using d2) hnd (by simp) hc c1 hK
      · split at h
        case h_2 => cases h
        rename_i t' ys e6
        split at h
        case isFalse => cases h
        rename_i ht
        subst ht
        split at h
        case isFalse => cases h
        rename_i hn
        cases h
        obtain ⟨ad, cap, news, k4, k5, k6, k7⟩ := row_cells hs h2 e6
        exact app_row (Ns := [n]) hs ho e1 e3 d1 z4 (by rw [hzs, d1]) (by rw [h1]; exact k1) (fun b hb => by rw [h1] at hb; simp [(blkRow k3 b hb).1]) k4 k6.1 k6.one' ((k2.mono (okS.mono fun _ => uni_l)).append (k6.mono (okS.mono fun _ => uni_r))) k7
          (by simpa using d2) hnd (fun m hm => ⟨fun hm' => by simp only [List.mem_singleton] at hm'; subst hm'; exact hn.1 (by simpa using hm), fun hm' => by subst hm'; exact hn.2 (by simpa using hm)⟩) hc c1 hK
    · rename_i e' t xs he
      split at h
      case isFalse => cases h
      rename_i hcond
      obtain ⟨rfl, d1, d2⟩ := hcond
      obtain ⟨us, k1, k2, k3⟩ := OR_trL (hs.look he)
      split at h
      · rename_i m t' ys e6
        split at h
        case isFalse => cases h
        rename_i ht
        subst ht
        split at h
        case isFalse => cases h
        rename_i hn
        cases h
        unfold treeOf at e6
        split at e6
        case h_2 => cases e6
        rename_i m'
        split at e6
        case h_2 => cases e6
        rename_i e'' t'' ys'' he2
        cases e6
        obtain ⟨news, q1, q2, q3⟩ := OR_trL (hs.look he2)
        obtain ⟨ad, cap, q4, q5, q6⟩ := own_at q1
        have h2 : a.eval x = R.hd m := h2
        refine app_tree (Ns := [n, m]) (Bs := (a.eval s).ownBlock.toList ++ (a.eval x).ownBlock.toList) hs ho e1 e3 d1 z4 (by rw [hzs, d1]) (by rw [h1]; exact k1) (fun b hb => ⟨?_, by simp [hb]⟩) (by rw [h2]; exact q4) q2.len q2.rdl.one' (fun b hb => ?_) (fun R' w' b1 hk => ?_) q6 (by simp [d2, hn.2]) hnd hc c1 hK
        · rw [h1] at hb; simp [(blkRow k3 b hb).1]
        · simp only [List.mem_append, Option.mem_toList, h1, h2] at hb
          rcases hb with hb | hb
          · simp [(blkRow k3 b hb).1]
          · simp [(blkRow q3 b hb).1]
        · have nb : ∀ b, R.root b = n → b ≠ R.bk n → b ∉ (a.eval s).ownBlock.toList ++ (a.eval x).ownBlock.toList := fun b hr hb hm => by
            simp only [List.mem_append, Option.mem_toList, h1, h2] at hm
            rcases hm with hm | hm
            · exact hb (blkRow k3 b hm).2
            · have := (blkRow q3 b hm).1; rw [hr] at this; exact hn.1 this.symm
          have nb2 : ∀ b, R.root b = m → b ≠ R.bk m → b ∉ (a.eval s).ownBlock.toList ++ (a.eval x).ownBlock.toList := fun b hr hb hm => by
            simp only [List.mem_append, Option.mem_toList, h1, h2] at hm
            rcases hm with hm | hm
            · have := (blkRow k3 b hm).1; rw [hr] at this; exact hn.1 this
            · exact hb (blkRow q3 b hm).2
          refine (k2.mv fun b hr hb hlt => hk b (by simp [hr]) (nb b hr hb) hlt).append (q2.mv fun b hr hb hlt => hk b (by simp [hr]) (nb2 b hr hb) hlt) fun c c' b l k l' k' hc hc' => ?_
          have g1 := (k2.root hc (by simp [inH])).1
          have g2 := (q2.root hc' (by simp [inH])).1
          rw [g1] at g2
          exact hn.1 g2.symm
      · split at h
        case h_2 => cases h
        split at h
        case h_2 => cases h
        rename_i t' ys e6
        split at h
        case isFalse => cases h
        rename_i ht
        subst ht
        split at h
        case isFalse => cases h
        rename_i hn
        cases h
        obtain ⟨ad, cap, news, k4, k5, k6, k7⟩ := row_cells hs h2 e6
        have hus : us = [] := List.eq_nil_of_length_eq_zero (by rw [k2.len]; simp)
        subst hus
        exact app_row (Ns := [n]) (xs := []) (us := []) (S := elSrc σ q) hs ho e1 e3 d1 z4 (by rw [hzs, d1]) (by rw [h1]; exact k1) (fun b hb => by rw [h1] at hb; simp [(blkRow k3 b hb).1]) k4 k6.1 k6.one' k6 k7
          (by simpa using d2) hnd (fun m hm => ⟨fun hm' => by simp only [List.mem_singleton] at hm'; subst hm'; exact hn.1 (by simpa using hm), fun hm' => by subst hm'; exact hn.2 (by simpa using hm)⟩) (by simpa using hc) c1 hK
    · cases h
  · -- onto nothing
    rename_i q'
    have h1 : a.eval s = .slice none 0 0 := h1
    split at h
    · rename_i m t ys e6
      split at h
      case isFalse => cases h
      rename_i hn
      obtain ⟨d1, d2⟩ := hn
      cases h
      unfold treeOf at e6
      split at e6
      case h_2 => cases e6
      rename_i m'
      split at e6
      case h_2 => cases e6
      rename_i e'' t'' ys'' he2
      cases e6
      obtain ⟨news, q1, q2, q3⟩ := OR_trL (hs.look he2)
      obtain ⟨ad, cap, q4, q5, q6⟩ := own_at q1
      have h2 : a.eval x = R.hd m := h2
      refine app_tree (Ns := [m]) (Bs := (a.eval x).ownBlock.toList) (xs := []) (us := []) hs ho e1 e3 d1 z4 (by rw [hzs, d1]) (by rw [h1]; exact World.ownsRow_nil _ _ _ _) (fun b hb => by rw [h1] at hb; cases hb) (by rw [h2]; exact q4) q2.len q2.rdl.one' (fun b hb => ?_) (fun R' w' b1 hk => ?_) q6 (by simpa using d2) hnd (by simpa using hc) c1 hK
      · simp only [Option.mem_toList, h2] at hb
        simp [(blkRow q3 b hb).1]
      · exact q2.mv fun b hr hb hlt => hk b (by simp [hr]) (fun hm => by simp only [Option.mem_toList, h2] at hm; exact hb (blkRow q3 b hm).2) hlt
    · split at h
      case h_2 => cases h
      rename_i t ys e6
      split at h
      case isFalse => cases h
      rename_i d1
      obtain ⟨ad, cap, news, k4, k5, k6, k7⟩ := row_cells hs h2 e6
      split at h
      · rename_i hf
        cases h
        exact app_row (Ns := []) (xs := []) (us := []) (S := []) hs ho e1 e3 d1 z4 (by rw [hzs, d1]) (by rw [h1]; exact World.ownsRow_nil _ _ _ _) (fun b hb => by rw [h1] at hb; cases hb) k4 k6.1 k6.one' ⟨k6.1, fun j hj => Rd.flat hf (k6.2 j hj)⟩ k7
          (by simp) hnd (by simp) (by simpa using hc) c1 hK
      · split at h
        case isTrue => cases h
        rename_i hn
        cases h
        exact app_row (Ns := []) (xs := []) (us := []) (S := elSrc σ q) hs ho e1 e3 d1 z4 (by rw [hzs, d1]) (by rw [h1]; exact World.ownsRow_nil _ _ _ _) (fun b hb => by rw [h1] at hb; cases hb) k4 k6.1 k6.one' k6 k7
          (by simp) hnd (fun m hm => ⟨by simp, fun hm' => by subst hm'; exact hn (by simpa using hm)⟩) (by simpa using hc) c1 hK
  · rename_i q' n ii wd oo e' t xs
    split at h
    case h_2 => cases h
    rename_i e2' T XS he
    split at h
    case isFalse => cases h
    rename_i hcond
    obtain ⟨rfl, rfl, d1, rfl, d2, d3, d4, d5⟩ := hcond
    split at h
    case h_2 => cases h
    rename_i t' ys e6
    split at h
    case isFalse => cases h
    rename_i ht
    subst ht
    cases h
    obtain ⟨ad, cap, news, k4, k5, k6, k7⟩ := row_cells hs h2 e6
    exact app_sub hs ho e1 e3 d2 z4 (by rw [hzs, d2]) d3 d1 (hs.look he) hc.1 h1 k4 k6 k7 d4 d5 hnd hc.2 c1 hK
  · cases h
end
end Go.Proofs.Ythglggjgjlmhlaa
