/-
  The logic of trees, ninth part: stores and append.
-/
import Derived.Test.YtpngabaeekjhmaaTh
namespace Go.Proofs.Ytpngabaeekjhmaa
open Go.RowKit
set_option linter.unusedSimpArgs false
set_option linter.unusedVariables false

def aStore (P : Program) (σ : St) (t : TypeId) (p x : Operand) : Option Res :=
  match σ.ev p, cellsA (σ.ev x) with
  | .c (.po n k), some cs => match σ.look n with
    | some (.box l) => if szOf P t = some cs.length ∧ k + cs.length ≤ l.length ∧ cs.all (cvOne σ) ∧ 5 < n then
        some ⟨True, .c .bot, [n], [], [(n, .box ((splice l k cs).map (CV.kill [n] [])))]⟩ else none
    | _ => none
  | .c (.pe n i wd k), some cs => match σ.look n with
    | some (.row e t' xs S) => if szOf P t = some cs.length ∧ wd = t'.w ∧ k + cs.length ≤ t'.w ∧ cs.all (cvOne σ) ∧ 5 < n then
        match rds σ t' (splice (cellsOf S t' (xs.getD i t'.dflt)) k cs) with
        | some (y, S') => if (uni S S').contains n then none else some ⟨i < xs.length, .c .bot, [n], [], [(n, .row e t' (xs.set i y) (uni S S'))]⟩
        | none => none
      else none
    | _ => none
  | _, _ => none
section
variable {P : Program} {R0 R : Rz} {w0 w : World} {σ : St} {a : Act} {o : Oper} {K : Act → World → Prop} {Q : Exit → Act → World → Prop}
theorem wp_of_skip {w' : World} {R' : Rz} {r : Res} (hs : Sim R0 w0 R σ a w) (hrun : (execOp a.eval o).run P w = .ok .skip w')
    (hf : FR r.N r.M R w R' w') (h0 : ∀ n ∈ r.N, 5 < n) (hr : r.r = .c .bot) (hn : obsOk R' w' r.news)
    (hK : ∀ R' v w', Done R w r.N r.M r.r r.news R' v w' → K (a.put o.dst v) w') : o.wp P a w K Q := by
  unfold Oper.wp
  rw [hrun]
  exact hK _ _ _ ⟨hf, h0, by rw [hr]; simp [VR, VRc], hn⟩
theorem fr_setRow {n : Nat} {cs : Array Value} (h : R.root (R.bk n) = n) : FR [n] [] R w R (w.setRow (R.bk n) cs) := by
  refine ⟨rfl, rfl, rfl, by simp, fun b hb hr => ⟨setRow_other w _ b cs ?_, rfl⟩, fun m _ => ⟨rfl, rfl⟩⟩
  intro e
  subst e
  exact hr (by rw [h]; simp)
theorem store_run {t : TypeId} {x : Operand} {p : Operand} {g k : Nat} {cur : Array Value} {T : TypeId} (ho : o.op = .store t p x) (hp : a.eval p = .pointer (some ⟨g, k, none⟩)) (hg : w.heap[g]? = some (.cells cur T (0, 0)))
    (hsz : szOf P t = some (a.eval x).cells.size) (hl : k + (a.eval x).cells.size ≤ cur.size) (h1 : ∀ v ∈ (a.eval x).cells.toList, v.oneCell' = true) :
    (execOp a.eval o).run P w = .ok .skip (w.setRow g (splice cur.toList k (a.eval x).cells.toList).toArray) := by
  obtain ⟨i, e1, e2⟩ := szOf_info hsz
  have h2 := run_storeCells_at P g k T (a.eval x).cells.toList 0 cur w hg (by simpa using hl) h1
  simp only [Nat.add_zero] at h2
  unfold execOp
  simp only [ho, hp, Instr.storeAt, Instr.sureAddr, storeVar, Sem.run_bind, Sem.run_pure, Result.andThen_ok, sizeOf, typeInfo, run_program, e1, e2]
  simp only [ne_eq, not_true_eq_false, if_false, h2, Result.andThen_ok, splice]
theorem splice_slice (L us : List Value) (i j k w' : Nat) (hk : k + us.length ≤ w') (hL : i * w' + w' ≤ L.length) :
    ((splice L (i * w' + k) us).drop (j * w')).take w' = if j = i then splice ((L.drop (i * w')).take w') k us else (L.drop (j * w')).take w' := by
  apply List.ext_getElem?
  intro q
  by_cases hj : j = i
  · subst hj
    rw [if_pos rfl]
    by_cases hq : q < w'
    · rw [drop_take_get hq, splice_get _ _ _ (by omega), splice_get _ _ _ (by simp; omega), drop_take_get hq]
      by_cases h1 : k ≤ q ∧ q < k + us.length
      · rw [if_pos (by omega), if_pos h1]; congr 1; omega
      · rw [if_neg (by omega), if_neg h1]
    · rw [List.getElem?_eq_none (by simp; omega), List.getElem?_eq_none (by rw [splice_length _ _ _ (by simp; omega)]; simp; omega)]
  · rw [if_neg hj]
    by_cases hq : q < w'
    · rw [drop_take_get hq, drop_take_get hq, splice_get _ _ _ (by omega), if_neg]
      rintro ⟨h1, h2⟩
      rcases Nat.lt_or_gt_of_ne hj with h3 | h3
      · have := Nat.mul_le_mul_right w' h3
        rw [Nat.succ_mul] at this; omega
      · have := Nat.mul_le_mul_right w' h3
        rw [Nat.succ_mul] at this; omega
    · rw [List.getElem?_eq_none (by simp; omega), List.getElem?_eq_none (by simp; omega)]
theorem aStore_ok {t : TypeId} {p x : Operand} {r : Res} (ho : o.op = .store t p x) (h : aStore P σ t p x = some r) (hc : r.c) (hs : Sim R0 w0 R σ a w)
    (hK : ∀ R' v w', Done R w r.N r.M r.r r.news R' v w' → K (a.put o.dst v) w') : o.wp P a w K Q := by
  have h1 := hs.ev p
  have h2 := hs.ev x
  unfold aStore at h
  split at h
  · rename_i n k cs e1 e2
    rw [e1] at h1
    simp only [VR, VRc] at h1
    split at h
    case h_2 => cases h
    rename_i l e3
    split at h
    case isFalse => cases h
    rename_i hcond
    obtain ⟨c1, c2, c3, c4⟩ := hcond
    cases h
    obtain ⟨us, T, h3, h4, h5⟩ := hs.look e3
    obtain ⟨h6, h7⟩ := cellsA_ok hs h2 e2 c3
    have hl6 := h6.length
    have hl5 := h5.length
    simp only [Array.length_toList] at hl6 hl5
    have hf := fr_setRow (w := w) (cs := (splice us.toList k (a.eval x).cells.toList).toArray) h4
    have h0 : (0 : Nat) ∉ [n] := by simp; omega
    refine wp_of_skip hs (store_run ho h1 h3 (by rw [c1, hl6]) (by omega) h7) hf (by simpa using c4) rfl ?_ hK
    intro q hq
    simp only [List.mem_singleton] at hq
    subst hq
    exact ⟨_, T, setRow_heap w _ us _ T _ h3, h4, (h5.splice k h6).kill hf h0⟩
  · rename_i n i wd k cs e1 e2
    rw [e1] at h1
    simp only [VR, VRc] at h1
    split at h
    case h_2 => cases h
    rename_i e t' xs S e3
    split at h
    case isFalse => cases h
    rename_i hcond
    obtain ⟨c1, rfl, c3, c4, c5⟩ := hcond
    split at h
    case h_2 => cases h
    rename_i y S' e4
    split at h
    case isTrue => cases h
    rename_i c6
    cases h
    have hc : i < xs.length := hc
    obtain ⟨h6, h7⟩ := cellsA_ok hs h2 e2 c4
    have hl6 := h6.length
    simp only [Array.length_toList] at hl6
    rcases hs.look e3 with ⟨_, k2⟩ | ⟨cap, cur, k1, k2, k3, k4, k5, k6, k7⟩
    · subst k2; simp at hc
    have hle : i * t'.w + t'.w ≤ cur.size := by
      rw [k6, ← Nat.succ_mul]; exact Nat.mul_le_mul_right _ (by omega)
    have hf := fr_setRow (w := w) (cs := (splice cur.toList (i * t'.w + k) (a.eval x).cells.toList).toArray) k2
    have h0 : (0 : Nat) ∉ [n] := by simp; omega
    have e5 : xs.getD i t'.dflt = xs[i] := by simp [List.getD, hc]
    rw [e5] at e4
    have hnS : ∀ m ∈ uni S S', m ∉ [n] := fun m hm => by
      simp only [List.mem_singleton]
      intro e
      exact c6 (by subst e; simpa using hm)
    have hy : Rd (okS R (uni S S')) w t' (splice ((cur.toList.drop (i * t'.w)).take t'.w) k (a.eval x).cells.toList) y :=
      (rds_ok hs t' (((k7 i hc).cells).splice k h6) e4).mono (okS.mono fun _ => uni_r)
    refine wp_of_skip hs (store_run ho h1 k3 (by rw [c1, hl6]) (by omega) h7) hf (by simpa using c5) rfl ?_ hK
    intro q hq
    simp only [List.mem_singleton] at hq
    subst hq
    refine .inr ⟨cap, _, by rw [List.length_set]; exact k1, k2, setRow_heap w _ cur _ e _ k3, by rw [List.length_set]; exact k4, k5, ?_, fun j hj => ?_⟩
    · rw [← Array.length_toList, splice_length _ _ _ (by simp; omega)]; simpa using k6
    · rw [List.length_set] at hj
      simp only []
      rw [splice_slice _ _ i j k t'.w (by simp; omega) (by simpa using hle)]
      by_cases hji : j = i
      · subst hji
        rw [if_pos rfl, List.getElem_set_self]
        exact hy.fr hf h0 hnS
      · rw [if_neg hji, List.getElem_set_ne (Ne.symm hji)]
        exact ((k7 j hj).mono (okS.mono fun _ => uni_l)).fr hf h0 hnS
  · cases h

/-- The block of what append gives. -/
theorem append_run (t ty e : TypeId) (i : TypeInfo) (z : Value) (size bytes : Nat) (ht : P.underlying t = some (.slice e)) (hi : P.info? e = some i) (hz : i.zero = some z)
    (hsize : i.size = size) (hby : i.bytes = bytes) (hzs : z.cells.size = size) (hsz : 0 < size)
    (v : Value) (n : Nat) (xs : List Value) (hown : w.ownsRow 0 e size v n xs)
    (ad : Addr) (m c : Nat) (news : List Value) (hl : news.length = m * size) (hnews : ∀ j u, news[j]? = some u → w.cell? (ad.add j) = some u) (h1 : ∀ u ∈ news, u.oneCell' = true)
    (h63 : n + m ≤ maxLen) (hbytes : (n + m) * bytes ≤ 140737488355328) :
    ∃ v' w', (Builtin.append_ #[t, t] ty #[v, .slice (some ad) m c]).run P w = .ok v' w' ∧ w'.ownsRow 0 e size v' (n + m) (xs ++ news) ∧ w.grownBy w' v.ownBlock ∧
      (∀ g, v'.ownBlock = some g → v.ownBlock = some g ∨ w.heap.size ≤ g) := by
  obtain ⟨v', w', hr, h2, h3, h4⟩ := run_append_own (P := P) w 0 t ty e i z size bytes ht hi hz hsize hby hzs hsz v n xs hown ad m c news hl hnews h1 h63 hbytes (Nat.zero_le _)
  refine ⟨v', w', hr, h2, h3, fun g hg => ?_⟩
  rcases hown.2 with ⟨rfl, rfl⟩ | ⟨g0, cap, cur, rfl, _, hgg, hnc, hcm, hcs, htake⟩
  · have hx : xs = [] := List.eq_nil_of_length_eq_zero (by simpa using hown.1)
    subst hx
    obtain ⟨v2, w2, hr2, k2, _, _⟩ := run_append_own (P := P) w w.heap.size t ty e i z size bytes ht hi hz hsize hby hzs hsz _ 0 [] (World.ownsRow_nil w _ e size) ad m c news hl hnews h1 h63 hbytes (Nat.le_refl _)
    rw [hr] at hr2
    cases hr2
    exact .inr (World.ownsRow.lt k2 g hg).1
  · subst hsize
    by_cases hroom : n + m ≤ cap
    · have hfit : n * i.size + news.length ≤ cur.size := by rw [hl, hcs, ← Nat.add_mul]; exact Nat.mul_le_mul_right _ hroom
      have hr2 := run_append_room (P := P) w t ty e i ht hi g0 n cap cur hgg ad m c news hl hnews h1 hroom hfit
      rw [hr] at hr2
      cases hr2
      exact .inl hg
    · subst hby
      have holds : ∀ j u, xs[j]? = some u → w.cell? ((⟨g0, 0, none⟩ : Addr).add j) = some u := World.ownsRow.cells hown (g := g0) rfl
      have hm : n + m ≤ 9223372036854775807 := by unfold maxLen at h63; omega
      have hr2 := run_append_grow (P := P) w t ty e i z ht hi hz ⟨g0, 0, none⟩ n cap xs hown.1 holds ad m c news hl hnews (by omega) (by omega) (growslice_fits (by omega) hbytes)
      rw [hr] at hr2
      cases hr2
      right
      simp only [Value.ownBlock, Option.some.injEq] at hg
      omega
theorem Rd.one {S : Nat → Prop} {t : Ty} {us : List Value} {x : t.den} (h : Rd S w t us x) : ∀ v ∈ us, v.oneCell' = true := by
  induction t generalizing us with
  | int k => simp only [Rd] at h; subst h; simp [Value.oneCell']
  | bool => simp only [Rd] at h; subst h; simp [Value.oneCell']
  | str => simp only [Rd] at h; subst h; simp [Value.oneCell']
  | row e t ih => obtain ⟨a, cap, rfl, _⟩ := h; simp [Value.oneCell']
  | prod a b ha hb =>
    obtain ⟨u1, u2, rfl, h1, h2⟩ := h
    intro v hv
    rcases List.mem_append.1 hv with hv | hv
    · exact ha h1 v hv
    · exact hb h2 v hv
theorem RdL.one' {S : Nat → Prop} {t : Ty} {us : List Value} {xs : List t.den} (h : RdL S w t us xs) : ∀ v ∈ us, v.oneCell' = true := by
  intro v hv
  obtain ⟨q, hq, rfl⟩ := List.mem_iff_getElem.1 hv
  have hw := t.w_pos
  have h1 := h.1
  have hi : q / t.w < xs.length := by rw [Nat.div_lt_iff_lt_mul hw]; omega
  refine (h.2 _ hi).one _ ?_
  have hm := Nat.mod_lt q hw
  have e : (q / t.w) * t.w + q % t.w = q := by rw [Nat.mul_comm]; exact Nat.div_add_mod q t.w
  have : ((us.drop (q / t.w * t.w)).take t.w)[q % t.w]? = some us[q] := by
    rw [drop_take_get hm, e, List.getElem?_eq_getElem hq]
  exact List.mem_of_getElem? this
/-- The names that a slice's elements depend on, and its elements' cells. -/
def elSrc (σ : St) : CV → List Nat
  | .rd S _ _ _ => S
  | .ow n => match σ.look n with
    | some (.row _ _ _ S) => S
    | _ => []
  | _ => []
theorem row_cells (hs : Sim R0 w0 R σ a w) {p : CV} {u : Value} (hp : VRc R w p u) {e : TypeId} {t : Ty} {ys : List t.den} (h : rowOf σ p = some ⟨e, t, ys⟩) :
    ∃ ad cap news, u = .slice ad ys.length cap ∧ ys.length ≤ cap ∧ RdL (okS R (elSrc σ p)) w t news ys ∧ (ys.length = 0 ∨ ∃ ad0, ad = some ad0 ∧ ∀ j v, news[j]? = some v → w.cell? (ad0.add j) = some v) := by
  unfold rowOf at h
  split at h
  · rename_i S e' t' xs
    cases h
    obtain ⟨ad, cap, h1, h2, h3, h4⟩ := hp
    simp only [List.cons.injEq, and_true] at h1
    by_cases h0 : ys.length = 0
    · have : ys = [] := List.eq_nil_of_length_eq_zero h0
      subst this
      exact ⟨ad, cap, [], h1, h2, RdL.nil _ _ _, .inl rfl⟩
    · obtain ⟨b, q, rfl, hb, h5⟩ := h4 (by omega)
      have hw := t.w_pos
      refine ⟨_, cap, (List.range (ys.length * t.w)).map (fun j => (w.cell? ⟨b, q + j, none⟩).getD undef), h1, h2, ⟨by simp, fun i hi => ?_⟩, .inr ⟨_, rfl, fun j v hj => ?_⟩⟩
      · obtain ⟨vs, k1, k2, k3⟩ := h5 i hi
        have hle : i * t.w + t.w ≤ ys.length * t.w := by rw [← Nat.succ_mul]; exact Nat.mul_le_mul_right _ hi
        have : (((List.range (ys.length * t.w)).map (fun j => (w.cell? ⟨b, q + j, none⟩).getD undef)).drop (i * t.w)).take t.w = vs := by
          apply List.ext_getElem?
          intro j
          by_cases hj : j < t.w
          · rw [drop_take_get hj, List.getElem?_map, List.getElem?_range (by omega), Option.map_some, ← Nat.add_assoc, k2 j hj, List.getElem?_eq_getElem (by omega)]; rfl
          · rw [List.getElem?_eq_none (by simp; omega), List.getElem?_eq_none (by omega)]
        rw [this]
        exact k3
      · have hj2 : j < ys.length * t.w := by simpa using (List.getElem?_eq_some_iff.1 hj).1
        have hi : j / t.w < ys.length := by rw [Nat.div_lt_iff_lt_mul hw]; exact hj2
        obtain ⟨vs, k1, k2, k3⟩ := h5 _ hi
        have e : (j / t.w) * t.w + j % t.w = j := by rw [Nat.mul_comm]; exact Nat.div_add_mod j t.w
        have k4 := k2 (j % t.w) (Nat.mod_lt _ hw)
        rw [Nat.add_assoc, e, List.getElem?_eq_getElem (by rw [k1]; exact Nat.mod_lt _ hw)] at k4
        rw [List.getElem?_map, List.getElem?_range hj2, Option.map_some, k4] at hj
        rw [Addr.add_mid, k4]
        exact hj
  · rename_i n
    split at h
    · rename_i e' t' xs S he
      cases h
      have hsrc : elSrc σ (.ow n) = S := by simp [elSrc, he]
      rw [hsrc]
      obtain ⟨us, h1, h2, h3⟩ := OR_cells (hs.look he)
      have hu : u = R.hd n := hp
      rw [hu]
      rcases h1.2 with ⟨h4, h5⟩ | ⟨g, cap, cur, h4, h5, h6, h7, h8, h9, h10⟩
      · rw [h4]
        exact ⟨none, 0, us, by rw [h5], by omega, h2, .inl h5⟩
      · refine ⟨_, cap, us, h4, h7, h2, .inr ⟨_, rfl, fun j v hj => ?_⟩⟩
        rw [h4] at h1
        exact World.ownsRow.cells h1 (g := g) rfl j v hj
    · cases h
  · cases h
def Rz.ap (R : Rz) (n d : Nat) (v : Value) : Rz :=
  { root := fun b => if v.ownBlock = some b then d else if R.root b = n ∨ R.root b = d then 1 else R.root b
    hd := fun m => if m = d then v else R.hd m
    bk := fun m => if m = d then v.ownBlock.getD 0 else R.bk m }
theorem app_core {tt e : TypeId} {s x : Operand} {t : Ty} {xs ys : List t.den} {S S' : List Nat} {n d : Nat} {ie : TypeInfo} {z : Value} {us news : List Value} {ad : Option Addr} {cap : Nat}
    (hs : Sim R0 w0 R σ a w) (ho : o.op = .call { callee := .builtin .append, args := #[s, x], argTypes := #[tt, tt] }) (ht : P.underlying tt = some (.slice e)) (hi : P.info? e = some ie) (hsz : ie.size = t.w)
    (hz : ie.zero = some z) (hzs : z.cells.size = t.w) (hown : w.ownsRow 0 e t.w (a.eval s) xs.length us) (hru : RdL (okS R S) w t us xs) (hblk : ∀ b, (a.eval s).ownBlock = some b → R.root b = n)
    (hx : a.eval x = .slice ad ys.length cap) (hrn : RdL (okS R S') w t news ys) (hne : ys.length = 0 ∨ ∃ ad0, ad = some ad0 ∧ ∀ j v, news[j]? = some v → w.cell? (ad0.add j) = some v)
    (hn0 : 5 < n) (hd0 : 5 < d) (hS : ∀ m ∈ uni S S', m ≠ n ∧ m ≠ d) (hb : (xs.length + ys.length) * ie.bytes ≤ 140737488355328) (hb0 : ie.bytes ≠ 0)
    (hK : ∀ R' v w', Done R w [n, d] [n, d] (.c (.ow d)) [(d, .row e t (xs ++ ys) (uni S S'))] R' v w' → K (a.put o.dst v) w') : o.wp P a w K Q := by
  have h63 : xs.length + ys.length ≤ maxLen := by
    have : xs.length + ys.length ≤ (xs.length + ys.length) * ie.bytes := Nat.le_mul_of_pos_right _ (by omega)
    unfold maxLen; omega
  have key : ∃ v' w', (Builtin.append_ #[tt, tt] o.type #[a.eval s, a.eval x]).run P w = .ok v' w' ∧ w'.ownsRow 0 e t.w v' (xs.length + ys.length) (us ++ news) ∧ w.grownBy w' (a.eval s).ownBlock ∧
      (∀ g, v'.ownBlock = some g → (a.eval s).ownBlock = some g ∨ w.heap.size ≤ g) := by
    rcases hne with h0 | ⟨ad0, rfl, hcell⟩
    · have hnews : news = [] := List.eq_nil_of_length_eq_zero (by rw [hrn.1, h0]; simp)
      subst hnews
      refine ⟨a.eval s, w, ?_, by rw [h0]; simpa using hown, ⟨rfl, rfl, rfl, Nat.le_refl _, fun _ _ _ => rfl⟩, fun g hg => .inl hg⟩
      rw [hx, h0]
      rcases hown.2 with ⟨h1, h2⟩ | ⟨g, cap', cur, h1, _, h2, h3, h4, h5, h6⟩
      · rw [h1]
        cases ad <;> simp [Builtin.append_, run_underlying ht, sizeOf, typeInfo, hi, Builtin.lenOf, Builtin.firstCells, loadCells, loadCellsFrom]
      · rw [h1]
        cases ad <;> simp [Builtin.append_, run_underlying ht, sizeOf, typeInfo, hi, Builtin.lenOf, Builtin.firstCells, loadCells, loadCellsFrom, h3, storeCells]
    · rw [hx]
      exact append_run tt o.type e ie z t.w ie.bytes ht hi hz hsz rfl hzs t.w_pos _ _ us hown ad0 ys.length cap news hrn.1 hcell hrn.one' h63 hb
  obtain ⟨v', w', hr, h1, h2, h3⟩ := key
  have hrun : (execOp a.eval o).run P w = .ok (.value v') w' := by
    unfold execOp
    simp only [ho, resolve, invoke, builtin, Sem.run_bind, Sem.run_pure, Result.andThen_ok, List.map_toArray, List.map_cons, List.map_nil, hr]
  have hf : FR [n, d] [n, d] R w (R.ap n d v') w' := by
    refine ⟨h2.os, h2.tape, h2.output, h2.size, fun b hb hr => ?_, fun m hm => ?_⟩
    · simp only [List.mem_cons, List.not_mem_nil, or_false, not_or] at hr
      have h4 : (a.eval s).ownBlock ≠ some b := fun e => hr.1 (hblk b e)
      have h5 : v'.ownBlock ≠ some b := fun e => by
        rcases h3 b e with h6 | h6
        · exact h4 h6
        · omega
      exact ⟨h2.block b hb (fun e => h4 e.symm), by simp [Rz.ap, h5, hr.1, hr.2]⟩
    · simp only [List.mem_cons, List.not_mem_nil, or_false, not_or] at hm
      simp [Rz.ap, hm.2]
  have h0 : (0 : Nat) ∉ [n, d] := by simp; omega
  refine wp_of_run (r := ⟨True, .c (.ow d), [n, d], [n, d], [(d, .row e t (xs ++ ys) (uni S S'))]⟩) hs hrun hf (by simp [hn0, hd0]) (by simp [VR, VRc, Rz.ap]) ?_ hK
  intro p hp
  simp only [List.mem_singleton] at hp
  subst hp
  have hSS : ∀ m ∈ uni S S', m ∉ [n, d] := fun m hm => by simp [hS m hm]
  have hrd : RdL (okS (R.ap n d v') (uni S S')) w' t (us ++ news) (xs ++ ys) :=
    ((hru.mono (okS.mono fun _ => uni_l)).append (hrn.mono (okS.mono fun _ => uni_r))).fr hf h0 hSS
  have hlen : (xs ++ ys).length = xs.length + ys.length := by simp
  rcases h1.2 with ⟨h4, h5⟩ | ⟨g, cap', cur, h4, _, h5, h6, h7, h8, h9⟩
  · refine .inl ⟨by simp [Rz.ap, h4], ?_⟩
    exact List.eq_nil_of_length_eq_zero (by omega)
  · refine OR_row (cap := cap') (cur := cur) ?_ ?_ ?_ (by omega) h7 h8 ?_
    · simp [Rz.ap, h4, Value.ownBlock]
    · simp [Rz.ap, h4, Value.ownBlock]
    · simpa [Rz.ap, h4, Value.ownBlock] using h5
    · rw [hlen, h9]
      exact hrd

def aApp (P : Program) (σ : St) (d : Option Tmp) (tt : TypeId) (s x : Operand) : Option Res :=
  match σ.ev s, σ.ev x with
  | .c (.ow n), .c q => match σ.look n, rowOf σ q with
    | some (.row e t xs S), some ⟨_, t', ys⟩ => if h : t' = t then match P.underlying tt, sbOf P e with
        | some (.slice e'), some (sz, by_) => if e' = e ∧ sz = t.w ∧ by_ ≠ 0 ∧ 5 < n ∧ (zeroOf P e).map List.length = some t.w ∧ ¬ (uni S (elSrc σ q)).contains n ∧ ¬ (uni S (elSrc σ q)).contains (nm d) then
            some ⟨(xs.length + ys.length) * by_ ≤ 140737488355328, .c (.ow (nm d)), [n, nm d], [n, nm d], [(nm d, .row e t (xs ++ castD h ys) (uni S (elSrc σ q)))]⟩ else none
        | _, _ => none
      else none
    | _, _ => none
  | .c (.sc (.slice none 0 0)), .c q => match rowOf σ q with
    | some ⟨_, t, ys⟩ => match P.underlying tt with
        | some (.slice e) => match sbOf P e with
          | some (sz, by_) => if sz = t.w ∧ by_ ≠ 0 ∧ (zeroOf P e).map List.length = some t.w ∧ ¬ (uni [] (elSrc σ q)).contains (nm d) then
            some ⟨ys.length * by_ ≤ 140737488355328, .c (.ow (nm d)), [nm d, nm d], [nm d, nm d], [(nm d, .row e t ys (uni [] (elSrc σ q)))]⟩ else none
          | none => none
        | _ => none
    | none => none
  | _, _ => none
theorem aApp_ok {tt : TypeId} {s x : Operand} {r : Res} (ho : o.op = .call { callee := .builtin .append, args := #[s, x], argTypes := #[tt, tt] }) (h : aApp P σ o.dst tt s x = some r) (hc : r.c) (hs : Sim R0 w0 R σ a w)
    (hK : ∀ R' v w', Done R w r.N r.M r.r r.news R' v w' → K (a.put o.dst v) w') : o.wp P a w K Q := by
  have h1 := hs.ev s
  have h2 := hs.ev x
  have hnd := nm_lt o.dst
  unfold aApp at h
  split at h
  · rename_i n q e1 e2
    rw [e1] at h1; rw [e2] at h2
    simp only [VR, VRc] at h1
    simp only [VR] at h2
    split at h
    case h_2 => cases h
    rename_i e t xs S e' t' ys e3 e4
    split at h
    case isFalse => cases h
    rename_i ht
    subst ht
    split at h
    case h_2 => cases h
    rename_i e1' sz by_ e5 e6'
    split at h
    case isFalse => cases h
    rename_i hcond
    obtain ⟨rfl, c2, c3, c4, c5, c6, c7⟩ := hcond
    cases h
    obtain ⟨i, e6, rfl, rfl⟩ := sbOf_info e6'
    obtain ⟨us, k1, k2, k3⟩ := OR_cells (hs.look e3)
    obtain ⟨ad, cap, news, k4, k5, k6, k7⟩ := row_cells hs h2 e4
    obtain ⟨zl, z1, z2⟩ := Option.map_eq_some_iff.1 c5
    obtain ⟨i', zv, z3, z4, z5⟩ := zeroOf_info z1
    rw [e6] at z3
    cases z3
    refine app_core hs ho e5 e6 c2 z4 (by rw [← Array.length_toList, z5, z2]) (by rw [h1]; exact k1) k2 ?_ k4 k6 k7 c4 hnd (fun m hm => ⟨fun e => c6 (by subst e; simpa using hm), fun e => c7 (by subst e; simpa using hm)⟩) hc c3 hK
    intro b hb
    rw [h1] at hb
    rcases k3 with k3 | ⟨k3, k8⟩
    · rw [k3] at hb; cases hb
    · rw [k3] at hb; cases hb; exact k8
  · rename_i q e1 e2
    rw [e1] at h1; rw [e2] at h2
    simp only [VR, VRc] at h1
    simp only [VR] at h2
    split at h
    case h_2 => cases h
    rename_i e' t ys e4
    split at h
    case h_2 => cases h
    rename_i e e5
    split at h
    case h_2 => cases h
    rename_i sz by_ e6'
    split at h
    case isFalse => cases h
    rename_i hcond
    obtain ⟨c2, c3, c5, c7⟩ := hcond
    cases h
    obtain ⟨i, e6, rfl, rfl⟩ := sbOf_info e6'
    obtain ⟨ad, cap, news, k4, k5, k6, k7⟩ := row_cells hs h2 e4
    obtain ⟨zl, z1, z2⟩ := Option.map_eq_some_iff.1 c5
    obtain ⟨i', zv, z3, z4, z5⟩ := zeroOf_info z1
    rw [e6] at z3
    cases z3
    refine app_core (xs := []) (S := []) (us := []) hs ho e5 e6 c2 z4 (by rw [← Array.length_toList, z5, z2]) (by rw [h1]; exact World.ownsRow_nil _ _ _ _) (RdL.nil _ _ _) (fun b hb => by rw [h1] at hb; cases hb) k4 k6 k7 hnd hnd
      (fun m hm => ⟨fun e => c7 (by subst e; simpa using hm), fun e => c7 (by subst e; simpa using hm)⟩) (by simpa using hc) c3 (by simpa using hK)
  · cases h
end
end Go.Proofs.Ytpngabaeekjhmaa
