/-
  The logic of trees, eighth part: slice literals, stores, make, append.
-/
import Derived.Test.YthglggjgjlmhlaaGg
import Derived.Laws.MakeOwn
namespace Go.Proofs.Ythglggjgjlmhlaa
open Go.RowKit
set_option linter.unusedSimpArgs false
set_option linter.unusedVariables false

section
variable {P : Program} {R0 R : Rz} {w0 w : World} {σ : St} {a : Act} {o : Oper} {K : Act → World → Prop} {Q : Exit → Act → World → Prop}
/-- A new row lies in a new block. -/
theorem newRow_ok {n : Nat} {e : TypeId} {t : Ty} {xs : List t.den} {S : List Nat} {cap : Nat} {cur : Array Value} {w1 : World} (hs : Sim R0 w0 R σ a w) (hn : 100 ≤ n) (hS : n ∉ S)
    (hrun : (execOp a.eval o).run P w = .ok (.value (.slice (some ⟨w.heap.size, 0, none⟩) xs.length cap)) w1) (hw1 : w1 = w.alloc (.cells cur e) ∨ w1 = w.drew.alloc (.cells cur e))
    (h4 : xs.length ≤ cap) (h5 : cap ≤ maxLen) (h6 : cur.size = cap * t.w) (h7 : RdL (okS R S) w t (cur.toList.take (xs.length * t.w)) xs)
    (hK : ∀ R' v w', Done R w [n] [n] (.c (.ow n)) [(n, .row e t xs S)] R' v w' → K (a.put o.dst v) w') : o.wp P a w K Q := by
  have hf : FR [n] [n] R w (R.nw n w.heap.size (.slice (some ⟨w.heap.size, 0, none⟩) xs.length cap)) w1 := by
    have := fr_nw R w n hn (.slice (some ⟨w.heap.size, 0, none⟩) xs.length cap) (.cells cur e)
    rcases hw1 with rfl | rfl
    · exact this
    · exact ⟨this.os, this.tape, this.output, this.size, this.keep, this.hd, this.lo⟩
  have hg : w1.heap[w.heap.size]? = some (.cells cur e (0, 0)) := by
    rcases hw1 with rfl | rfl
    · exact heap_alloc_new w _
    · exact heap_alloc_new w.drew _
  have h0 : (0 : Nat) ∉ [n] := by simp; omega
  refine wp_of_run (r := ⟨True, .c (.ow n), [n], [n], [(n, .row e t xs S)]⟩) hs hrun hf (by simp; omega) (by simp [VR, VRc, Rz.nw]) ?_ hK
  intro p hp
  simp only [List.mem_singleton] at hp
  subst hp
  refine OR_row (cap := cap) (cur := cur) (by simp [Rz.nw]) (by simp [Rz.nw]) (by simpa [Rz.nw] using hg) h4 h5 h6 (h7.fr hf h0 (fun m hm => ?_))
  simp only [List.mem_singleton]
  exact fun e => hS (e ▸ hm)
/-- A new block b of the name n, into which rows of the names ms have moved. -/
def Rz.nwT (R : Rz) (n b : Nat) (v : Value) (ms : List Nat) : Rz :=
  { root := fun x => if x = b then n else if R.root x ∈ ms then n else if R.root x = n then 1 else R.root x
    hd := fun m => if m = n then v else R.hd m
    bk := fun m => if m = n then b else R.bk m }
theorem fr_nwT (R : Rz) (w : World) (n : Nat) (hn : 100 ≤ n) (v : Value) (o : Obj) (ms : List Nat) : FR (n :: ms) (n :: ms) R w (R.nwT n w.heap.size v ms) (w.alloc o) := by
  refine ⟨rfl, rfl, rfl, by simp, fun b hb hr => ⟨heap_alloc_old w o hb, ?_⟩, fun m hm => ?_, fun m hm => ?_⟩
  · have h1 : b ≠ w.heap.size := by omega
    simp only [List.mem_cons, not_or] at hr
    simp [Rz.nwT, h1, hr.1, hr.2]
  · simp only [List.mem_cons, not_or] at hm
    simp [Rz.nwT, hm.1]
  · have : m ≠ n := by omega
    simp [Rz.nwT, this]
/-- A new tree lies in a new block. -/
theorem newTree_ok {n : Nat} {e : TypeId} {t : Ty} {xs : List t.den} {ms : List Nat} {cap : Nat} {cur : Array Value} {w1 : World} (hs : Sim R0 w0 R σ a w) (hn : 100 ≤ n) (hms : ∀ m ∈ ms, 5 < m)
    (hrun : (execOp a.eval o).run P w = .ok (.value (.slice (some ⟨w.heap.size, 0, none⟩) xs.length cap)) w1) (hw1 : w1 = w.alloc (.cells cur e))
    (h4 : xs.length ≤ cap) (h5 : cap ≤ maxLen) (h6 : cur.size = cap * t.w)
    (h7 : ∀ (R' : Rz), (∀ b, R.root b ∈ ms → b < w.heap.size → w1.heap[b]? = w.heap[b]? ∧ R'.root b = n ∧ b ≠ w.heap.size) → TrL R' w1 n w.heap.size t none (cur.toList.take (xs.length * t.w)) xs)
    (hK : ∀ R' v w', Done R w (n :: ms) (n :: ms) (.c (.ow n)) [(n, .tree e t xs none)] R' v w' → K (a.put o.dst v) w') : o.wp P a w K Q := by
  subst hw1
  have hf := fr_nwT R w n hn (.slice (some ⟨w.heap.size, 0, none⟩) xs.length cap) (.cells cur e) ms
  have hg : (w.alloc (.cells cur e)).heap[w.heap.size]? = some (.cells cur e (0, 0)) := heap_alloc_new w _
  refine wp_of_run (r := ⟨True, .c (.ow n), n :: ms, n :: ms, [(n, .tree e t xs none)]⟩) hs hrun hf (fun m hm => ?_) (by simp [VR, VRc, Rz.nwT]) ?_ hK
  · rcases List.mem_cons.1 hm with rfl | hm
    · omega
    · exact hms m hm
  intro p hp
  simp only [List.mem_singleton] at hp
  subst hp
  have eb : (R.nwT n w.heap.size (.slice (some ⟨w.heap.size, 0, none⟩) xs.length cap) ms).bk n = w.heap.size := by simp [Rz.nwT]
  refine OR_tree (cap := cap) (cur := cur) (by rw [eb]; simp [Rz.nwT]) (by rw [eb]; simp [Rz.nwT]) (by rw [eb]; exact hg) h4 h5 h6 ?_
  rw [eb]
  refine h7 _ fun b hb hlt => ⟨heap_alloc_old w _ hlt, ?_, by omega⟩
  have : b ≠ w.heap.size := by omega
  simp [Rz.nwT, this, hb]
theorem aLit_ok {G : TypeId → Option Ty} {tt : TypeId} {len : Nat} {parts : Array (Nat × Operand)} {r : Res} (ho : o.op = .buildSlice tt len parts) (h : aLit P G σ o.dst tt len parts.toList = some r) (hs : Sim R0 w0 R σ a w)
    (hK : ∀ R' v w', Done R w r.N r.M r.r r.news R' v w' → K (a.put o.dst v) w') : o.wp P a w K Q := by
  unfold aLit at h
  split at h
  case h_2 => cases h
  rename_i e e1
  split at h
  case h_2 => cases h
  rename_i t e2
  split at h
  case isFalse => cases h
  rename_i hc
  obtain ⟨c1, c2, c3, c4, c5⟩ := hc
  obtain ⟨ie, i1, i2⟩ := szOf_info c1
  obtain ⟨z, hz⟩ := Option.isSome_iff_exists.1 c5
  obtain ⟨i', zv, i3, i4, i5⟩ := zeroOf_info hz
  rw [i1] at i3
  cases i3
  have hw := t.w_pos
  have hm : 2 ^ 24 ≤ maxLen := by unfold maxLen; decide
  have hle : len ≤ len * t.w := Nat.le_mul_of_pos_right len hw
  have hn := nm_ge o.dst
  have core : (∀ p ∈ parts.toList, (a.eval p.2).cells.size = t.w) → ∃ us' : Array Value, us'.size = len * t.w ∧ us'.toList = (parts.toList.map fun p => (a.eval p.2).cells.toList).flatten ∧
      (execOp a.eval o).run P w = .ok (.value (.slice (some ⟨w.heap.size, 0, none⟩) len len)) (w.alloc (.cells us' e)) := fun hsz => by
    obtain ⟨us', k1, k2, k3, k4⟩ := lit_cells (a := a) t.w parts.toList 0 ((Array.range (len * t.w)).map (zv.cells[· % zv.cells.size]!)) hsz (by rw [c3, c2, List.range_eq_range']) (by simp [← c2])
    simp only [Nat.zero_mul, List.drop_zero] at k4
    have hus : us'.size = len * t.w := by rw [k2]; simp
    rw [← c2, List.take_of_length_le (by rw [Array.length_toList, hus]; exact Nat.le_refl _)] at k4
    refine ⟨us', hus, k4, ?_⟩
    unfold execOp
    by_cases h0 : len = 0
    · have hp : parts = #[] := by
        apply Array.ext'
        apply List.eq_nil_of_length_eq_zero
        omega
      subst h0
      subst hp
      simp only [List.map_nil, Instr.fill, Option.some.injEq] at k1
      have hz0 : Array.range 0 = #[] := rfl
      simp [ho, Instr.buildSlice, run_underlying e1, sizeOf, typeInfo, i1, i2, newRow, Instr.fill, ← k1, hz0]
    · have hpos : ¬ len * ie.size = 0 := by rw [i2]; intro h; rcases Nat.mul_eq_zero.1 h with h | h <;> omega
      have hsm : ¬ len * ie.size > 2 ^ 24 := by rw [i2]; omega
      have := run_buildSlice (P := P) w tt e len (parts.map fun (i, x) => (i, a.eval x)) us' ie zv e1 i1 i4 hsm hpos (by
        rw [i2, ← k1]
        congr 1
        simp)
      simp only [ho, Sem.run_bind, this]
      simp
  have rowCase : ∀ {xs : List t.den} {S S' : List Nat}, elems σ t (parts.toList.map fun p => σ.ev p.2) = some (xs, S) → (∀ us, RdL (okS R S) w t us xs → RdL (okS R S') w t us xs) → nm o.dst ∉ S' → r = ⟨True, .c (.ow (nm o.dst)), [nm o.dst], [nm o.dst], [(nm o.dst, .row e t xs S')]⟩ → o.wp P a w K Q := by
    intro xs S S' h3 hS hn' hr
    subst hr
    obtain ⟨k1, k2, k3⟩ := elems_rdl hs t parts.toList xs S h3
    obtain ⟨us', q1, q2, q3⟩ := core k3
    have hxl : xs.length = len := by rw [k2, c2]
    refine newRow_ok (cap := len) (cur := us') (w1 := w.alloc (.cells us' e)) hs hn hn' (by rw [hxl]; exact q3) (.inl rfl) (by omega) (by omega) q1 ?_ hK
    rw [hxl, List.take_of_length_le (by rw [Array.length_toList, q1]; exact Nat.le_refl _), q2]
    exact hS _ k1
  split at h
  · rename_i hf
    split at h
    case h_2 => cases h
    rename_i xs S e3
    cases h
    exact rowCase e3 (fun us hu => ⟨hu.1, fun i hi => Rd.flat hf (hu.2 i hi)⟩) (by simp) rfl
  · split at h
    · rename_i xs ms e3
      split at h
      case isFalse => cases h
      rename_i hcond
      obtain ⟨d1, d2, d3⟩ := hcond
      cases h
      have hlen := elemsT_len hs t parts.toList xs ms e3
      obtain ⟨us', q1, q2, q3⟩ := core hlen.2
      have hxl : xs.length = len := by rw [hlen.1, c2]
      refine newTree_ok (cap := len) (cur := us') (w1 := w.alloc (.cells us' e)) hs hn (fun m hm => by simpa using List.all_eq_true.1 d3 m hm) (by rw [hxl]; exact q3) rfl (by omega) (by omega) q1 (fun R' hk => ?_) hK
      rw [hxl, List.take_of_length_le (by rw [Array.length_toList, q1]; exact Nat.le_refl _), q2]
      exact (elemsT_trl hs t ms hk parts.toList xs ms e3 d1 (fun m hm => hm)).1
    · split at h
      case h_2 => cases h
      rename_i xs S e3
      split at h
      · cases h
      rename_i hS
      cases h
      exact rowCase e3 (fun us hu => hu) (by simpa using hS) rfl

/-- How many cells and bytes a type has. -/
def sbOf (P : Program) (t : TypeId) : Option (Nat × Nat) := (P.info? t).map fun i => (i.size, i.bytes)
theorem sbOf_info {P : Program} {t : TypeId} {s b : Nat} (h : sbOf P t = some (s, b)) : ∃ i, P.info? t = some i ∧ i.size = s ∧ i.bytes = b := by
  cases hq : P.info? t with
  | none => simp [sbOf, hq] at h
  | some i => simp [sbOf, hq] at h; exact ⟨i, rfl, h.1, h.2⟩
/-- Types whose slices hold flat elements. -/
def Ty.ok2 : Ty → Bool
  | .row _ t => t.flat
  | .prod a b => a.ok2 && b.ok2
  | _ => true
def aMake (P : Program) (G : TypeId → Option Ty) (σ : St) (d : Option Tmp) (tt : TypeId) (x y : Operand) : Option Res :=
  match σ.ev x, σ.ev y with
  | .c (.sc (.int _ n)), .c (.sc (.int _ m)) => match P.underlying tt with
    | some (.slice e) => match G e, sbOf P e with
      | some t, some (sz, by_) => if sz = t.w then match t.flat with
          | true => some ⟨m = n ∧ zeroOf P e = some (dfltCells t) ∧ 0 ≤ n ∧ (by_ : Int) * n ≤ 281474976710656 ∧ n ≤ 9223372036854775807, .c (.ow (nm d)), [nm d], [nm d], [(nm d, .row e t (List.replicate n.toNat t.dflt) [])]⟩
          | false => if t.ok2 then some ⟨m = n ∧ zeroOf P e = some (dfltCells t) ∧ 0 ≤ n ∧ (by_ : Int) * n ≤ 281474976710656 ∧ n ≤ 9223372036854775807, .c (.ow (nm d)), [nm d], [nm d], [(nm d, .tree e t (List.replicate n.toNat t.dflt) none)]⟩ else none
        else none
      | _, _ => none
    | _ => none
  | _, _ => none
theorem dfltCells_length (t : Ty) : (dfltCells t).length = t.w := by
  induction t with
  | prod a b ha hb => simp [dfltCells, Ty.w, ha, hb]
  | _ => simp [dfltCells, Ty.w]
theorem made_flat (l : List Value) (hl : 0 < l.length) (n : Nat) (z : Array Value) (hz : z.toList = l) : (madeCells z (n * l.length)).toList = (List.replicate n l).flatten := by
  have hsz : z.size = l.length := by rw [← hz]; simp
  apply List.ext_getElem?
  intro q
  unfold madeCells
  rw [hsz]
  by_cases hq : q < n * l.length
  · have e1 : ((Array.range (n * l.length)).map (z[· % l.length]!)).toList[q]? = l[q % l.length]? := by
      have hm : q % l.length < z.size := by rw [hsz]; exact Nat.mod_lt _ hl
      have hm2 : q % l.length < l.length := Nat.mod_lt _ hl
      simp only [Array.toList_map, Array.toList_range, List.getElem?_map, List.getElem?_range hq, Option.map_some]
      rw [List.getElem?_eq_getElem hm2, getElem!_pos z _ hm]
      congr 1
      have : z[q % l.length] = z.toList[q % l.length]'(by simpa using hm) := by simp
      rw [this]; congr 1
    rw [e1]
    clear e1
    induction n generalizing q with
    | zero => simp at hq
    | succ n ih =>
      rw [List.replicate_succ, List.flatten_cons]
      by_cases h1 : q < l.length
      · rw [List.getElem?_append_left h1, Nat.mod_eq_of_lt h1]
      · rw [List.getElem?_append_right (by omega), ← ih (q - l.length) (by rw [Nat.add_mul] at hq; omega)]
        congr 1
        rw [Nat.mod_eq_sub_mod (by omega)]
  · rw [List.getElem?_eq_none (by simp; omega), List.getElem?_eq_none (by simp; omega)]
theorem dflt_noptr (t : Ty) : ∀ v ∈ dfltCells t, ∀ b l k, v ≠ .slice (some b) l k := by
  induction t with
  | prod a b ha hb =>
    intro v hv
    simp only [dfltCells, List.mem_append] at hv
    rcases hv with hv | hv
    · exact ha v hv
    · exact hb v hv
  | _ => intro v hv b l k h; simp only [dfltCells, List.mem_singleton] at hv; rw [hv] at h; cases h
theorem ElO.dflt {R : Rz} {w : World} {n : Nat} : ∀ {t : Ty}, t.ok2 = true → ElO R w n t (dfltCells t) t.dflt := by
  intro t
  induction t with
  | prod a b ha hb =>
    intro h
    simp only [Ty.ok2, Bool.and_eq_true] at h
    exact ⟨_, _, rfl, ha h.1, hb h.2⟩
  | row e t ih => intro h; exact ⟨h, _, rfl, .inl ⟨rfl, rfl⟩⟩
  | _ => intro _; rfl
theorem TrL.replicate {R : Rz} {w : World} {n b0 : Nat} {t : Ty} (h : t.ok2 = true) (k : Nat) : TrL R w n b0 t none ((List.replicate k (dfltCells t)).flatten) (List.replicate k t.dflt) := by
  have no : ∀ v ∈ (List.replicate k (dfltCells t)).flatten, ∀ b l q, v ≠ .slice (some b) l q := fun v hv => by
    obtain ⟨l, h1, h2⟩ := List.mem_flatten.1 hv
    rw [(List.mem_replicate.1 h1).2] at h2
    exact dflt_noptr t v h2
  refine ⟨?_, fun i hi _ => ?_, fun c b l q hc hh hcell => absurd rfl (no _ (List.mem_of_getElem? hcell) _ _ _)⟩
  · have := (RdL.replicate (S := fun _ => True) (w := w) (t := t) k).1
    simpa using this
  · have h0 : i < k := by simpa using hi
    have e : ((List.replicate k (dfltCells t)).flatten.drop (i * t.w)).take t.w = dfltCells t := by
      clear no hi
      induction k generalizing i with
      | zero => omega
      | succ k ih =>
        rw [List.replicate_succ, List.flatten_cons]
        cases i with
        | zero => rw [Nat.zero_mul, List.drop_zero, List.take_append_of_le_length (by rw [dfltCells_length]; exact Nat.le_refl _), List.take_of_length_le (by rw [dfltCells_length]; exact Nat.le_refl _)]
        | succ i =>
          have e2 : (i + 1) * t.w = (dfltCells t).length + i * t.w := by rw [dfltCells_length, Nat.add_mul]; omega
          rw [e2, ← List.drop_drop, List.drop_left]
          exact ih i (by simp [inH]) (by omega)
    rw [e, List.getElem_replicate]
    exact ElO.dflt h
theorem aMake_ok {G : TypeId → Option Ty} {tt : TypeId} {x y : Operand} {r : Res} (ho : o.op = .makeSlice tt x y) (h : aMake P G σ o.dst tt x y = some r) (hc : r.c) (hs : Sim R0 w0 R σ a w)
    (hK : ∀ R' v w', Done R w r.N r.M r.r r.news R' v w' → K (a.put o.dst v) w') : o.wp P a w K Q := by
  have h1 := hs.ev x
  have h2 := hs.ev y
  unfold aMake at h
  split at h
  case h_2 => cases h
  rename_i k n k' m e1 e2
  rw [e1] at h1; rw [e2] at h2
  simp only [VR, VRc] at h1 h2
  split at h
  case h_2 => cases h
  rename_i e e3
  split at h
  case h_2 => cases h
  rename_i t sz by_ e4 e5'
  split at h
  case isFalse => cases h
  rename_i e6
  have hc' : m = n ∧ zeroOf P e = some (dfltCells t) ∧ 0 ≤ n ∧ (by_ : Int) * n ≤ 281474976710656 ∧ n ≤ 9223372036854775807 := by
    split at h
    · cases h; exact hc
    · split at h
      · cases h; exact hc
      · cases h
  obtain ⟨rfl, c2, c3, c4, c5⟩ := hc'
  obtain ⟨i, zv, i1, i2, i3⟩ := zeroOf_info c2
  obtain ⟨i', e5, i5, rfl⟩ := sbOf_info e5'
  rw [e5] at i1
  cases i1
  subst e6
  have hlz : zv.cells.size = t.w := by rw [← Array.length_toList, i3, dfltCells_length]
  have hml : 9223372036854775807 = maxLen := rfl
  have hr := run_make (P := P) w tt e i zv e3 e5 i2 k k' m m c3 (Int.le_refl _) c4 c5
  have hn := nm_ge o.dst
  have hw := t.w_pos
  have hfl : (madeCells zv.cells (m.toNat * i.size)).toList = (List.replicate m.toNat (dfltCells t)).flatten := by
    have := made_flat (dfltCells t) (by rw [dfltCells_length]; exact hw) m.toNat zv.cells i3
    rwa [dfltCells_length, ← i5] at this
  have hexec : (execOp a.eval o).run P w = .ok (.value (.slice (some ⟨w.heap.size, 0, none⟩) m.toNat m.toNat)) (w.alloc (.cells (madeCells zv.cells (m.toNat * i.size)) e)) := by
    unfold execOp
    simp only [ho, h1, h2, Sem.run_bind, hr]
    simp
  split at h
  · cases h
    refine newRow_ok (cap := m.toNat) (cur := madeCells zv.cells (m.toNat * i.size)) hs hn (by simp) (by rw [hexec]; simp) (.inl rfl) (by simp) (by rw [← hml]; omega) (by rw [size_madeCells, i5]) ?_ hK
    rw [List.take_of_length_le (by rw [Array.length_toList, size_madeCells, i5]; simp), hfl]
    exact RdL.replicate _
  · split at h
    case isFalse => cases h
    rename_i hok
    cases h
    refine newTree_ok (ms := []) (cap := m.toNat) (cur := madeCells zv.cells (m.toNat * i.size)) hs hn (by simp) (by rw [hexec]; simp) rfl (by simp) (by rw [← hml]; omega) (by rw [size_madeCells, i5]) (fun R' _ => ?_) hK
    rw [List.take_of_length_le (by rw [Array.length_toList, size_madeCells, i5]; simp), hfl]
    exact TrL.replicate hok _
end
end Go.Proofs.Ythglggjgjlmhlaa
