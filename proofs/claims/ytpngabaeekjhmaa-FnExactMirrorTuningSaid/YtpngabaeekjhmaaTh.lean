/-
  The logic of trees, eighth part: slice literals, stores, make, append.
-/
import Derived.Test.YtpngabaeekjhmaaTg
import Derived.Laws.MakeOwn
namespace Go.Proofs.Ytpngabaeekjhmaa
open Go.RowKit
set_option linter.unusedSimpArgs false
set_option linter.unusedVariables false

section
variable {P : Program} {R0 R : Rz} {w0 w : World} {σ : St} {a : Act} {o : Oper} {K : Act → World → Prop} {Q : Exit → Act → World → Prop}
/-- A new row lies in a new block. -/
theorem newRow_ok {n : Nat} {e : TypeId} {t : Ty} {xs : List t.den} {S : List Nat} {cap : Nat} {cur : Array Value} {w1 : World} (hs : Sim R0 w0 R σ a w) (hn : 5 < n) (hS : n ∉ S)
    (hrun : (execOp a.eval o).run P w = .ok (.value (.slice (some ⟨w.heap.size, 0, none⟩) xs.length cap)) w1) (hw1 : w1 = w.alloc (.cells cur e) ∨ w1 = w.drew.alloc (.cells cur e))
    (h4 : xs.length ≤ cap) (h5 : cap ≤ maxLen) (h6 : cur.size = cap * t.w) (h7 : RdL (okS R S) w t (cur.toList.take (xs.length * t.w)) xs)
    (hK : ∀ R' v w', Done R w [n] [n] (.c (.ow n)) [(n, .row e t xs S)] R' v w' → K (a.put o.dst v) w') : o.wp P a w K Q := by
  have hf : FR [n] [n] R w (R.nw n w.heap.size (.slice (some ⟨w.heap.size, 0, none⟩) xs.length cap)) w1 := by
    have := fr_nw R w n (.slice (some ⟨w.heap.size, 0, none⟩) xs.length cap) (.cells cur e)
    rcases hw1 with rfl | rfl
    · exact this
    · exact ⟨this.os, this.tape, this.output, this.size, this.keep, this.hd⟩
  have hg : w1.heap[w.heap.size]? = some (.cells cur e (0, 0)) := by
    rcases hw1 with rfl | rfl
    · exact heap_alloc_new w _
    · exact heap_alloc_new w.drew _
  have h0 : (0 : Nat) ∉ [n] := by simp; omega
  refine wp_of_run (r := ⟨True, .c (.ow n), [n], [n], [(n, .row e t xs S)]⟩) hs hrun hf (by simpa using hn) (by simp [VR, VRc, Rz.nw]) ?_ hK
  intro p hp
  simp only [List.mem_singleton] at hp
  subst hp
  refine OR_row (cap := cap) (cur := cur) (by simp [Rz.nw]) (by simp [Rz.nw]) (by simpa [Rz.nw] using hg) h4 h5 h6 (h7.fr hf h0 (fun m hm => ?_))
  simp only [List.mem_singleton]
  exact fun e => hS (e ▸ hm)
theorem aLit_ok {G : TypeId → Option Ty} {tt : TypeId} {len : Nat} {parts : Array (Nat × Operand)} {r : Res} (ho : o.op = .buildSlice tt len parts) (h : aLit P G σ o.dst tt len parts.toList = some r) (hs : Sim R0 w0 R σ a w)
    (hK : ∀ R' v w', Done R w r.N r.M r.r r.news R' v w' → K (a.put o.dst v) w') : o.wp P a w K Q := by
  unfold aLit at h
  split at h
  case h_2 => cases h
  rename_i e e1
  split at h
  case h_2 => cases h
  rename_i t e2
  split at h
  case isFalse => cases h
  rename_i hc
  obtain ⟨c1, c2, c3, c4, c5⟩ := hc
  split at h
  case h_2 => cases h
  rename_i xs S e3
  split at h
  · cases h
  rename_i hS
  cases h
  obtain ⟨ie, i1, i2⟩ := szOf_info c1
  obtain ⟨z, hz⟩ := Option.isSome_iff_exists.1 c5
  obtain ⟨i', zv, i3, i4, i5⟩ := zeroOf_info hz
  rw [i1] at i3
  cases i3
  have hxl := elems_length e3
  simp only [List.length_map] at hxl
  have hw := t.w_pos
  have hlen : xs.length = len := by omega
  have hm : 2 ^ 24 ≤ maxLen := by unfold maxLen; decide
  have hle : len ≤ len * t.w := Nat.le_mul_of_pos_right len hw
  have hn := nm_lt o.dst
  obtain ⟨us', k1, k2, k3, k4⟩ := lit_fill hs t parts.toList 0 xs S ((Array.range (len * t.w)).map (zv.cells[· % zv.cells.size]!)) e3 (by rw [c3, c2, List.range_eq_range']) (by simp [← c2])
  simp only [Nat.zero_mul, List.drop_zero] at k4
  rw [← c2, ← hlen] at k4
  refine newRow_ok (cap := len) (cur := us') (w1 := w.alloc (.cells us' e)) hs hn (by simpa using hS) ?_ (.inl rfl) (by omega) (by omega) (by rw [k2]; simp) k4 hK
  unfold execOp
  rw [hlen]
  by_cases h0 : len = 0
  · have hp : parts = #[] := by
      apply Array.ext'
      apply List.eq_nil_of_length_eq_zero
      omega
    subst h0
    subst hp
    simp only [List.map_nil, Instr.fill, Option.some.injEq] at k1
    have hz0 : Array.range 0 = #[] := rfl
    simp [ho, Instr.buildSlice, run_underlying e1, sizeOf, typeInfo, i1, i2, newRow, Instr.fill, ← k1, hz0]
  · have hpos : ¬ len * ie.size = 0 := by rw [i2]; omega
    have hsm : ¬ len * ie.size > 2 ^ 24 := by rw [i2]; omega
    have := run_buildSlice (P := P) w tt e len (parts.map fun (i, x) => (i, a.eval x)) us' ie zv e1 i1 i4 hsm hpos (by
      rw [i2, ← k1]
      congr 1
      simp)
    simp only [ho, Sem.run_bind, this]
    simp

/-- How many cells and bytes a type has. -/
def sbOf (P : Program) (t : TypeId) : Option (Nat × Nat) := (P.info? t).map fun i => (i.size, i.bytes)
theorem sbOf_info {P : Program} {t : TypeId} {s b : Nat} (h : sbOf P t = some (s, b)) : ∃ i, P.info? t = some i ∧ i.size = s ∧ i.bytes = b := by
  cases hq : P.info? t with
  | none => simp [sbOf, hq] at h
  | some i => simp [sbOf, hq] at h; exact ⟨i, rfl, h.1, h.2⟩
def aMake (P : Program) (G : TypeId → Option Ty) (σ : St) (d : Option Tmp) (tt : TypeId) (x y : Operand) : Option Res :=
  match σ.ev x, σ.ev y with
  | .c (.sc (.int _ n)), .c (.sc (.int _ m)) => match P.underlying tt with
    | some (.slice e) => match G e, sbOf P e with
      | some t, some (sz, by_) => if sz = t.w then
          some ⟨m = n ∧ zeroOf P e = some (dfltCells t) ∧ 0 ≤ n ∧ (by_ : Int) * n ≤ 281474976710656 ∧ n ≤ 9223372036854775807, .c (.ow (nm d)), [nm d], [nm d], [(nm d, .row e t (List.replicate n.toNat t.dflt) [])]⟩
        else none
      | _, _ => none
    | _ => none
  | _, _ => none
theorem dfltCells_length (t : Ty) : (dfltCells t).length = t.w := by
  induction t with
  | prod a b ha hb => simp [dfltCells, Ty.w, ha, hb]
  | _ => simp [dfltCells, Ty.w]
theorem made_flat (l : List Value) (hl : 0 < l.length) (n : Nat) (z : Array Value) (hz : z.toList = l) : (madeCells z (n * l.length)).toList = (List.replicate n l).flatten := by
  have hsz : z.size = l.length := by rw [← hz]; simp
  apply List.ext_getElem?
  intro q
  unfold madeCells
  rw [hsz]
  by_cases hq : q < n * l.length
  · have e1 : ((Array.range (n * l.length)).map (z[· % l.length]!)).toList[q]? = l[q % l.length]? := by
      have hm : q % l.length < z.size := by rw [hsz]; exact Nat.mod_lt _ hl
      have hm2 : q % l.length < l.length := Nat.mod_lt _ hl
      simp only [Array.toList_map, Array.toList_range, List.getElem?_map, List.getElem?_range hq, Option.map_some]
      rw [List.getElem?_eq_getElem hm2, getElem!_pos z _ hm]
      congr 1
      have : z[q % l.length] = z.toList[q % l.length]'(by simpa using hm) := by simp
      rw [this]; congr 1
    rw [e1]
    clear e1
    induction n generalizing q with
    | zero => simp at hq
    | succ n ih =>
      rw [List.replicate_succ, List.flatten_cons]
      by_cases h1 : q < l.length
      · rw [List.getElem?_append_left h1, Nat.mod_eq_of_lt h1]
      · rw [List.getElem?_append_right (by omega), ← ih (q - l.length) (by rw [Nat.add_mul] at hq; omega)]
        congr 1
        rw [Nat.mod_eq_sub_mod (by omega)]
  · rw [List.getElem?_eq_none (by simp; omega), List.getElem?_eq_none (by simp; omega)]
theorem aMake_ok {G : TypeId → Option Ty} {tt : TypeId} {x y : Operand} {r : Res} (ho : o.op = .makeSlice tt x y) (h : aMake P G σ o.dst tt x y = some r) (hc : r.c) (hs : Sim R0 w0 R σ a w)
    (hK : ∀ R' v w', Done R w r.N r.M r.r r.news R' v w' → K (a.put o.dst v) w') : o.wp P a w K Q := by
  have h1 := hs.ev x
  have h2 := hs.ev y
  unfold aMake at h
  split at h
  case h_2 => cases h
  rename_i k n k' m e1 e2
  rw [e1] at h1; rw [e2] at h2
  simp only [VR, VRc] at h1 h2
  split at h
  case h_2 => cases h
  rename_i e e3
  split at h
  case h_2 => cases h
  rename_i t sz by_ e4 e5'
  split at h
  case isFalse => cases h
  rename_i e6
  cases h
  obtain ⟨rfl, c2, c3, c4, c5⟩ := hc
  obtain ⟨i, zv, i1, i2, i3⟩ := zeroOf_info c2
  obtain ⟨i', e5, i5, rfl⟩ := sbOf_info e5'
  rw [e5] at i1
  cases i1
  subst e6
  have hlz : zv.cells.size = t.w := by rw [← Array.length_toList, i3, dfltCells_length]
  have hml : 9223372036854775807 = maxLen := rfl
  have hr := run_make (P := P) w tt e i zv e3 e5 i2 k k' m m c3 (Int.le_refl _) c4 c5
  have hn := nm_lt o.dst
  have hw := t.w_pos
  have hfl : (madeCells zv.cells (m.toNat * i.size)).toList = (List.replicate m.toNat (dfltCells t)).flatten := by
    have := made_flat (dfltCells t) (by rw [dfltCells_length]; exact hw) m.toNat zv.cells i3
    rwa [dfltCells_length, ← i5] at this
  refine newRow_ok (cap := m.toNat) (cur := madeCells zv.cells (m.toNat * i.size)) hs hn (by simp) ?_ (.inl rfl) (by simp) (by rw [← hml]; omega) (by rw [size_madeCells, i5]) ?_ hK
  · unfold execOp
    simp only [ho, h1, h2, Sem.run_bind, hr]
    simp
  · rw [List.take_of_length_le (by rw [Array.length_toList, size_madeCells, i5]; simp), hfl]
    exact RdL.replicate _
end
end Go.Proofs.Ytpngabaeekjhmaa
