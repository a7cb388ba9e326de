/-
 Slices of numbers in memory: 'Nums k w v xs': in the world w the slice v reads as the list xs; 'Own w base v xs': it is a slice of int64 of the call's own (in a block from base on).
-/
import Derived.Test.YtflaacndokbddaaDoorLib
import Derived.Test.YtflaacndokbddaaDoorRows
namespace Go.Proofs.YtflaacndokbddaaDoor
open Go.RowKit

def InR (xs : List Int) : Prop := ∀ x ∈ xs, -9223372036854775808 ≤ x ∧ x ≤ 9223372036854775807
theorem InR.getD {xs : List Int} (h : InR xs) (i : Nat) : -9223372036854775808 ≤ xs.getD i 0 ∧ xs.getD i 0 ≤ 9223372036854775807 := by
 by_cases hi : i < xs.length
 · have e : xs.getD i 0 = xs[i] := by simp [List.getD, hi]
   rw [e]; exact h _ (List.getElem_mem hi)
 · have e : xs.getD i 0 = 0 := by simp [List.getD, List.getElem?_eq_none (Nat.le_of_not_lt hi)]
   rw [e]; omega

def Nums (k : IntKind) (w : World) (v : Value) (xs : List Int) : Prop :=
 xs.length ≤ 9223372036854775807 ∧ ∃ a cap, v = .slice a xs.length cap ∧ (0 < xs.length → ∃ b off, a = some ⟨b, off, none⟩ ∧ ∀ i, i < xs.length → w.cell? ⟨b, off + i, none⟩ = some (.int k (xs.getD i 0)))
abbrev Ints (w : World) (v : Value) (xs : List Int) : Prop := Nums .i64 w v xs

theorem Nums.below {k : IntKind} {w w' : World} {v : Value} {xs : List Int} (h : Nums k w v xs) (hb : Below w.heap.size w w') : Nums k w' v xs := by
 obtain ⟨hl, a, cap, hv, hc⟩ := h
 refine ⟨hl, a, cap, hv, fun h0 => ?_⟩
 obtain ⟨b, off, ha, hcell⟩ := hc h0
 refine ⟨b, off, ha, fun i hi => ?_⟩
 have h1 := hcell i hi
 have := World.block_lt_of_cell? w _ h1
 exact (hb.cell (p := ⟨b, off + i, none⟩) this).trans h1
theorem Nums.nil (k : IntKind) (w : World) : Nums k w (.slice none 0 0) [] := ⟨by simp, none, 0, rfl, fun h => by simp at h⟩

theorem Nums.of_row {k : IntKind} {w : World} {a : Option Addr} {len cap : Nat} {zs : List Int} (h : IsRow k w a len cap zs) : Nums k w (.slice a len cap) (zs.take len) := by
 rcases h with ⟨rfl, rfl, rfl, rfl⟩ | ⟨x, rfl, hl, hm, hz, hc, hw⟩
 · exact Nums.nil k w
 · have hlen : (zs.take len).length = len := by simp; omega
   refine ⟨by rw [hlen]; unfold maxLen at hm; omega, some x, cap, by rw [hlen], fun h0 => ?_⟩
   rw [hlen] at h0
   have hs := World.cell?_spot (hc 0 (by omega))
   obtain ⟨b, off, sp⟩ := x
   have hsp : sp = none := by simpa [Addr.add] using hs
   subst hsp
   refine ⟨b, off, rfl, fun i hi => ?_⟩
   rw [hlen] at hi
   have := hc i (by omega)
   have e : (⟨b, off, none⟩ : Addr).add i = ⟨b, off + i, none⟩ := by unfold Addr.add; split <;> simp_all
   rw [show (zs.take len).getD i 0 = zs.getD i 0 by simp [List.getD, hi], ← e]
   exact this
theorem InR.of_row {w : World} {a : Option Addr} {len cap : Nat} {zs : List Int} (h : IsRow .i64 w a len cap zs) : InR (zs.take len) := by
 rcases h with ⟨rfl, rfl, rfl, rfl⟩ | ⟨x, rfl, hl, hm, hz, hc, hw⟩
 · intro x hx; simp at hx
 · intro y hy; exact bd_i64 (hw y (List.mem_of_mem_take hy))

def Own (w : World) (base : Nat) (v : Value) (xs : List Int) : Prop := w.ownsRow base 2 1 v xs.length (xs.map (Value.int .i64))
theorem Own.len {w : World} {base : Nat} {v : Value} {xs : List Int} (h : Own w base v xs) : xs.length ≤ 9223372036854775807 := by
 rcases h.2 with ⟨_, h⟩ | ⟨g, cap, cur, _, _, _, hn, hm, _⟩
 · rw [h]; omega
 · unfold maxLen at hm; omega
theorem Own.ints {w : World} {base : Nat} {v : Value} {xs : List Int} (h : Own w base v xs) : Ints w v xs := by
 refine ⟨h.len, ?_⟩
 rcases h.2 with ⟨rfl, h0⟩ | ⟨g, cap, cur, hv, hb, hg, hn, hm, hs, ht⟩
 · have : xs = [] := List.eq_nil_of_length_eq_zero h0
   subst this
   exact ⟨none, 0, rfl, fun h => by simp at h⟩
 · refine ⟨_, cap, hv, fun _ => ⟨g, 0, rfl, fun i hi => ?_⟩⟩
   have h' := h; unfold Own at h'; rw [hv] at h'
   rw [Nat.zero_add, h'.cellAt i (by omega)]
   simp [List.getD, hi]
theorem Own.mono {w : World} {base base' : Nat} {v : Value} {xs : List Int} (h : Own w base v xs) (hb : base' ≤ base) : Own w base' v xs := by
 refine ⟨h.1, ?_⟩
 rcases h.2 with h | ⟨g, cap, cur, hv, hg, r⟩
 · exact .inl h
 · exact .inr ⟨g, cap, cur, hv, by omega, r⟩
theorem Own.below {w w' : World} {base : Nat} {v : Value} {xs : List Int} (h : Own w base v xs) (hb : Below w.heap.size w w') : Own w' base v xs := by
 refine ⟨h.1, ?_⟩
 rcases h.2 with h | ⟨g, cap, cur, hv, hg, hgg, r⟩
 · exact .inl h
 · refine .inr ⟨g, cap, cur, hv, hg, ?_, r⟩
   rw [hb.block g (Array.getElem?_eq_some_iff.1 hgg).1]; exact hgg
theorem Own.shape {w : World} {base : Nat} {v : Value} {xs : List Int} (h : Own w base v xs) :
 (v = .slice none 0 0 ∧ xs = []) ∨ ∃ g cap, v = .slice (some ⟨g, 0, none⟩) xs.length cap ∧ base ≤ g ∧ g < w.heap.size := by
 rcases h.2 with ⟨rfl, h0⟩ | ⟨g, cap, cur, hv, hb, hg, hn, hm, hs, ht⟩
 · exact .inl ⟨rfl, List.eq_nil_of_length_eq_zero h0⟩
 · exact .inr ⟨g, cap, hv, hb, (Array.getElem?_eq_some_iff.1 hg).1⟩
theorem Own.shape1 {w : World} {base : Nat} {v : Value} {xs : List Int} (h : Own w base v xs) :
 ∃ a cap, v = .slice a xs.length cap ∧ (0 < xs.length → ∃ g, a = some ⟨g, 0, none⟩) ∧ v.ownBlock = a.map (·.block) := by
 rcases h.shape with ⟨rfl, rfl⟩ | ⟨g, cap, rfl, _⟩
 · exact ⟨none, 0, rfl, fun h => by simp at h, rfl⟩
 · exact ⟨_, cap, rfl, fun _ => ⟨g, rfl⟩, rfl⟩
section
variable {w : World} {base g n cap : Nat} {xs : List Int}
theorem Own.lenEq (h : Own w base (.slice (some ⟨g, 0, none⟩) n cap) xs) : n = xs.length := by
 rcases h.2 with ⟨h', _⟩ | ⟨g', cap', cur, h', _⟩
 · simp at h'
 · simp at h'; omega
theorem Own.cell (h : Own w base (.slice (some ⟨g, 0, none⟩) n cap) xs) (j : Nat) (hj : j < xs.length) : w.cell? ⟨g, j, none⟩ = some (.int .i64 (xs.getD j 0)) := by
 have e := h.lenEq; subst e
 have h' := h; unfold Own at h'
 rw [h'.cellAt j (by omega)]
 simp [List.getD, hj]
theorem Own.unfrozen (h : Own w base (.slice (some ⟨g, 0, none⟩) n cap) xs) (j : Nat) : w.frozen? ⟨g, j, none⟩ = false := by
 have e := h.lenEq; subst e
 have h' := h; unfold Own at h'
 exact h'.frozenAt j
theorem Own.base_le (h : Own w base (.slice (some ⟨g, 0, none⟩) n cap) xs) : base ≤ g ∧ g < w.heap.size := by
 rcases h.shape with ⟨h', _⟩ | ⟨g', cap', h', h1, h2⟩
 · simp at h'
 · simp at h'; obtain ⟨rfl, _, _⟩ := h'; exact ⟨h1, h2⟩
theorem Own.set (h : Own w base (.slice (some ⟨g, 0, none⟩) n cap) xs) (j : Nat) (u : Int) :
 Own (w.setCell ⟨g, j, none⟩ (.int .i64 u)) base (.slice (some ⟨g, 0, none⟩) n cap) (xs.set j u) := by
 have e := h.lenEq; subst e
 have := (World.ownsRow.stored (h : w.ownsRow ..) j (.int .i64 u)).1
 unfold Own
 rw [List.length_set, List.map_set]
 exact this
end

theorem Own.of_rows {w : World} {base : Nat} {v : Value} {ys : List Int} {n : Nat} {cs : List Value} (h : w.ownsRow base 2 1 v n cs) (hn : n = ys.length) (hc : cs = ys.map (Value.int .i64)) : Own w base v ys := by
 subst hn hc; exact h

def seqI (m : Int) (n : Nat) : List Int := (List.range n).map fun (i : Nat) => m + (i : Int)
@[simp] theorem seqI_length (m : Int) (n : Nat) : (seqI m n).length = n := by simp [seqI]
theorem seqI_succ (m : Int) (n : Nat) : seqI m (n + 1) = seqI m n ++ [m + (n : Int)] := by simp [seqI, List.range_succ]
theorem seqI_getD (m : Int) {n i : Nat} (h : i < n) : (seqI m n).getD i 0 = m + (i : Int) := by simp [seqI, List.getD, h]

theorem grown_trans {a b c : World} {r : Option Nat} (h : a.grownBy b r) (k : b.grownBy c r) : a.grownBy c r :=
 ⟨k.os.trans h.os, k.tape.trans h.tape, k.output.trans h.output, Nat.le_trans h.size k.size, fun i hi hr => (k.block i (Nat.lt_of_lt_of_le hi h.size) hr).trans (h.block i hi hr)⟩
theorem grown_refl (a : World) (r : Option Nat) : a.grownBy a r := ⟨rfl, rfl, rfl, Nat.le_refl _, fun _ _ _ => rfl⟩
theorem grown_set (w : World) (g j : Nat) (u : Value) : w.grownBy (w.setCell ⟨g, j, none⟩ u) (some g) :=
 ⟨rfl, rfl, rfl, by simp, fun k _ hk => heap_setCell_other w ⟨g, j, none⟩ k u (fun e => hk (by simp [e]))⟩
theorem Own.kept {w w' : World} {base : Nat} {v : Value} {xs : List Int} {r : Option Nat} (h : Own w base v xs) (hg : w.grownBy w' r) (hne : ∀ g, r = some g → g < base) : Own w' base v xs := by
 refine World.ownsRow.kept h hg ?_
 rcases h.shape with ⟨rfl, _⟩ | ⟨g, cap, hv, h1, h2⟩
 · exact .inl rfl
 · right
   rw [hv]
   intro e
   have := hne g (by rw [← e]; rfl)
   omega
theorem Own.keep {w w' : World} {base : Nat} {v : Value} {xs : List Int} {r : Option Nat} (h : Own w base v xs) (hg : w.grownBy w' r) (hne : ∀ g, v.ownBlock = some g → r ≠ some g) : Own w' base v xs := by
 refine World.ownsRow.kept h hg ?_
 cases hv : v.ownBlock with
 | none => exact .inl rfl
 | some g => right; intro e; exact hne g hv e.symm
theorem Own.blk {w : World} {base : Nat} {v : Value} {xs : List Int} (h : Own w base v xs) : ∀ g, v.ownBlock = some g → base ≤ g ∧ g < w.heap.size := World.ownsRow.lt h

theorem Own.apart {wa wb : World} {B1 B2 : Nat} {v1 v2 : Value} {xs ys : List Int} (h1 : Own wa B1 v1 xs) (h2 : Own wb B2 v2 ys) (h : wa.heap.size ≤ B2) :
 ∀ g, v1.ownBlock = some g → v2.ownBlock ≠ some g := fun g hg e => by
 have := (h1.blk g hg).2
 have := (h2.blk g e).1
 omega
theorem Own.apart' {wa wb : World} {B1 B2 : Nat} {v1 v2 : Value} {xs ys : List Int} (h1 : Own wa B1 v1 xs) (h2 : Own wb B2 v2 ys) (h : wa.heap.size ≤ B2) :
 ∀ g, v2.ownBlock = some g → v1.ownBlock ≠ some g := fun g hg e => h1.apart h2 h g e hg
theorem Own.nil (w : World) (base : Nat) : Own w base (.slice none 0 0) [] := World.ownsRow_nil _ _ _ _
theorem below_marked {w0 w w' : World} {base : Nat} {v : Value} {xs : List Int} (hb : Below w0.heap.size w0 w) (hg : w.grownBy w' v.ownBlock) (ho : Own w base v xs) (h : w0.heap.size ≤ base) : Below w0.heap.size w0 w' :=
 hb.grown hg hb.size (fun k hk => by have := (ho.blk k hk).1; omega)

def Box (w : World) (b : Nat) (vs : List Value) : Prop := b < w.heap.size ∧ ∀ i v, vs[i]? = some v → w.cell? ⟨b, i, none⟩ = some v
theorem Box.at {w : World} {b : Nat} {vs : List Value} (h : Box w b vs) (i : Nat) {v : Value} (hv : vs[i]? = some v) : w.cell? ⟨b, i, none⟩ = some v := h.2 i v hv
theorem Box.below {w w' : World} {b : Nat} {vs : List Value} (h : Box w b vs) (hb : Below w.heap.size w w') : Box w' b vs :=
 ⟨Nat.lt_of_lt_of_le h.1 hb.size, fun i v hv => (hb.cell (p := ⟨b, i, none⟩) h.1).trans (h.2 i v hv)⟩
theorem Box.new (w : World) (vs : List Value) (t : TypeId) : Box (w.alloc (.cells vs.toArray t)) w.heap.size vs :=
 ⟨by simp, fun i v hv => by simp [go_sem, hv]⟩
theorem Box.newAt (w : World) (vs : List Value) (t : TypeId) {n : Nat} (hn : w.heap.size = n) : Box (w.alloc (.cells vs.toArray t)) n vs := by subst hn; exact Box.new w vs t
theorem Box.alloc {w : World} {b : Nat} {vs : List Value} (h : Box w b vs) (o : Obj) : Box (w.alloc o) b vs := h.below ((Below.refl _ _).alloc (Nat.le_refl _) _)

end Go.Proofs.YtflaacndokbddaaDoor
