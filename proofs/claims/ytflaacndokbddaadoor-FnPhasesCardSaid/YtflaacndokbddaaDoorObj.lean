/-
 Things that stay as they are while the blocks in a range of numbers do: 'Obj lo hi R w'; 'Chg lo hi w w'': from w to w' nothing older has turned but for blocks of that range.
-/
import Derived.Test.YtflaacndokbddaaDoorBoxU
import Derived.Test.YtflaacndokbddaaDoorPair
namespace Go.Proofs.YtflaacndokbddaaDoor
open Go.RowKit

structure Obj (lo hi : Nat) (R : World → Prop) (w : World) : Prop where
 le : hi ≤ w.heap.size
 all : ∀ w', (∀ i, lo ≤ i → i < hi → w'.heap[i]? = w.heap[i]?) → w.heap.size ≤ w'.heap.size → R w'
structure Chg (lo hi : Nat) (w w' : World) : Prop where
 os : w'.os = w.os
 tape : w'.tape = w.tape
 output : w'.output = w.output
 size : w.heap.size ≤ w'.heap.size
 block : ∀ i, i < w.heap.size → (i < lo ∨ hi ≤ i) → w'.heap[i]? = w.heap[i]?

section
variable {lo hi lo' hi' : Nat} {R : World → Prop} {w w' w'' : World}
theorem Obj.now (h : Obj lo hi R w) : R w := h.all w (fun _ _ _ => rfl) (Nat.le_refl _)
theorem Obj.keep (h : Obj lo hi R w) (hk : ∀ i, lo ≤ i → i < hi → w'.heap[i]? = w.heap[i]?) (hs : w.heap.size ≤ w'.heap.size) : Obj lo hi R w' :=
 ⟨Nat.le_trans h.le hs, fun w2 h2 s2 => h.all w2 (fun i h1 h3 => (h2 i h1 h3).trans (hk i h1 h3)) (Nat.le_trans hs s2)⟩
theorem Obj.below (h : Obj lo hi R w) (hb : Below w.heap.size w w') : Obj lo hi R w' :=
 h.keep (fun i _ hi => hb.block i (Nat.lt_of_lt_of_le hi h.le)) hb.size
theorem Obj.chg (h : Obj lo hi R w) (hc : Chg lo' hi' w w') (hd : hi ≤ lo' ∨ hi' ≤ lo) : Obj lo hi R w' :=
 h.keep (fun i h1 h2 => hc.block i (Nat.lt_of_lt_of_le h2 h.le) (by omega)) hc.size
theorem Obj.map {R' : World → Prop} (h : Obj lo hi R w) (hr : ∀ w', R w' → R' w') : Obj lo hi R' w := ⟨h.le, fun w2 h2 s2 => hr _ (h.all w2 h2 s2)⟩
theorem Obj.wide (h : Obj lo hi R w) (h1 : lo' ≤ lo) (h2 : hi ≤ hi') (h3 : hi' ≤ w.heap.size) : Obj lo' hi' R w :=
 ⟨h3, fun w2 k s2 => h.all w2 (fun i a b => k i (by omega) (by omega)) s2⟩
theorem Chg.refl (lo hi : Nat) (w : World) : Chg lo hi w w := ⟨rfl, rfl, rfl, Nat.le_refl _, fun _ _ _ => rfl⟩
theorem Chg.trans (h : Chg lo hi w w') (k : Chg lo hi w' w'') : Chg lo hi w w'' :=
 ⟨k.os.trans h.os, k.tape.trans h.tape, k.output.trans h.output, Nat.le_trans h.size k.size, fun i hi hr => (k.block i (Nat.lt_of_lt_of_le hi h.size) hr).trans (h.block i hi hr)⟩
theorem Chg.wide (h : Chg lo hi w w') (h1 : lo' ≤ lo) (h2 : hi ≤ hi') : Chg lo' hi' w w' :=
 ⟨h.os, h.tape, h.output, h.size, fun i hi hr => h.block i hi (by omega)⟩
theorem Chg.of_below (h : Below w.heap.size w w') : Chg lo hi w w' := ⟨h.os, h.tape, h.output, h.size, fun i hi _ => h.block i hi⟩
theorem Chg.of_grown {r : Option Nat} (h : w.grownBy w' r) (hr : ∀ g, r = some g → lo ≤ g ∧ g < hi) : Chg lo hi w w' :=
 ⟨h.os, h.tape, h.output, h.size, fun i hi hb => h.block i hi (fun e => by have := hr i e.symm; omega)⟩
theorem below_chg {w0 : World} (h : Below w0.heap.size w0 w) (hc : Chg lo hi w w') (hl : w0.heap.size ≤ lo) : Below w0.heap.size w0 w' :=
 ⟨hc.os.trans h.os, hc.tape.trans h.tape, hc.output.trans h.output, Nat.le_trans h.size hc.size, fun k hk => (hc.block k (Nat.lt_of_lt_of_le hk h.size) (.inl (Nat.lt_of_lt_of_le hk hl))).trans (h.block k hk)⟩
theorem belTrans (h : Below w.heap.size w w') (k : Below w'.heap.size w' w'') : Below w.heap.size w w'' := h.trans (k.mono h.size)
theorem grown_of_below {r : Option Nat} (h : Below w.heap.size w w') : w.grownBy w' r := ⟨h.os, h.tape, h.output, h.size, fun i hi _ => h.block i hi⟩

theorem Own.obj {v : Value} {xs : List Int} (h : Own w lo v xs) : Obj lo w.heap.size (fun w => Own w lo v xs) w := by
 refine ⟨Nat.le_refl _, fun w' hk hs => ?_⟩
 refine ⟨h.1, ?_⟩
 rcases h.2 with h2 | ⟨g, cap, cur, hv, hg, hgg, r⟩
 · exact .inl h2
 · exact .inr ⟨g, cap, cur, hv, hg, by rw [hk g hg (Array.getElem?_eq_some_iff.1 hgg).1]; exact hgg, r⟩
theorem OwnP.obj {e : TypeId} {v : Value} {ps : List (Int × Int)} (h : OwnP e w lo v ps) : Obj lo w.heap.size (fun w => OwnP e w lo v ps) w := by
 refine ⟨Nat.le_refl _, fun w' hk hs => ?_⟩
 refine ⟨h.1, ?_⟩
 rcases h.2 with h2 | ⟨g, cap, cur, hv, hg, hgg, r⟩
 · exact .inl h2
 · exact .inr ⟨g, cap, cur, hv, hg, by rw [hk g hg (Array.getElem?_eq_some_iff.1 hgg).1]; exact hgg, r⟩
theorem Box.obj {b : Nat} {vs : List Value} (h : Box w b vs) : Obj b (b + 1) (fun w => Box w b vs) w :=
 ⟨h.1, fun w' hk hs => ⟨Nat.lt_of_lt_of_le h.1 hs, fun i v hv => (World.cell?_of_block (w := w) (a := ⟨b, i, none⟩) (hk b (Nat.le_refl _) (Nat.lt_succ_self _))).trans (h.2 i v hv)⟩⟩
theorem Nums.obj {k : IntKind} {v : Value} {xs : List Int} (h : Nums k w v xs) : Obj 0 w.heap.size (fun w => Nums k w v xs) w := by
 refine ⟨Nat.le_refl _, fun w' hk hs => ?_⟩
 obtain ⟨hl, a, cap, hv, hc⟩ := h
 refine ⟨hl, a, cap, hv, fun h0 => ?_⟩
 obtain ⟨b, off, ha, hcell⟩ := hc h0
 exact ⟨b, off, ha, fun i hi => (World.cell?_of_block (w := w) (a := ⟨b, off + i, none⟩) (hk b (Nat.zero_le _) (World.block_lt_of_cell? w _ (hcell i hi)))).trans (hcell i hi)⟩
theorem Pairs.obj {v : Value} {ps : List (Int × Int)} (h : Pairs w v ps) : Obj 0 w.heap.size (fun w => Pairs w v ps) w := by
 refine ⟨Nat.le_refl _, fun w' hk hs => ?_⟩
 obtain ⟨hl, a, cap, hv, hc⟩ := h
 refine ⟨hl, a, cap, hv, fun h0 => ?_⟩
 obtain ⟨b, off, ha, hcell⟩ := hc h0
 refine ⟨b, off, ha, fun i hi => ?_⟩
 obtain ⟨h1, h2⟩ := hcell i hi
 have hb := World.block_lt_of_cell? w _ h1
 exact ⟨(World.cell?_of_block (w := w) (a := ⟨b, off + i * 2, none⟩) (hk b (Nat.zero_le _) hb)).trans h1, (World.cell?_of_block (w := w) (a := ⟨b, off + i * 2 + 1, none⟩) (hk b (Nat.zero_le _) hb)).trans h2⟩
end

def IntsR (lo hi : Nat) (v : Value) (xs : List Int) (w : World) : Prop := Own w lo v xs ∧ ∀ g, v.ownBlock = some g → g < hi
def PairsR (e : TypeId) (lo hi : Nat) (v : Value) (ps : List (Int × Int)) (w : World) : Prop := OwnP e w lo v ps ∧ ∀ g, v.ownBlock = some g → g < hi
section
variable {lo hi : Nat} {w w' : World} {v : Value} {xs : List Int} {ps : List (Int × Int)} {e : TypeId}
theorem IntsR.obj (h : IntsR lo hi v xs w) (hh : hi ≤ w.heap.size) : Obj lo hi (IntsR lo hi v xs) w := by
 refine ⟨hh, fun w' hk hs => ⟨⟨h.1.1, ?_⟩, h.2⟩⟩
 rcases h.1.2 with h2 | ⟨g, cap, cur, hv, hg, hgg, r⟩
 · exact .inl h2
 · exact .inr ⟨g, cap, cur, hv, hg, by rw [hk g hg (h.2 g (by rw [hv]; rfl))]; exact hgg, r⟩
theorem PairsR.obj (h : PairsR e lo hi v ps w) (hh : hi ≤ w.heap.size) : Obj lo hi (PairsR e lo hi v ps) w := by
 refine ⟨hh, fun w' hk hs => ⟨⟨h.1.1, ?_⟩, h.2⟩⟩
 rcases h.1.2 with h2 | ⟨g, cap, cur, hv, hg, hgg, r⟩
 · exact .inl h2
 · exact .inr ⟨g, cap, cur, hv, hg, by rw [hk g hg (h.2 g (by rw [hv]; rfl))]; exact hgg, r⟩
theorem Own.objR (h : Own w lo v xs) : Obj lo w.heap.size (IntsR lo w.heap.size v xs) w := IntsR.obj ⟨h, fun g hg => (h.blk g hg).2⟩ (Nat.le_refl _)
theorem OwnP.objR (h : OwnP e w lo v ps) : Obj lo w.heap.size (PairsR e lo w.heap.size v ps) w := PairsR.obj ⟨h, fun g hg => (h.blk g hg).2⟩ (Nat.le_refl _)
theorem IntsR.read (h : IntsR lo hi v xs w) : Ints w v xs := h.1.ints
theorem PairsR.read (h : PairsR e lo hi v ps w) : Pairs w v ps := h.1.pairs h.1.len
end

end Go.Proofs.YtflaacndokbddaaDoor
