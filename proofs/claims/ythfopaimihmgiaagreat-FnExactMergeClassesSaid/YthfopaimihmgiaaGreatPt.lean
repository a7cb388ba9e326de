/-
  Nodes kept (the reference's way), and merged patches: both ways give the same.
-/
import Derived.Test.YthfopaimihmgiaaGreatPs
namespace Go.Proofs.YthfopaimihmgiaaGreat
open Go.RowKit
set_option linter.unusedSimpArgs false
set_option linter.unusedVariables false

/-- The new number of each node kept. -/
def byL (n : Nat) (kp : List Int) : Nat → List Int
  | 0 => List.replicate n 0
  | k + 1 => (byL n kp k).set (kp.getD k 0).toNat (k : Int)
theorem byL_len (n : Nat) (kp : List Int) : ∀ k, (byL n kp k).length = n := by
  intro k
  induction k with
  | zero => simp [byL]
  | succ k ih => simp [byL, ih]
theorem byL_at {n : Nat} {kp : List Int} (hr : ∀ j, j < kp.length → 0 ≤ kp.getD j 0 ∧ kp.getD j 0 < n) (hd : ∀ i j, i < kp.length → j < kp.length → kp.getD i 0 = kp.getD j 0 → i = j) : ∀ k, k ≤ kp.length → ∀ j, j < k → (byL n kp k).getD (kp.getD j 0).toNat 0 = (j : Int) := by
  intro k
  induction k with
  | zero => intro _ j hj; omega
  | succ k ih =>
    intro hk j hj
    have h1 := hr k (by omega)
    have h2 := hr j (by omega)
    have hl := byL_len n kp k
    simp only [byL]
    rw [getD_set (by omega)]
    by_cases e : (kp.getD k 0).toNat = (kp.getD j 0).toNat
    · rw [if_pos e]
      have : k = j := hd k j (by omega) (by omega) (by omega)
      rw [this]
    · rw [if_neg e]
      refine ih (by omega) j ?_
      rcases Nat.lt_or_ge j k with h | h
      · exact h
      · have : j = k := by omega
        subst this; exact absurd rfl e
def keepN (ns : List NodeD) (b : List Int) (f : Int) : NodeD := mrgX b (ns.getD f.toNat n0)
def keepP (p : PatchD) (kp : List Int) : PatchD := (p.1, p.2.1, kp.map (keepN p.2.2.1 (byL p.2.2.1.length kp kp.length)), clsM (byL p.2.2.1.length kp kp.length) p.2.2.2)
structure KeepOk (p : PatchD) (kp : List Int) : Prop where
  fits : fitsP p
  n24 : p.2.2.1.length ≤ 24
  k24 : kp.length ≤ 24
  rng : idxs p.2.2.1.length kp = true
  frs : ∀ x ∈ p.2.2.1, x.2.2.2.length ≤ 23 ∧ idxs p.2.2.1.length x.2.2.2 = true
  o4 : p.2.2.2.length ≤ 4
  outs : idxs p.2.2.1.length p.2.2.2 = true
/-- The first members of the classes, as the reference finds them. -/
def firstsL (p : PatchD) : List Int := keepD (clsF p.2.1 p.2.2.1) (divC (clsE p) p.2.2.1.length).2.length p.2.2.1.length
theorem firstsL_len (p : PatchD) : (firstsL p).length = (divC (clsE p) p.2.2.1.length).2.length := keepD_len _ _ _
theorem cls_lt {p : PatchD} {q : Nat} (hq : q < p.2.2.1.length) : ∃ c : Nat, (clsF p.2.1 p.2.2.1).getD q 0 = (c : Int) ∧ c < (divC (clsE p) p.2.2.1.length).2.length := by
  obtain ⟨c, c1, c2, _⟩ := (divC_ok (E := clsE p) byKey_rfl p.2.2.1.length).at_ q hq
  rw [clsE_all] at c1
  exact ⟨c, c1, c2⟩
theorem firstsL_at {p : PatchD} {c : Nat} (hc : c < (divC (clsE p) p.2.2.1.length).2.length) : (firstsL p).getD c 0 = (((divC (clsE p) p.2.2.1.length).2.getD c 0 : Nat) : Int) := keepD_first hc
theorem firstsL_rng {p : PatchD} {j : Nat} (hj : j < (firstsL p).length) : 0 ≤ (firstsL p).getD j 0 ∧ (firstsL p).getD j 0 < p.2.2.1.length := by
  rw [firstsL_len] at hj
  have := (divC_ok (E := clsE p) byKey_rfl p.2.2.1.length).lt j hj
  rw [firstsL_at hj]; omega
theorem firstsL_inj {p : PatchD} {i j : Nat} (hi : i < (firstsL p).length) (hj : j < (firstsL p).length) (e : (firstsL p).getD i 0 = (firstsL p).getD j 0) : i = j := by
  rw [firstsL_len] at hi hj
  rw [firstsL_at hi, firstsL_at hj] at e
  have e' : (divC (clsE p) p.2.2.1.length).2.getD i 0 = (divC (clsE p) p.2.2.1.length).2.getD j 0 := by omega
  exact (divC_ok (E := clsE p) byKey_rfl p.2.2.1.length).uniq byKey_sym byKey_tr hi hj (k := (divC (clsE p) p.2.2.1.length).2.getD j 0) (by rw [e']; exact byKey_rfl _) (byKey_rfl _)
theorem map_getD {f : Int → Int} {l : List Int} {q : Nat} (hq : q < l.length) : (l.map f).getD q 0 = f (l.getD q 0) := by
  rw [List.getD_eq_getElem?_getD, List.getD_eq_getElem?_getD, List.getElem?_map, List.getElem?_eq_getElem hq]; rfl
/-- First member, then new number: the class. -/
theorem two_maps {p : PatchD} {l : List Int} (hl : idxs p.2.2.1.length l = true) : clsM (byL p.2.2.1.length (firstsL p) (firstsL p).length) (clsM (clsM (firstsL p) (clsF p.2.1 p.2.2.1)) l) = clsM (clsF p.2.1 p.2.2.1) l := by
  unfold clsM
  rw [List.map_map]
  refine List.map_congr_left fun q hq => ?_
  have hb := idxs_at hl hq
  have hcl : (clsF p.2.1 p.2.2.1).length = p.2.2.1.length := clsF_len
  obtain ⟨c, c1, c2⟩ := cls_lt (p := p) (q := q.toNat) (by omega)
  simp only [Function.comp]
  rw [map_getD (by omega), c1]
  simp only [Int.toNat_natCast]
  exact byL_at (fun j hj => firstsL_rng hj) (fun i j hi hj e => firstsL_inj hi hj e) _ (Nat.le_refl _) c (by rw [firstsL_len]; exact c2)
theorem mrgX_mrgX {a b : List Int} {x : NodeD} : mrgX b (mrgX a x) = (x.1, x.2.1, x.2.2.1, clsM b (clsM a x.2.2.2)) := rfl
def movedP (p : PatchD) : PatchD := (p.1, p.2.1, p.2.2.1.map (mrgX (clsM (firstsL p) (clsF p.2.1 p.2.2.1))), clsM (clsM (firstsL p) (clsF p.2.1 p.2.2.1)) p.2.2.2)
theorem movedP_n (p : PatchD) : (movedP p).2.2.1.length = p.2.2.1.length := by simp [movedP]
theorem firsts_map {p : PatchD} {g : Nat → NodeD} {f : Int → NodeD} (h : ∀ c, c < (divC (clsE p) p.2.2.1.length).2.length → f ((firstsL p).getD c 0) = g ((divC (clsE p) p.2.2.1.length).2.getD c 0)) : (firstsL p).map f = (divC (clsE p) p.2.2.1.length).2.map g := by
  refine List.ext_getElem (by rw [List.length_map, List.length_map, firstsL_len]) fun i h1 h2 => ?_
  have hi : i < (divC (clsE p) p.2.2.1.length).2.length := by simpa using h2
  have hi' : i < (firstsL p).length := by rw [firstsL_len]; exact hi
  have := h i hi
  rw [List.getD_eq_getElem?_getD, List.getD_eq_getElem?_getD, List.getElem?_eq_getElem hi, List.getElem?_eq_getElem hi'] at this
  simp only [List.getElem_map]
  exact this
theorem keep_merge {p : PatchD} (h : patchB p = true) : keepP (movedP p) (firstsL p) = mergeP p := by
  have hF := formedB_parts (patchB_parts h).1
  have hU := uOk_patch (patchB_parts h).1
  have hn : ∀ f, f < p.2.2.1.length → idxs p.2.2.1.length (p.2.2.1.getD f n0).2.2.2 = true := fun f hf => (hU.2 _ (getD_mem (d := n0) hf)).2.2.1
  unfold keepP mergeP
  rw [movedP_n]
  have e1 : (firstsL p).map (keepN (movedP p).2.2.1 (byL p.2.2.1.length (firstsL p) (firstsL p).length)) = mrgN p p.2.2.1.length := by
    refine firsts_map fun c hc => ?_
    have hlt := (divC_ok (E := clsE p) byKey_rfl p.2.2.1.length).lt c hc
    rw [firstsL_at hc]
    unfold keepN
    rw [Int.toNat_natCast]
    have : (movedP p).2.2.1.getD ((divC (clsE p) p.2.2.1.length).2.getD c 0) n0 = mrgX (clsM (firstsL p) (clsF p.2.1 p.2.2.1)) (p.2.2.1.getD ((divC (clsE p) p.2.2.1.length).2.getD c 0) n0) := by
      generalize (divC (clsE p) p.2.2.1.length).2.getD c 0 = f at hlt ⊢
      simp only [movedP]
      rw [List.getD_eq_getElem?_getD, List.getD_eq_getElem?_getD, List.getElem?_map, List.getElem?_eq_getElem hlt]; rfl
    rw [this, mrgX_mrgX, two_maps (hn _ hlt)]
    rfl
  rw [e1]
  have e2 : clsM (byL p.2.2.1.length (firstsL p) (firstsL p).length) (movedP p).2.2.2 = clsM (clsF p.2.1 p.2.2.1) p.2.2.2 := two_maps hF.2.2.2.2.2.1
  rw [e2]
  rfl
theorem idxs_of {n : Nat} {l : List Int} (h : ∀ j, j < l.length → 0 ≤ l.getD j 0 ∧ l.getD j 0 < n) : idxs n l = true := by
  refine List.all_eq_true.2 fun q hq => ?_
  obtain ⟨i, hi, rfl⟩ := List.mem_iff_getElem.1 hq
  have := h i hi
  rw [List.getD_eq_getElem?_getD, List.getElem?_eq_getElem hi] at this
  simp only [Option.getD_some] at this
  exact inR_iff.2 ⟨this.1, by omega⟩
theorem by1_rng {p : PatchD} {l : List Int} (hl : idxs p.2.2.1.length l = true) : idxs p.2.2.1.length (clsM (clsM (firstsL p) (clsF p.2.1 p.2.2.1)) l) = true := by
  refine idxs_of fun j hj => ?_
  have hj' : j < l.length := by simpa [clsM] using hj
  have hb := idxs_at hl (getD_mem (d := (0 : Int)) hj')
  have hcl : (clsF p.2.1 p.2.2.1).length = p.2.2.1.length := clsF_len
  obtain ⟨c, c1, c2⟩ := cls_lt (p := p) (q := (l.getD j 0).toNat) (by omega)
  have e : (clsM (clsM (firstsL p) (clsF p.2.1 p.2.2.1)) l).getD j 0 = (firstsL p).getD c 0 := by
    unfold clsM
    rw [map_getD hj', map_getD (by omega), c1]; rfl
  rw [e]
  exact firstsL_rng (by rw [firstsL_len]; exact c2)
theorem cls_idxs {p : PatchD} : idxs (firstsL p).length (clsF p.2.1 p.2.2.1) = true := by
  refine idxs_of fun j hj => ?_
  have hcl : (clsF p.2.1 p.2.2.1).length = p.2.2.1.length := clsF_len
  obtain ⟨c, c1, c2⟩ := cls_lt (p := p) (q := j) (by omega)
  rw [c1, firstsL_len]; omega
theorem keepOk_moved {p : PatchD} (h : patchB p = true) : KeepOk (movedP p) (firstsL p) := by
  have hF := formedB_parts (patchB_parts h).1
  have hU := uOk_patch (patchB_parts h).1
  have hf := smallP_fitsP (smallP_of h)
  have hx : ∀ x ∈ (movedP p).2.2.1, x.2.2.2.length ≤ 3 ∧ idxs p.2.2.1.length x.2.2.2 = true := fun x hx => by
    simp only [movedP, List.mem_map] at hx
    obtain ⟨y, hy, rfl⟩ := hx
    obtain ⟨a, b, _⟩ := (hU.2 _ hy).2
    exact ⟨by simp only [mrgX, clsM, List.length_map]; exact a, by1_rng b⟩
  have ho : (movedP p).2.2.2.length = p.2.2.2.length := by simp [movedP, clsM]
  refine ⟨⟨hf.1, ⟨by rw [movedP_n]; exact hf.2.1.1, fun x hq => by have := (hx x hq).1; omega⟩, by rw [ho]; exact hf.2.2⟩, by rw [movedP_n]; exact hF.1, ?_, ?_, fun x hq => ?_, by rw [ho]; exact hF.2.1, ?_⟩
  · rw [firstsL_len]; exact Nat.le_trans (canonN_le _ _) hF.1
  · rw [movedP_n]; exact idxs_of fun j hj => firstsL_rng hj
  · rw [movedP_n]; exact ⟨by have := (hx x hq).1; omega, (hx x hq).2⟩
  · rw [movedP_n]; exact by1_rng hF.2.2.2.2.2.1
theorem map_nx {α β : Type} {f : α → β} {xs : List α} {k : Nat} (d : α) (h : k < xs.length) : (xs.take k).map f ++ [f (xs.getD k d)] = (xs.take (k + 1)).map f := by
  rw [take_next (d := d) h, List.map_append]; rfl
theorem mixN_at {f : NodeD → NodeD} {xs : List NodeD} {k : Nat} (d : NodeD) (h : k < xs.length) : ((xs.take k).map f ++ xs.drop k).getD k d = xs.getD k d := by
  have hl : ((xs.take k).map f).length = k := by rw [List.length_map, List.length_take]; omega
  rw [List.getD_eq_getElem?_getD, List.getD_eq_getElem?_getD, List.getElem?_append_right (by omega), List.getElem?_drop, hl]
  congr 2; omega
theorem mixN_set {f : NodeD → NodeD} {xs : List NodeD} {k : Nat} (d : NodeD) (h : k < xs.length) : ((xs.take k).map f ++ xs.drop k).set k (f (xs.getD k d)) = (xs.take (k + 1)).map f ++ xs.drop (k + 1) := by
  have hl : ((xs.take k).map f).length = k := by rw [List.length_map, List.length_take]; omega
  rw [← map_nx d h, List.append_assoc, List.set_append_right _ _ (by omega), hl, Nat.sub_self, List.drop_eq_getElem_cons h, List.getD_eq_getElem?_getD, List.getElem?_eq_getElem h]
  rfl
theorem mixN_len {f : NodeD → NodeD} {xs : List NodeD} {k : Nat} (h : k ≤ xs.length) : ((xs.take k).map f).length + (xs.drop k).length = xs.length := by rw [List.length_map, List.length_take, List.length_drop]; omega
end Go.Proofs.YthfopaimihmgiaaGreat
