/-
 Texts joined: the logic of trees and plain laws. No condition beyond those of the theorems.
-/
import Derived.Test.YtiafipboklboeaaPy
import Derived.Test.YtiafipboklboeaaQc
set_option linter.unusedSimpArgs false
set_option linter.unusedVariables false
namespace Go.Proofs.Ytiafipboklboeaa
open Go.RowKit
def linK (k : Int) : Prop := k = 1 ∨ k = 3 ∨ k = 4 ∨ k = 5 ∨ k = 6 ∨ k = 7 ∨ k = 8 ∨ k = 17
def linP (p : PatchD) : Prop := ∀ nd ∈ p.2.2.1, linK nd.1
theorem w32_al (a b : Int) : wrap32 (wrap32 a + b) = wrap32 (a + b) := by unfold wrap32; omega
theorem w32_ar (a b : Int) : wrap32 (a + wrap32 b) = wrap32 (a + b) := by unfold wrap32; omega
theorem w32_sl (a b : Int) : wrap32 (wrap32 a - b) = wrap32 (a - b) := by unfold wrap32; omega
theorem w32_sr (a b : Int) : wrap32 (a - wrap32 b) = wrap32 (a - b) := by unfold wrap32; omega
theorem w32_ml (a b : Int) : wrap32 (wrap32 a * b) = wrap32 (a * b) := by apply wrap32_congr; rw [Int.mul_emod, wrap32_mod, ← Int.mul_emod]
theorem w32_mr (a b : Int) : wrap32 (a * wrap32 b) = wrap32 (a * b) := by apply wrap32_congr; rw [Int.mul_emod, wrap32_mod, ← Int.mul_emod]
theorem w32_aml (a b c : Int) : wrap32 (a * wrap32 b + c) = wrap32 (a * b + c) := by rw [← w32_al (a * wrap32 b), w32_mr, w32_al]
theorem w32_amr (a b c : Int) : wrap32 (c + a * wrap32 b) = wrap32 (c + a * b) := by rw [← w32_ar c (a * wrap32 b), w32_mr, w32_ar]
theorem w32_0 : wrap32 0 = 0 := by unfold wrap32; omega
def CB (α β : Int) (a b c : List Int) : Prop := a.length = c.length ∧ b.length = c.length ∧ ∀ j, c.getD j 0 = wrap32 (α * a.getD j 0 + β * b.getD j 0)
def SB (α β : Int) (s1 s2 s3 : List (List Int)) : Prop := s1.length = s3.length ∧ s2.length = s3.length ∧ ∀ i, CB α β (s1.getD i []) (s2.getD i []) (s3.getD i [])
section
variable {α β : Int}
theorem getD_ge {α : Type} {l : List α} {i : Nat} {d : α} (h : l.length ≤ i) : l.getD i d = d := by rw [List.getD_eq_getElem?_getD, List.getElem?_eq_none h]; rfl
theorem CB.nil : CB α β [] [] [] := ⟨rfl, rfl, fun j => by simp [w32_0]⟩
theorem CB.one {x y z : Int} (h : z = wrap32 (α * x + β * y)) : CB α β [x] [y] [z] := ⟨rfl, rfl, fun j => by
 cases j with
 | zero => exact h
 | succ j => simp [w32_0]⟩
theorem CB.set {a b c : List Int} (h : CB α β a b c) (i : Nat) {x y z : Int} (hz : z = wrap32 (α * x + β * y)) : CB α β (a.set i x) (b.set i y) (c.set i z) := by
 obtain ⟨h1, h2, h3⟩ := h
 refine ⟨by simpa using h1, by simpa using h2, fun j => ?_⟩
 by_cases hi : i < c.length
 · rw [getD_set hi, getD_set (by omega), getD_set (by omega)]
   split
   · exact hz
   · exact h3 j
 · rw [List.set_eq_of_length_le (by omega), List.set_eq_of_length_le (by omega), List.set_eq_of_length_le (by omega)]; exact h3 j
theorem getD_snoc {l : List Int} {x : Int} {j : Nat} : (l ++ [x]).getD j 0 = if j < l.length then l.getD j 0 else if j = l.length then x else 0 := by
 rw [List.getD_eq_getElem?_getD]
 by_cases h : j < l.length
 · rw [List.getElem?_append_left h, if_pos h, List.getD_eq_getElem?_getD]
 · rw [List.getElem?_append_right (by omega), if_neg h]
   by_cases h2 : j = l.length
   · subst h2; simp
   · rw [if_neg h2, List.getElem?_eq_none (by simp; omega)]; rfl
theorem CB.snoc {a b c : List Int} (h : CB α β a b c) {x y z : Int} (hz : z = wrap32 (α * x + β * y)) : CB α β (a ++ [x]) (b ++ [y]) (c ++ [z]) := by
 obtain ⟨h1, h2, h3⟩ := h
 refine ⟨by simp [h1], by simp [h2], fun j => ?_⟩
 rw [getD_snoc, getD_snoc, getD_snoc, h1, h2]
 split
 · exact h3 j
 · split
   · exact hz
   · simp [w32_0]
theorem CB.drop {a b c : List Int} (h : CB α β a b c) (n : Nat) : CB α β (a.drop n) (b.drop n) (c.drop n) := by
 obtain ⟨h1, h2, h3⟩ := h
 refine ⟨by simp [h1], by simp [h2], fun j => ?_⟩
 have e : ∀ l : List Int, (l.drop n).getD j 0 = l.getD (n + j) 0 := fun l => by rw [List.getD_eq_getElem?_getD, List.getElem?_drop, List.getD_eq_getElem?_getD]
 rw [e, e, e]; exact h3 _
theorem CB.map {a b c : List Int} (h : CB α β a b c) (l : List Int) : CB α β (l.map fun i => a.getD i.toNat 0) (l.map fun i => b.getD i.toNat 0) (l.map fun i => c.getD i.toNat 0) := by
 refine ⟨by simp, by simp, fun j => ?_⟩
 by_cases hj : j < l.length
 · have e : ∀ v : List Int, (l.map fun i => v.getD i.toNat 0).getD j 0 = v.getD (l.getD j 0).toNat 0 := fun v => by simp [List.getD, hj]
   rw [e, e, e]; exact h.2.2 _
 · rw [getD_ge (by simp; omega), getD_ge (by simp; omega), getD_ge (by simp; omega)]; simp [w32_0]
theorem CB.rep (n : Nat) : CB α β (List.replicate n 0) (List.replicate n 0) (List.replicate n 0) := by
 refine ⟨rfl, rfl, fun j => ?_⟩
 have e : (List.replicate n (0 : Int)).getD j 0 = 0 := by
  by_cases hj : j < n
  · simp [List.getD, hj]
  · rw [getD_ge (by simp; omega)]
 rw [e]; simp [w32_0]
theorem outV_cb {k a : Int} {tabs : List (List Int)} {i1 i2 i3 s1 s2 s3 : List Int} (hk : linK k) (hi : CB α β i1 i2 i3) (hs : CB α β s1 s2 s3) :
 outV k a tabs i3 s3 = wrap32 (α * outV k a tabs i1 s1 + β * outV k a tabs i2 s2) := by
 have h0 := hi.2.2 0
 have h1 := hi.2.2 1
 have g0 := hs.2.2 0
 rcases hk with rfl | rfl | rfl | rfl | rfl | rfl | rfl | rfl
 · exact h0
 · show wrap32 (i3.getD 0 0 + i3.getD 1 0) = wrap32 (α * wrap32 (i1.getD 0 0 + i1.getD 1 0) + β * wrap32 (i2.getD 0 0 + i2.getD 1 0))
   rw [h0, h1]; simp only [w32_al, w32_ar, w32_aml, w32_amr]; congr 1; grind
 · show wrap32 (i3.getD 0 0 - i3.getD 1 0) = wrap32 (α * wrap32 (i1.getD 0 0 - i1.getD 1 0) + β * wrap32 (i2.getD 0 0 - i2.getD 1 0))
   rw [h0, h1]; simp only [w32_sl, w32_sr, w32_aml, w32_amr]; congr 1; grind
 · show wrap32 (a * i3.getD 0 0) = wrap32 (α * wrap32 (a * i1.getD 0 0) + β * wrap32 (a * i2.getD 0 0))
   rw [h0]; simp only [w32_mr, w32_aml, w32_amr]; congr 1; grind
 · exact g0
 · show wrap32 (s3.getD 0 0 + i3.getD 0 0) = wrap32 (α * wrap32 (s1.getD 0 0 + i1.getD 0 0) + β * wrap32 (s2.getD 0 0 + i2.getD 0 0))
   rw [h0, g0]; simp only [w32_al, w32_ar, w32_aml, w32_amr]; congr 1; grind
 · show wrap32 (i3.getD 0 0 - s3.getD 0 0) = wrap32 (α * wrap32 (i1.getD 0 0 - s1.getD 0 0) + β * wrap32 (i2.getD 0 0 - s2.getD 0 0))
   rw [h0, g0]; simp only [w32_sl, w32_sr, w32_aml, w32_amr]; congr 1; grind
 · show wrap32 (i3.getD 0 0 + a * s3.getD 0 0) = wrap32 (α * wrap32 (i1.getD 0 0 + a * s1.getD 0 0) + β * wrap32 (i2.getD 0 0 + a * s2.getD 0 0))
   rw [h0, g0]; simp only [w32_al, w32_ar, w32_aml, w32_amr]; congr 1; grind
theorem nextV_cb {k : Int} {i1 i2 i3 s1 s2 s3 : List Int} {o1 o2 o3 : Int} (hk : linK k) (hi : CB α β i1 i2 i3) (hs : CB α β s1 s2 s3) (ho : o3 = wrap32 (α * o1 + β * o2)) :
 CB α β (nextV k i1 s1 o1) (nextV k i2 s2 o2) (nextV k i3 s3 o3) := by
 have h0 := hi.2.2 0
 rcases hk with rfl | rfl | rfl | rfl | rfl | rfl | rfl | rfl
 · exact CB.nil
 · exact CB.nil
 · exact CB.nil
 · exact CB.nil
 · exact (hs.drop 1).snoc h0
 · exact CB.one ho
 · exact CB.one h0
 · exact (hs.drop 1).snoc ho
theorem insV_cb {n : NodeD} {f1 f2 f3 v1 v2 v3 : List Int} (hf : CB α β f1 f2 f3) (hv : CB α β v1 v2 v3) : CB α β (insV n f1 v1) (insV n f2 v2) (insV n f3 v3) := by
 unfold insV
 split
 · exact CB.one (hf.2.2 _)
 · exact hv.map _
section
variable {p : PatchD} {s1 s2 s3 : List (List Int)} {f1 f2 f3 : List Int}
theorem lin_at (hp : linP p) {i : Nat} (hi : i < p.2.2.1.length) : linK (p.2.2.1.getD i n0).1 := hp _ (getD_mem hi)
theorem outP_cb (hp : linP p) (hs : SB α β s1 s2 s3) (hf : CB α β f1 f2 f3) {v1 v2 v3 : List Int} (hv : CB α β v1 v2 v3) {i : Nat} (hi : i < p.2.2.1.length) : outP p s3 f3 v3 i = wrap32 (α * outP p s1 f1 v1 i + β * outP p s2 f2 v2 i) :=
 outV_cb (lin_at hp hi) (insV_cb hf hv) (hs.2.2 i)
theorem valsL_cb (hp : linP p) (hs : SB α β s1 s2 s3) (hf : CB α β f1 f2 f3) : CB α β (valsL p s1 f1) (valsL p s2 f2) (valsL p s3 f3) := by
 have key : ∀ k, k ≤ (ordL p.2.2.1).length → CB α β (valsG p s1 f1 (List.replicate p.2.2.1.length 0) ((ordL p.2.2.1).take k)) (valsG p s2 f2 (List.replicate p.2.2.1.length 0) ((ordL p.2.2.1).take k)) (valsG p s3 f3 (List.replicate p.2.2.1.length 0) ((ordL p.2.2.1).take k)) := by
  intro k
  induction k with
  | zero => intro _; exact CB.rep _
  | succ k ih =>
    intro hk
    have ih := ih (by omega)
    rw [valsG_next (by omega), valsG_next (by omega), valsG_next (by omega)]
    obtain ⟨i, h1, h2, _⟩ := ordL_good p.2.2.1 k (by omega)
    rw [h1]
    simp only [valStep, Int.toNat_natCast]
    exact ih.set i (outP_cb hp hs hf ih h2)
 have := key _ (Nat.le_refl _)
 rwa [List.take_length] at this
theorem nextL_cb (hp : linP p) (hs : SB α β s1 s2 s3) (hf : CB α β f1 f2 f3) {v1 v2 v3 : List Int} (hv : CB α β v1 v2 v3) : SB α β (nextL p s1 f1 v1) (nextL p s2 f2 v2) (nextL p s3 f3 v3) := by
 refine ⟨by rw [nextL_len, nextL_len], by rw [nextL_len, nextL_len], fun i => ?_⟩
 by_cases hi : i < p.2.2.1.length
 · rw [nextL_at hi, nextL_at hi, nextL_at hi]
   exact nextV_cb (lin_at hp hi) (insV_cb hf hv) (hs.2.2 i) (hv.2.2 i)
 · rw [getD_ge (by rw [nextL_len]; omega), getD_ge (by rw [nextL_len]; omega), getD_ge (by rw [nextL_len]; omega)]; exact CB.nil
theorem outsL_cb {v1 v2 v3 : List Int} (hv : CB α β v1 v2 v3) : CB α β (outsL p v1) (outsL p v2) (outsL p v3) := hv.map _
end
theorem startL_cb {p : PatchD} (hp : linP p) : SB α β (startL p) (startL p) (startL p) := by
 refine ⟨rfl, rfl, fun i => ?_⟩
 by_cases hi : i < p.2.2.1.length
 · have e : (startL p).getD i [] = startV (p.2.2.1.getD i n0) := by simp [startL, List.getD, hi]
   rw [e]
   have hk := lin_at hp hi
   generalize p.2.2.1.getD i n0 = n at *
   unfold startV
   rcases hk with h | h | h | h | h | h | h | h <;> rw [h] <;> simp <;> first | exact CB.nil | exact CB.rep _ | exact CB.one (by simp [w32_0])
 · rw [getD_ge (by simp [startL]; omega)]; exact CB.nil
theorem stN_cb {p : PatchD} {a b c : List (List Int)} (hp : linP p) (hf : ∀ i : Nat, CB α β (frameAt a (i : Int)) (frameAt b (i : Int)) (frameAt c (i : Int))) : ∀ i, SB α β (stN p a i) (stN p b i) (stN p c i) := by
 intro i
 induction i with
 | zero => exact startL_cb hp
 | succ i ih =>
   rw [stN_next, stN_next, stN_next]
   exact nextL_cb hp ih (hf i) (valsL_cb hp ih (hf i))
theorem valN_cb {p : PatchD} {a b c : List (List Int)} (hp : linP p) (hf : ∀ i : Nat, CB α β (frameAt a (i : Int)) (frameAt b (i : Int)) (frameAt c (i : Int))) (i : Nat) : CB α β (valN p a i) (valN p b i) (valN p c i) :=
 valsL_cb hp (stN_cb hp hf i) (hf i)
end
theorem CB.zero {a b c : List Int} (h : CB 0 0 a b c) (j : Nat) : c.getD j 0 = 0 := by have := h.2.2 j; rw [this]; simp [w32_0]
theorem list_zero {c : List Int} (h : ∀ j, c.getD j 0 = 0) : c = List.replicate c.length 0 := by
 refine List.ext_getElem (by simp) fun i h1 h2 => ?_
 have := h i
 simp only [List.getD_eq_getElem?_getD, List.getElem?_eq_getElem h1, Option.getD_some] at this
 rw [this]; simp
theorem startV_zero {n : NodeD} (hk : linK n.1) (j : Nat) : (startV n).getD j 0 = 0 := by
 have hr : ∀ m : Nat, (List.replicate m (0 : Int)).getD j 0 = 0 := fun m => by
  by_cases hj : j < m
  · simp [List.getD, hj]
  · rw [getD_ge (by simp; omega)]
 unfold startV
 rcases hk with h | h | h | h | h | h | h | h <;> rw [h] <;> simp [-List.getD_eq_getElem?_getD] <;> first | exact hr _ | exact hr 1 | simp
theorem ext_getD {a b : List Int} (hl : a.length = b.length) (h : ∀ j, a.getD j 0 = b.getD j 0) : a = b := by
 refine List.ext_getElem hl fun i h1 h2 => ?_
 have := h i
 simpa only [List.getD_eq_getElem?_getD, List.getElem?_eq_getElem h1, List.getElem?_eq_getElem h2, Option.getD_some] using this
theorem ext_getD2 {a b : List (List Int)} (hl : a.length = b.length) (h : ∀ j, j < b.length → a.getD j [] = b.getD j []) : a = b := by
 refine List.ext_getElem hl fun i h1 h2 => ?_
 have := h i h2
 simpa only [List.getD_eq_getElem?_getD, List.getElem?_eq_getElem h1, List.getElem?_eq_getElem h2, Option.getD_some] using this
theorem rest_step {p : PatchD} {fr : List Int} (hF : formedB p = true) (hp : linP p) (hl : (fr.length : Int) = p.1) (hz : ∀ j, fr.getD j 0 = 0) : (∀ j, (valsL p (startL p) fr).getD j 0 = 0) ∧ nextL p (startL p) fr (valsL p (startL p) fr) = startL p := by
 have hf : CB 0 0 fr fr fr := ⟨rfl, rfl, fun j => by rw [hz]; simp [w32_0]⟩
 have hv := valsL_cb hp (startL_cb hp) hf
 have hn := nextL_cb hp (startL_cb (α := 0) (β := 0) hp) hf hv
 have hsm : smps fr = true := smps_iff.2 fun x hx => by
  obtain ⟨i, hi, rfl⟩ := List.mem_iff_getElem.1 hx
  have := hz i
  simp only [List.getD_eq_getElem?_getD, List.getElem?_eq_getElem hi, Option.getD_some] at this
  rw [this]; rfl
 have hok := nextL_ok hF (startL_ok hF) hsm (valsL_ok' hF (startL_ok hF) hsm)
 refine ⟨hv.zero, ext_getD2 (by rw [nextL_len]; simp [startL]) fun i hi => ?_⟩
 have hi' : i < p.2.2.1.length := by simpa [startL] using hi
 have e : (startL p).getD i [] = startV (p.2.2.1.getD i n0) := by simp [startL, List.getD, hi']
 have h1 := (hok.2 i hi').1
 refine ext_getD (by rw [h1, e]) fun j => ?_
 rw [(hn.2.2 i).zero, e, startV_zero (lin_at hp hi')]
theorem late_st {p : PatchD} {a b : List (List Int)} {d : Nat} (hF : formedB p = true) (hp : linP p) (hl : (b.length : Int) = p.1) (h0 : ∀ i : Nat, i < d → ∀ j, (frameAt b (i : Int)).getD j 0 = 0) (h1 : ∀ i : Nat, frameAt b ((d + i : Nat) : Int) = frameAt a (i : Int)) :
 (∀ i, i ≤ d → stN p b i = startL p) ∧ ∀ i, stN p b (d + i) = stN p a i := by
 have A : ∀ i, i ≤ d → stN p b i = startL p := by
  intro i
  induction i with
  | zero => intro _; rfl
  | succ i ih =>
    intro hi
    rw [stN_next, valN, ih (by omega)]
    exact (rest_step hF hp (by simp only [frameAt, List.length_map]; exact hl) (h0 i (by omega))).2
 refine ⟨A, fun i => ?_⟩
 induction i with
 | zero => exact A d (Nat.le_refl _)
 | succ i ih =>
   rw [← Nat.add_assoc, stN_next, valN, ih, h1, stN_next, valN]
end Go.Proofs.Ytiafipboklboeaa
namespace Go.Proofs.Ytiafipboklboeaa
open Go.RowKit
theorem cover_le : ∀ (m : Nat) (l : List Int), (∀ i : Nat, i < m → (i : Int) ∈ l) → m ≤ l.length := by
 intro m
 induction m with
 | zero => intro l _; omega
 | succ m ih =>
   intro l h
   have h1 := ih (l.erase (m : Int)) fun i hi => (List.mem_erase_of_ne (by omega)).2 (h i (by omega))
   have h2 := List.length_erase_of_mem (h m (by omega))
   have h3 : 0 < l.length := List.length_pos_of_mem (h m (by omega))
   omega
theorem ordGo_full {ns : List NodeD} (hw : ∀ i : Nat, i < ns.length → ∀ f ∈ waitsL (ns.getD i n0), ∃ j : Nat, f = (j : Int) ∧ j < i) : ∀ (k : Nat) {o : List Int}, o.length + k = ns.length → (ordGo ns k o).length = ns.length := by
 intro k
 induction k with
 | zero => intro o h; simpa [ordGo] using h
 | succ k ih =>
   intro o h
   simp only [ordGo]
   split
   · rename_i hn
     exfalso
     have hall : ∀ i : Nat, i < ns.length → (i : Int) ∈ o := by
      intro i
      induction i using Nat.strongRecOn with
      | _ i ihi =>
        intro hi
        apply Classical.byContradiction
        intro hc
        have h1 := List.find?_eq_none.1 hn i (List.mem_range.2 hi)
        apply h1
        simp only [readyB, Bool.and_eq_true, Bool.not_eq_true', List.all_eq_true, List.contains_eq_mem, decide_eq_true_eq, decide_eq_false_iff_not]
        refine ⟨hc, fun f hf => ?_⟩
        obtain ⟨j, rfl, hj⟩ := hw i hi f hf
        exact ihi j hj (by omega)
     have := cover_le _ _ hall
     omega
   · exact ih (by simp; omega)
theorem ordL_full {ns : List NodeD} (hw : ∀ i : Nat, i < ns.length → ∀ f ∈ waitsL (ns.getD i n0), ∃ j : Nat, f = (j : Int) ∧ j < i) : (ordL ns).length = ns.length := ordGo_full hw _ (by simp)
theorem l01D_smp {n : Nat} {s s' : SrcD} {x : Int} (hs : srcOk n s) (hn : 6 ≤ n) (e : l01D s = (x, s')) : smp x = true := by
 unfold l01D at e
 rcases h1 : pickD 8 s with ⟨v, s1⟩
 rw [bnd_of h1] at e
 obtain ⟨hs1, _⟩ := pickD_at hs (by omega) h1
 split at e
 · obtain ⟨_, hm⟩ := amongD_at hs1 (by omega) (by simp) e
   rw [smp_iff]; simp at hm; omega
 · split at e
   · unfold bnd at e
     simp only [Prod.mk.injEq] at e
     rw [← e.1]; exact smp_w _
   · split at e
     · simp only [Prod.mk.injEq] at e; rw [← e.1]; rfl
     · rcases h2 : pickD 41 s1 with ⟨y, s2⟩
       rw [bnd_of h2] at e
       obtain ⟨_, h3, h4, _⟩ := pickD_at hs1 (by omega) h2
       have h4 := h4 (by omega)
       simp only [Prod.mk.injEq] at e
       rw [← e.1, smp_iff]; omega
theorem picks_rng {b : Int} (hb : 0 < b) : ∀ (k : Nat) {n : Nat} {s s' : SrcD} {xs : List Int}, srcOk n s → 2 * k ≤ n → itD (snocD (pickD b)) k [] s = (xs, s') → ∀ f ∈ xs, 0 ≤ f ∧ f < b := by
 intro k
 induction k with
 | zero => intro n s s' xs _ _ e; simp only [itD, Prod.mk.injEq] at e; rw [← e.1]; simp
 | succ k ih =>
   intro n s s' xs hs hn e f hf
   rcases h1 : itD (snocD (pickD b)) k [] s with ⟨ys, s1⟩
   have h2 := itD_succ h1
   rw [e] at h2
   have hs1 := (Cost.it (snocD_cost (pickD_cost b)) k []).at hs (by omega) h1
   rcases h3 : pickD b s1 with ⟨x, s2⟩
   rw [snocD, bnd_of h3] at h2
   obtain ⟨_, h4, h5, _⟩ := pickD_at hs1 (by omega) h3
   simp only [Prod.mk.injEq] at h2
   rw [h2.1] at hf
   rcases List.mem_append.1 hf with hf | hf
   · exact ih hs (by omega) h1 f hf
   · simp only [List.mem_singleton] at hf; subst hf; exact ⟨h4, h5 (by omega)⟩
theorem overs_rng {b : Int} (hb : 0 < b) : ∀ (k : Nat) {n : Nat} {s s' : SrcD} {xs : List Int}, srcOk n s → 2 * k ≤ n → itD (snocD (overV b)) k [] s = (xs, s') → ∀ f ∈ xs, 0 ≤ f ∧ f < b := by
 intro k
 induction k with
 | zero => intro n s s' xs _ _ e; simp only [itD, Prod.mk.injEq] at e; rw [← e.1]; simp
 | succ k ih =>
   intro n s s' xs hs hn e f hf
   rcases h1 : itD (snocD (overV b)) k [] s with ⟨ys, s1⟩
   have h2 := itD_succ h1
   rw [e] at h2
   have hs1 := (Cost.it (snocD_cost (overV_cost b)) k []).at hs (by omega) h1
   rcases h3 : pickD 2 s1 with ⟨x, s2⟩
   have h3' : overV b s1 = (iMax 0 (b - 1 - x), s2) := bnd_of h3
   rw [snocD, bnd_of h3'] at h2
   obtain ⟨_, h4, h5, _⟩ := pickD_at hs1 (by omega) h3
   simp only [Prod.mk.injEq] at h2
   rw [h2.1] at hf
   rcases List.mem_append.1 hf with hf | hf
   · exact ih hs (by omega) h1 f hf
   · simp only [List.mem_singleton] at hf; subst hf; unfold iMax; omega
theorem outs_rng {b : Int} (hb : 0 < b) : ∀ (k : Nat) {n : Nat} {s s' : SrcD} {xs : List Int}, srcOk n s → 2 * k ≤ n → itD (snocD (outD b)) k [] s = (xs, s') → ∀ f ∈ xs, 0 ≤ f ∧ f < b := by
 intro k
 induction k with
 | zero => intro n s s' xs _ _ e; simp only [itD, Prod.mk.injEq] at e; rw [← e.1]; simp
 | succ k ih =>
   intro n s s' xs hs hn e f hf
   rcases h1 : itD (snocD (outD b)) k [] s with ⟨ys, s1⟩
   have h2 := itD_succ h1
   rw [e] at h2
   have hs1 := (Cost.it (snocD_cost (outD_cost b)) k []).at hs (by omega) h1
   rcases h3 : pickD 3 s1 with ⟨x, s2⟩
   have h3' : outD b s1 = (iMax 0 (b - 1 - x), s2) := bnd_of h3
   rw [snocD, bnd_of h3'] at h2
   obtain ⟨_, h4, h5, _⟩ := pickD_at hs1 (by omega) h3
   simp only [Prod.mk.injEq] at h2
   rw [h2.1] at hf
   rcases List.mem_append.1 hf with hf | hf
   · exact ih hs (by omega) h1 f hf
   · simp only [List.mem_singleton] at hf; subst hf; unfold iMax; omega
def LinN (tl : Int) (nd : NodeD) : Prop := linK nd.1 ∧ l06aB nd.1 nd.2.1 tl = true ∧ (match decide (nd.1 = 17) with | true => inR nd.2.2.1 1 16 | false => decide (nd.2.2.1 = 0)) = true ∧ arOk nd
theorem l06DA_lin {kd tb x : Int} {n : Nat} {s s' : SrcD} (hk : linK kd) (hs : srcOk n s) (hn : 6 ≤ n) (e : l06DA kd tb s = (x, s')) : l06aB kd x tb = true := by
 rcases hk with rfl | rfl | rfl | rfl | rfl | rfl | rfl | rfl
 · have e : pickD 2 s = (x, s') := e
   obtain ⟨_, h1, h2, _⟩ := pickD_at hs (by omega) e
   have := h2 (by omega)
   exact inR_t (by omega) (by omega)
 · simp [l06DA, hasAL] at e; rw [← e.1]; rfl
 · simp [l06DA, hasAL] at e; rw [← e.1]; rfl
 · have e : l01D s = (x, s') := e
   exact l01D_smp hs hn e
 · have e : bnd (pickD 4) (fun x s => (1 + x, s)) s = (x, s') := e
   rcases h1 : pickD 4 s with ⟨v, s1⟩
   rw [bnd_of h1] at e
   obtain ⟨_, h1, h2, _⟩ := pickD_at hs (by omega) h1
   have := h2 (by omega)
   simp only [Prod.mk.injEq] at e
   rw [← e.1]; exact inR_t (by omega) (by omega)
 · simp [l06DA, hasAL] at e; rw [← e.1]; rfl
 · simp [l06DA, hasAL] at e; rw [← e.1]; rfl
 · have e : l01D s = (x, s') := e
   exact l01D_smp hs hn e
theorem l06D_lin {kd tb bl : Int} {nd : NodeD} {n : Nat} {s s' : SrcD} (hk : linK kd) (hs : srcOk n s) (hn : 20 ≤ n) (e : l06D kd tb bl s = (nd, s')) : nd.1 = kd ∧ LinN tb nd ∧ (0 < bl → ∀ f ∈ nd.2.2.2, 0 ≤ f ∧ f < bl) := by
 have hlen := l06D_len e
 have har := arL_bd kd.toNat
 unfold l06D at e
 rcases h1 : l06DA kd tb s with ⟨a, s1⟩
 have ha := l06DA_lin hk hs (by omega) h1
 have hs1 := (l06DA_cost kd tb).at hs (by omega) h1
 rw [bnd_of h1] at e
 rcases h2 : itD (snocD (pickD bl)) (arL.getD kd.toNat 0).toNat [] s1 with ⟨fr, s2⟩
 have hs2 := (Cost.it (snocD_cost (pickD_cost bl)) (arL.getD kd.toNat 0).toNat []).at hs1 (by omega) h2
 have hfr : 0 < bl → ∀ f ∈ fr, 0 ≤ f ∧ f < bl := fun hb => picks_rng hb _ hs1 (by omega) h2
 rw [bnd_of h2] at e
 have har2 : arOk nd := by unfold arOk; rw [hlen.2]; exact hlen.1
 split at e
 · rename_i h17
   have h17 := of_decide_eq_true h17
   rcases h3 : pickD 3 s2 with ⟨x, s3⟩
   rw [bnd_of h3] at e
   obtain ⟨_, h4, h5, _⟩ := pickD_at hs2 (by omega) h3
   have h5 := h5 (by omega)
   simp only [Prod.mk.injEq] at e
   obtain ⟨e, _⟩ := e
   subst e
   refine ⟨rfl, ⟨hk, ha, ?_, har2⟩, hfr⟩
   simp only [decide_eq_true h17]
   exact inR_t (by omega) (by omega)
 · rename_i h17
   simp only [Prod.mk.injEq] at e
   obtain ⟨e, _⟩ := e
   subst e
   refine ⟨rfl, ⟨hk, ha, ?_, har2⟩, hfr⟩
   simp only [h17]; rfl
def NodeOk (inp tl : Int) (bl : Nat) (nd : NodeD) : Prop := LinN tl nd ∧ (nd.1 = 1 → 0 ≤ nd.2.1 ∧ nd.2.1 < inp) ∧ ∀ f ∈ nd.2.2.2, 0 ≤ f ∧ f < bl
theorem kindF_lin {inp bl k0 : Int} (hi : 1 ≤ inp) (hk : k0 ∈ kindsD true) : linK (kindF true inp bl k0) ∧ (bl = 0 → kindF true inp bl k0 = 1) := by
 have hk0 : linK k0 := by simp [kindsD] at hk; unfold linK; omega
 unfold kindF
 cases h : kindU inp bl k0 with
 | true => exact ⟨.inl rfl, fun _ => rfl⟩
 | false =>
   refine ⟨hk0, fun hb => ?_⟩
   show k0 = 1
   have hn : ¬ ((k0 = 1 ∧ inp = 0) ∨ (bl = 0 ∧ 0 < arL.getD k0.toNat 0)) := fun hh => by rw [kindU_t hh] at h; cases h
   rcases hk0 with rfl | rfl | rfl | rfl | rfl | rfl | rfl | rfl
   · rfl
   all_goals (exfalso; exact hn (.inr ⟨hb, by decide⟩))
theorem nodeStep_lin {inp tl : Int} {ns ms : List NodeD} {n : Nat} {s s' : SrcD} (hi : 1 ≤ inp ∧ inp ≤ 4) (hs : srcOk n s) (hn : 52 ≤ n) (e : nodeStep true inp tl ns s = (ms, s')) : ∃ nd, ms = ns ++ [nd] ∧ NodeOk inp tl ns.length nd := by
 unfold nodeStep at e
 rcases h1 : amongD (kindsD true) s with ⟨k0, s1⟩
 rw [bnd_of h1] at e
 obtain ⟨hs1, hm⟩ := amongD_at hs (by omega) (kindsD_pos true) h1
 obtain ⟨hk, hk1⟩ := kindF_lin (bl := ns.length) hi.1 hm
 generalize kindF true inp ns.length k0 = kd at *
 rcases h2 : l06D kd tl ns.length s1 with ⟨nd, s2⟩
 rw [bnd_of h2] at e
 obtain ⟨q1, q2, q3⟩ := l06D_lin hk hs1 (by omega) h2
 have hs2 := (l06D_cost kd tl ns.length).at hs1 (by omega) h2
 rcases h3 : inA inp kd nd s2 with ⟨n1, s3⟩
 rw [bnd_of h3] at e
 have hs3 := (inA_cost inp kd nd).at hs2 (by omega) h3
 rcases h4 : restD kd tl ns.length n1 s3 with ⟨x, s4⟩
 rw [bnd_of h4] at e
 simp only [Prod.mk.injEq] at e
 refine ⟨x, e.1.symm, ?_⟩
 have fr0 : ∀ y : NodeD, LinN tl y → y.1 = kd → (0 < (ns.length : Int) → ∀ f ∈ y.2.2.2, 0 ≤ f ∧ f < (ns.length : Int)) → ∀ f ∈ y.2.2.2, 0 ≤ f ∧ f < (ns.length : Int) := by
  intro y hy hyk hyf f hf
  by_cases hb : 0 < (ns.length : Int)
  · exact hyf hb f hf
  · exfalso
    have hk1 := hk1 (by omega)
    have := hy.2.2.2
    unfold arOk at this
    rw [hyk, hk1] at this
    have h5 : y.2.2.2 = [] := List.eq_nil_of_length_eq_zero this
    rw [h5] at hf; cases hf
 have ok1 : NodeOk inp tl ns.length n1 ∧ n1.1 = kd := by
  unfold inA at h3
  split at h3
  · rename_i hk6
    have hk6 := of_decide_eq_true hk6
    rcases h5 : pickD inp s2 with ⟨v, s5⟩
    rw [bnd_of h5] at h3
    obtain ⟨_, h6, h7, _⟩ := pickD_at hs2 (by omega) h5
    have h7 := h7 hi.1
    simp only [Prod.mk.injEq] at h3
    obtain ⟨h3, _⟩ := h3
    subst h3
    have hL : LinN tl (nd.1, v, nd.2.2.1, nd.2.2.2) := ⟨q2.1, by
     show l06aB nd.1 v tl = true
     rw [q1, hk6]; exact inR_t (by omega) (by omega), q2.2.2.1, q2.2.2.2⟩
    exact ⟨⟨hL, fun _ => ⟨h6, h7⟩, fr0 _ hL q1 q3⟩, q1⟩
  · rename_i hk6
    have hk6 := of_decide_eq_false hk6
    simp only [Prod.mk.injEq] at h3
    obtain ⟨h3, _⟩ := h3
    subst h3
    exact ⟨⟨q2, fun hh => absurd (q1.symm.trans hh) hk6, fr0 _ q2 q1 q3⟩, q1⟩
 unfold restD at h4
 rcases h5 : oneD 3 s3 with ⟨o, s5⟩
 rw [bnd_of h5] at h4
 have hs5 := oneD_at hs3 (by omega) h5
 cases hb : backB o ns.length kd with
 | true =>
   simp only [hb] at h4
   have hbp : 0 < (ns.length : Int) ∧ ¬ kd = 1 := by
    simp only [backB, Bool.and_eq_true, Bool.not_eq_true', decide_eq_true_eq, decide_eq_false_iff_not] at hb
    exact ⟨hb.2.1, hb.2.2.1⟩
   rcases h6 : l06D kd tl 1 s5 with ⟨n2, s6⟩
   rw [bnd_of h6] at h4
   obtain ⟨r1, r2, r3⟩ := l06D_lin hk hs5 (by omega) h6
   have hs6 := (l06D_cost kd tl 1).at hs5 (by omega) h6
   have hl2 : n2.2.2.2.length ≤ 3 := arOk_le r2.2.2.2
   rcases h7 : itD (snocD (overV ns.length)) n2.2.2.2.length [] s6 with ⟨fr, s7⟩
   rw [bnd_of h7] at h4
   have hfr := overs_rng hbp.1 _ hs6 (by omega) h7
   have hfl : fr.length = n2.2.2.2.length := by have := itD_len (m := overV ns.length) (k := n2.2.2.2.length) (s := s6) (xs := []); rw [h7] at this; simpa using this
   simp only [Prod.mk.injEq] at h4
   obtain ⟨h4, _⟩ := h4
   subst h4
   refine ⟨⟨r2.1, r2.2.1, r2.2.2.1, ?_⟩, fun hh => absurd (r1.symm.trans hh) hbp.2, hfr⟩
   unfold arOk
   simp only
   rw [hfl]; exact r2.2.2.2
 | false =>
   simp only [hb, Prod.mk.injEq] at h4
   obtain ⟨h4, _⟩ := h4
   subst h4
   exact ok1.1
theorem nodes_lin {inp tl : Int} (hi : 1 ≤ inp ∧ inp ≤ 4) : ∀ (k : Nat) {n : Nat} {s s' : SrcD} {ms : List NodeD}, srcOk n s → 52 * k ≤ n → itD (nodeStep true inp tl) k [] s = (ms, s') → ms.length = k ∧ ∀ i, i < ms.length → NodeOk inp tl i (ms.getD i n0) := by
 intro k
 induction k with
 | zero => intro n s s' ms _ _ e; simp only [itD, Prod.mk.injEq] at e; rw [← e.1]; exact ⟨rfl, fun i hi => by simp at hi⟩
 | succ k ih =>
   intro n s s' ms hs hn e
   rcases h1 : itD (nodeStep true inp tl) k [] s with ⟨ns, s1⟩
   have h2 := itD_succ h1
   rw [e] at h2
   have hs1 := (Cost.it (nodeStep_cost true inp tl) k []).at hs (by omega) h1
   obtain ⟨i1, i2⟩ := ih hs (by omega) h1
   obtain ⟨nd, rfl, hnd⟩ := nodeStep_lin hi hs1 (by omega) h2.symm
   refine ⟨by simp [i1], fun i hi' => ?_⟩
   simp only [List.length_append, List.length_cons, List.length_nil] at hi'
   by_cases hc : i < ns.length
   · rw [List.getD_eq_getElem?_getD, List.getElem?_append_left hc, ← List.getD_eq_getElem?_getD]; exact i2 i hc
   · obtain rfl : i = ns.length := by omega
     rw [List.getD_eq_getElem?_getD, List.getElem?_append_right (by omega), Nat.sub_self]; exact hnd
def NodeFin (inp tl : Int) (n bl : Nat) (nd : NodeD) : Prop := LinN tl nd ∧ (nd.1 = 1 → 0 ≤ nd.2.1 ∧ nd.2.1 < inp) ∧ (∀ f ∈ nd.2.2.2, 0 ≤ f ∧ f < n) ∧ (nd.1 ≠ 6 → ∀ f ∈ nd.2.2.2, f < bl)
theorem dels_lin {inp tl : Int} {L : Nat} (hL : 0 < L) : ∀ (k : Nat) {n : Nat} {s s' : SrcD} {ns ms : List NodeD}, ns.length = L → (∀ i, i < L → NodeFin inp tl L i (ns.getD i n0)) → srcOk n s → 4 * k ≤ n → itI (delOne (L : Int)) k ns s = (ms, s') → ms.length = L ∧ ∀ i, i < L → NodeFin inp tl L i (ms.getD i n0) := by
 intro k
 induction k with
 | zero => intro n s s' ns ms hl h _ _ e; simp only [itI, Prod.mk.injEq] at e; rw [← e.1]; exact ⟨hl, h⟩
 | succ k ih =>
   intro n s s' ns ms hl h hs hn e
   rcases h1 : itI (delOne (L : Int)) k ns s with ⟨qs, s1⟩
   have h2 := itI_succ h1
   rw [e] at h2
   have hs1 := (Cost.itI (delOne_cost (L : Int)) k ns).at hs (by omega) h1
   obtain ⟨i1, i2⟩ := ih hl h hs (by omega) h1
   have h2 := h2.symm
   unfold delOne at h2
   split at h2
   · rename_i h6
     have h6 := of_decide_eq_true h6
     rcases h3 : oneD 2 s1 with ⟨o, s3⟩
     rw [bnd_of h3] at h2
     have hs3 := oneD_at hs1 (by omega) h3
     cases o with
     | true =>
       simp only at h2
       rcases h4 : pickD (L : Int) s3 with ⟨v, s4⟩
       rw [bnd_of h4] at h2
       obtain ⟨_, h5, h7, _⟩ := pickD_at hs3 (by omega) h4
       have h7 := h7 (by omega)
       simp only [Prod.mk.injEq] at h2
       rw [← h2.1]
       refine ⟨by rw [List.length_set]; exact i1, fun i hi => ?_⟩
       by_cases hk : k = i
       · subst hk
         rw [getD_set (by omega), if_pos rfl]
         obtain ⟨a1, a2, a3, a4⟩ := i2 k hi
         refine ⟨⟨a1.1, a1.2.1, a1.2.2.1, ?_⟩, a2, fun f hf => ?_, fun hh => absurd h6 hh⟩
         · have := a1.2.2.2; unfold arOk at this ⊢; simp only [setF, List.length_set]; exact this
         · rcases List.mem_or_eq_of_mem_set hf with hf | rfl
           · exact a3 f hf
           · exact ⟨h5, h7⟩
       · by_cases hkl : k < qs.length
         · rw [getD_set hkl, if_neg hk]; exact i2 i hi
         · rw [List.set_eq_of_length_le (by omega)]; exact i2 i hi
     | false => simp only [Prod.mk.injEq] at h2; rw [← h2.1]; exact ⟨i1, i2⟩
   · simp only [Prod.mk.injEq] at h2; rw [← h2.1]; exact ⟨i1, i2⟩
theorem LinN.b {tl : Int} {nd : NodeD} (h : LinN tl nd) (hf : ∀ f ∈ nd.2.2.2, 0 ≤ f ∧ f ≤ 23) : nodeB nd tl = true := by
 obtain ⟨kd, a, bb, fr⟩ := nd
 obtain ⟨h1, h2, h3, h4⟩ := h
 rw [← l06okB_eq]
 unfold l06okB
 have hk : inR kd 1 17 = true := by simp only at h1; unfold linK at h1; exact inR_t (by omega) (by omega)
 have h5 : decide ((fr.length : Int) = arL.getD kd.toNat 0) = true := by
  unfold arOk at h4
  simp only at h4 h1
  rcases h1 with rfl | rfl | rfl | rfl | rfl | rfl | rfl | rfl <;> rw [h4] <;> rfl
 have h6 : fr.all (fun f => inR f 0 23) = true := List.all_eq_true.2 fun f hf' => inR_t (hf f hf').1 (hf f hf').2
 simp only at h2 h3
 rw [hk, h2, h5, h6]; exact h3
theorem l07D_lin {inp out most : Int} {n : Nat} {s s' : SrcD} {p : PatchD} (hs : srcOk n s) (hn : 1300 ≤ n) (hi : 1 ≤ inp ∧ inp ≤ 4) (ho : 0 ≤ out ∧ out ≤ 4) (hm : 1 ≤ most ∧ most ≤ 20) (e : l07D inp out most true s = (p, s')) :
 patchB p = true ∧ linP p ∧ p.1 = inp ∧ p.2.2.2.length = out.toNat ∧ p.2.1 = [] := by
 unfold l07D at e
 have e : bnd (pickD most) (fun x s => bnd (itD (nodeStep true inp (([] : List (List Int)).length : Int)) (1 + x).toNat []) (fun ns s => bnd (itI (delOne ns.length) ns.length ns) (fun ms s => bnd (itD (snocD (outD ns.length)) out.toNat []) (fun os s => ((inp, [], ms, os), s)) s) s) s) s = (p, s') := e
 rcases hp : pickD most s with ⟨x, s1⟩
 rw [bnd_of hp] at e
 obtain ⟨hs1, hx0, hx1, _⟩ := pickD_at hs (by omega) hp
 have hx1 := hx1 hm.1
 rcases hit : itD (nodeStep true inp (([] : List (List Int)).length : Int)) (1 + x).toNat [] s1 with ⟨ns, s2⟩
 rw [bnd_of hit] at e
 obtain ⟨hl, ha⟩ := nodes_lin hi _ hs1 (by omega) hit
 have hs2 := (Cost.it (nodeStep_cost true inp (([] : List (List Int)).length : Int)) (1 + x).toNat []).at hs1 (by omega) hit
 rcases hid : itI (delOne ns.length) ns.length ns s2 with ⟨ms, s3⟩
 rw [bnd_of hid] at e
 have hL : 0 < ns.length := by omega
 have hfin : ∀ i, i < ns.length → NodeFin inp (([] : List (List Int)).length : Int) ns.length i (ns.getD i n0) := fun i hi' => by
  obtain ⟨a1, a2, a3⟩ := ha i hi'
  exact ⟨a1, a2, fun f hf => by have := a3 f hf; omega, fun _ f hf => (a3 f hf).2⟩
 obtain ⟨b1, b2⟩ := dels_lin hL ns.length rfl hfin hs2 (by omega) hid
 have hs3 := (Cost.itI (delOne_cost ns.length) ns.length ns).at hs2 (by omega) hid
 rcases hio : itD (snocD (outD ns.length)) out.toNat [] s3 with ⟨os, s4⟩
 rw [bnd_of hio] at e
 have hlo : os.length = out.toNat := by have := itD_len (m := outD ns.length) (k := out.toNat) (s := s3) (xs := []); rw [hio] at this; simpa using this
 have hos := outs_rng (b := ns.length) (by omega) _ hs3 (by omega) hio
 simp only [Prod.mk.injEq] at e
 obtain ⟨e, _⟩ := e
 subst e
 have hlen : ns.length ≤ 20 := by omega
 have hmem : ∀ nd ∈ ms, ∃ i, i < ns.length ∧ nd = ms.getD i n0 := fun nd hd => by
  obtain ⟨i, hi', rfl⟩ := List.mem_iff_getElem.1 hd
  exact ⟨i, by omega, by simp [List.getD, hi']⟩
 have hF : formedB (inp, [], ms, os) = true := by
  have c1 : inR inp 0 4 = true := inR_t (by omega) (by omega)
  have c2 : decide (ms.length ≤ 24) = true := decide_eq_true (by omega)
  have c3 : decide (os.length ≤ 4) = true := decide_eq_true (by omega)
  have c4 : idxs (ms.length : Int) os = true := List.all_eq_true.2 fun f hf => by have := hos f hf; exact inR_t (by omega) (by omega)
  have c5 : ms.all (nodeIn (inp, [], ms, os)) = true := List.all_eq_true.2 fun nd hd => by
   obtain ⟨i, hi', rfl⟩ := hmem nd hd
   obtain ⟨a1, a2, a3, a4⟩ := b2 i hi'
   refine nodeIn_t (a1.b fun f hf => by have := a3 f hf; omega) (List.all_eq_true.2 fun f hf => by have := a3 f hf; exact inR_t (by omega) (by show f ≤ (ms.length : Int) - 1; omega)) fun hh => ?_
   have := a2 hh.1
   have h3 : inp ≤ (ms.getD i n0).2.1 := hh.2
   omega
  unfold formedB
  simp only [c1, c2, c3, c4, c5, Bool.and_self, Bool.and_true]
  rfl
 have hO : (ordL ms).length = ms.length := ordL_full fun i hi' f hf => by
  obtain ⟨a1, a2, a3, a4⟩ := b2 i (by omega)
  unfold waitsL at hf
  split at hf
  · cases hf
  · rename_i h6
    have h6 := of_decide_eq_false h6
    have h7 := a3 f hf
    have h8 := a4 h6 f hf
    exact ⟨f.toNat, by omega, by omega⟩
 refine ⟨?_, fun nd hd => ?_, rfl, hlo, rfl⟩
 · unfold patchB; rw [hF]; simp only [Bool.true_and]; exact decide_eq_true hO
 · obtain ⟨i, hi', rfl⟩ := hmem nd hd
   exact (b2 i hi').1.1
def linD : DM PatchD := bnd (pickD 2) fun a s => bnd (pickD 2) (fun b s => l07D (1 + a) (1 + b) 9 true s) s
theorem linD_cost : Cost 1304 linD := by
 refine (costPick (b := 1302) fun a h0 h1 _ => ?_).le (by omega)
 refine (costPick (b := 1300) fun b k0 k1 _ => ?_).le (by omega)
 have h1 := h1 (by omega)
 have k1 := k1 (by omega)
 exact l07D_cost (by omega) (by omega)
theorem linD_ok {n : Nat} {s s' : SrcD} {p : PatchD} (hs : srcOk n s) (hn : 1304 ≤ n) (e : linD s = (p, s')) : patchB p = true ∧ linP p ∧ (1 ≤ p.1 ∧ p.1 ≤ 2) ∧ (1 ≤ p.2.2.2.length ∧ p.2.2.2.length ≤ 2) ∧ p.2.1 = [] := by
 unfold linD at e
 rcases h1 : pickD 2 s with ⟨a, s1⟩
 rw [bnd_of h1] at e
 obtain ⟨hs1, a0, a1, _⟩ := pickD_at hs (by omega) h1
 have a1 := a1 (by omega)
 rcases h2 : pickD 2 s1 with ⟨b, s2⟩
 rw [bnd_of h2] at e
 obtain ⟨hs2, b0, b1, _⟩ := pickD_at hs1 (by omega) h2
 have b1 := b1 (by omega)
 obtain ⟨q1, q2, q3, q4, q5⟩ := l07D_lin hs2 (by omega) (by omega) (by omega) (by omega) e
 exact ⟨q1, q2, by omega, by omega, q5⟩
end Go.Proofs.Ytiafipboklboeaa
namespace Go.Proofs.Ytiafipboklboeaa
open Go.RowKit
def atD (cd : List Int) (i n : Int) : Int := match decide (n ≤ 1) with
 | true => 0
 | false => match decide (i < cd.length) with
   | true => (IntKind.i64.wrap (cd.getD i.toNat 0)).tmod n
   | false => (i * 37 + 11).tmod n
theorem atD_rng {cd : List Int} {i n : Int} (h : ∀ b ∈ cd, 0 ≤ b ∧ b ≤ 255) (hi : 0 ≤ i) (hn : 1 ≤ n) : 0 ≤ atD cd i n ∧ atD cd i n < n := by
 unfold atD
 split
 · rename_i h1; have := of_decide_eq_true h1; omega
 · split
   · rename_i h2
     have h2 := of_decide_eq_true h2
     have := h _ (getD_mem (d := (0 : Int)) (show i.toNat < cd.length by omega))
     rw [wrapI (by omega)]
     exact ⟨Int.tmod_nonneg _ (by omega), Int.tmod_lt_of_pos _ (by omega)⟩
   · exact ⟨Int.tmod_nonneg _ (by omega), Int.tmod_lt_of_pos _ (by omega)⟩
theorem map_range_next {α : Type} (f : Nat → α) (k : Nat) : (List.range k).map f ++ [f k] = (List.range (k + 1)).map f := by simp [List.range_succ]
theorem map_range_at {α : Type} {f : Nat → α} {n i : Nat} {d : α} (h : i < n) : ((List.range n).map f).getD i d = f i := by simp [List.getD, h]
def addN (a b : List Int) (g : Int) (n : Nat) : List Int := (List.range n).map fun i => wrap32 (a.getD i 0 + wrap32 (b.getD i 0 * g))
def addG (a b : List Int) (g : Int) : List Int := addN a b g (iMax (a.length : Int) (b.length : Int)).toNat
theorem addN_next (a b : List Int) (g : Int) (k : Nat) : addN a b g k ++ [wrap32 (a.getD k 0 + wrap32 (b.getD k 0 * g))] = addN a b g (k + 1) := map_range_next _ k
theorem addN_len (a b : List Int) (g : Int) (k : Nat) : (addN a b g k).length = k := by simp [addN]
def addS (a b : List Int) : List Int := addG a b 1
def sumL (a b : List (List Int)) (n : Nat) : List (List Int) := (List.range n).map fun i => addS (a.getD i []) (b.getD i [])
def lateS (a : List Int) (n : Nat) : List Int := List.replicate n 0 ++ a
theorem addS_len (a b : List Int) : (addS a b).length = max a.length b.length := by
 unfold addS addG iMax
 rw [addN_len]; omega
theorem addS_at (a b : List Int) (i : Nat) : (addS a b).getD i 0 = wrap32 (a.getD i 0 + b.getD i 0) := by
 by_cases h : i < max a.length b.length
 · unfold addS addG addN; rw [map_range_at (by unfold iMax; omega), Int.mul_one, w32_ar]
 · rw [getD_ge (by rw [addS_len]; omega), getD_ge (by omega), getD_ge (by omega)]; simp [w32_0]
theorem addS_smp (a b : List Int) : smps (addS a b) = true := smps_iff.2 fun x hx => by
 obtain ⟨i, _, rfl⟩ := List.mem_map.1 hx
 exact smp_w _
theorem lateS_at (a : List Int) (d i : Nat) : (lateS a d).getD i 0 = if i < d then 0 else a.getD (i - d) 0 := by
 unfold lateS
 rw [List.getD_eq_getElem?_getD]
 by_cases h : i < d
 · rw [List.getElem?_append_left (by simpa using h), if_pos h]; simp [h]
 · rw [List.getElem?_append_right (by simp; omega), if_neg h, List.length_replicate, List.getD_eq_getElem?_getD]
def addR (a b : List Int) : List Int × Int := match l03B a && l03B b with
 | true => (addG a b 1, 0)
 | false => ([], 1)
theorem addR_t {a b : List Int} (h : l03B a = true) (k : l03B b = true) : addR a b = (addS a b, 0) := by unfold addR; rw [h, k]; rfl
def sumR (a b : List (List Int)) (n : Nat) : List (List Int) := (List.range n).map fun i => (addR (a.getD i []) (b.getD i [])).1
theorem sumR_next (a b : List (List Int)) (k : Nat) : sumR a b k ++ [(addR (a.getD k []) (b.getD k [])).1] = sumR a b (k + 1) := map_range_next _ k
theorem sumR_len (a b : List (List Int)) (k : Nat) : (sumR a b k).length = k := by simp [sumR]
theorem sumR_eq {a b : List (List Int)} {n : Nat} (ha : ∀ i, i < n → l03B (a.getD i []) = true) (hb : ∀ i, i < n → l03B (b.getD i []) = true) : sumR a b n = sumL a b n :=
 List.map_congr_left fun i hi => by rw [addR_t (ha i (List.mem_range.1 hi)) (hb i (List.mem_range.1 hi))]
def delayR (a : List Int) (n : Int) : List Int × Int := match l03B a with
 | false => ([], 1)
 | true => match inR n 0 4000 with
   | false => ([], 2)
   | true => match decide (4000 < (a.length : Int) + n) with
     | true => ([], 5)
     | false => (lateS a n.toNat, 0)
theorem delayR_1 {a : List Int} {n : Int} (h : l03B a = false) : delayR a n = ([], 1) := by unfold delayR; rw [h]
theorem delayR_2 {a : List Int} {n : Int} (h : l03B a = true) (k : inR n 0 4000 = false) : delayR a n = ([], 2) := by unfold delayR; rw [h, k]
theorem delayR_5 {a : List Int} {n : Int} (h : l03B a = true) (k : inR n 0 4000 = true) (l : 4000 < (a.length : Int) + n) : delayR a n = ([], 5) := by unfold delayR; rw [h, k, decide_eq_true l]
theorem delayR_0 {a : List Int} {n : Int} (h : l03B a = true) (k : inR n 0 4000 = true) (l : (a.length : Int) + n ≤ 4000) : delayR a n = (lateS a n.toNat, 0) := by unfold delayR; rw [h, k, decide_eq_false (by omega)]
theorem l03B_t {a : List Int} (h : a.length ≤ 4000) (k : smps a = true) : l03B a = true := by unfold l03B; rw [decide_eq_true h, k]; rfl
theorem l03B_i {a : List Int} (h : l03B a = true) : a.length ≤ 4000 ∧ smps a = true := by unfold l03B at h; simpa using h
def sigA (mr : List Int) (i : Nat) (k : Nat) : Int := atD mr (20 * i + k) 256 - 128
def sigC (mr : List Int) (i : Nat) (k : Nat) : Int := 1000 * atD mr (20 * i + 8 + k) 256
def rowN (f : Nat → Int) (n : Nat) : List Int := (List.range n).map f
theorem rowN_len (f : Nat → Int) (n : Nat) : (rowN f n).length = n := by simp [rowN]
theorem rowN_next (f : Nat → Int) (n : Nat) : rowN f n ++ [f n] = rowN f (n + 1) := map_range_next f n
def rowA (mr : List Int) (i : Nat) : List Int := rowN (sigA mr i) 8
def rowC (mr : List Int) (i : Nat) : List Int := rowN (sigC mr i) 8
theorem rowA_ok {mr : List Int} (h : ∀ b ∈ mr, 0 ≤ b ∧ b ≤ 255) (i : Nat) : (rowA mr i).length = 8 ∧ smps (rowA mr i) = true := by
 refine ⟨rowN_len _ _, smps_iff.2 fun x hx => ?_⟩
 obtain ⟨k, _, rfl⟩ := List.mem_map.1 hx
 have := atD_rng (i := 20 * (i : Int) + k) (n := 256) h (by omega) (by omega)
 rw [smp_iff]; unfold sigA; omega
theorem rowC_ok {mr : List Int} (h : ∀ b ∈ mr, 0 ≤ b ∧ b ≤ 255) (i : Nat) : (rowC mr i).length = 8 ∧ smps (rowC mr i) = true := by
 refine ⟨rowN_len _ _, smps_iff.2 fun x hx => ?_⟩
 obtain ⟨k, _, rfl⟩ := List.mem_map.1 hx
 have := atD_rng (i := 20 * (i : Int) + 8 + k) (n := 256) h (by omega) (by omega)
 rw [smp_iff]; unfold sigC; omega
def insM (f : Nat → List Int) (n : Nat) : List (List Int) := (List.range n).map f
theorem insM_ok {p : PatchD} {f : Nat → List Int} {n : Nat} (hn : (n : Int) = p.1) (h : ∀ i, (f i).length ≤ 4000 ∧ smps (f i) = true) : insOk p (insM f n) :=
 ⟨by simpa [insM] using hn, fun a ha => by obtain ⟨i, _, rfl⟩ := List.mem_map.1 ha; exact h i⟩
theorem frameAt_M {f : Nat → List Int} {n : Nat} (i : Nat) (j : Nat) : (frameAt (insM f n) (i : Int)).getD j 0 = if j < n then (f j).getD i 0 else 0 := by
 by_cases h : j < n
 · rw [if_pos h, frameAt_at (by simpa [insM] using h), insM, map_range_at h, Int.toNat_natCast]
 · rw [if_neg h, getD_ge (by simp [frameAt, insM]; omega)]
theorem frameAt_Ml {f : Nat → List Int} {n : Nat} (i : Int) : (frameAt (insM f n) i).length = n := by simp [frameAt, insM]
theorem smps_late {a : List Int} {d : Nat} (h : smps a = true) : smps (lateS a d) = true := smps_iff.2 fun x hx => by
 rcases List.mem_append.1 hx with hx | hx
 · rw [(List.mem_replicate.1 hx).2]; rfl
 · exact smps_iff.1 h x hx
section
variable {p : PatchD} {n : Nat} {f g : Nat → List Int}
theorem sumL_M : sumL (insM f n) (insM g n) n = insM (fun i => addS (f i) (g i)) n := by
 refine List.map_congr_left fun i hi => ?_
 have hi := List.mem_range.1 hi
 rw [insM, map_range_at hi, insM, map_range_at hi]
theorem render_sum (hP : patchB p = true) (hp : linP p) (hn : (n : Int) = p.1) (hf : ∀ i, (f i).length ≤ 4000 ∧ smps (f i) = true) (hg : ∀ i, (g i).length ≤ 4000 ∧ smps (g i) = true) (m : Nat) :
 renderL p (insM (fun i => addS (f i) (g i)) n) m = sumL (renderL p (insM f n) m) (renderL p (insM g n) m) p.2.2.2.length := by
 have hF := (patchB_parts hP).1
 have h1 := insM_ok hn hf
 have h2 := insM_ok hn hg
 have h3 : insOk p (insM (fun i => addS (f i) (g i)) n) := insM_ok hn fun i => ⟨by rw [addS_len]; have := (hf i).1; have := (hg i).1; omega, addS_smp _ _⟩
 have hfr : ∀ i : Nat, CB 1 1 (frameAt (insM f n) (i : Int)) (frameAt (insM g n) (i : Int)) (frameAt (insM (fun i => addS (f i) (g i)) n) (i : Int)) := fun i => by
  refine ⟨by rw [frameAt_Ml, frameAt_Ml], by rw [frameAt_Ml, frameAt_Ml], fun j => ?_⟩
  rw [frameAt_M, frameAt_M, frameAt_M]
  split
  · rw [addS_at, Int.one_mul, Int.one_mul]
  · simp [w32_0]
 refine ext_getD2 (by rw [renderL_len hF h3]; simp [sumL]) fun k hk => ?_
 have hk : k < p.2.2.2.length := by simpa [sumL] using hk
 rw [sumL, map_range_at hk]
 have l1 := lenN hF h1 hk m
 have l2 := lenN hF h2 hk m
 have l3 := lenN hF h3 hk m
 refine ext_getD (by rw [addS_len, l1, l2, l3]; omega) fun i => ?_
 rw [addS_at]
 by_cases hi : i < m
 · rw [colN hF h3 hk m hi, colN hF h1 hk m hi, colN hF h2 hk m hi]
   have := (outsL_cb (p := p) (valN_cb hp hfr i)).2.2 k
   rwa [Int.one_mul, Int.one_mul] at this
 · rw [getD_ge (by omega), getD_ge (by omega), getD_ge (by omega)]; simp [w32_0]
theorem render_late (hP : patchB p = true) (hp : linP p) (hn : (n : Int) = p.1) (hf : ∀ i, (f i).length ≤ 3000 ∧ smps (f i) = true) (m d : Nat) (hd : d ≤ 1000) {k : Nat} (hk : k < p.2.2.2.length) :
 (renderL p (insM (fun i => lateS (f i) d) n) (d + m)).getD k [] = lateS ((renderL p (insM f n) m).getD k []) d := by
 have hF := (patchB_parts hP).1
 have h1 : insOk p (insM f n) := insM_ok hn fun i => ⟨by have := (hf i).1; omega, (hf i).2⟩
 have h3 : insOk p (insM (fun i => lateS (f i) d) n) := insM_ok hn fun i => ⟨by have := (hf i).1; simp only [lateS, List.length_append, List.length_replicate]; omega, smps_late (hf i).2⟩
 have z0 : ∀ i : Nat, i < d → ∀ j, (frameAt (insM (fun i => lateS (f i) d) n) (i : Int)).getD j 0 = 0 := fun i hi j => by
  rw [frameAt_M]
  split
  · rw [lateS_at, if_pos hi]
  · rfl
 have z1 : ∀ i : Nat, frameAt (insM (fun i => lateS (f i) d) n) ((d + i : Nat) : Int) = frameAt (insM f n) (i : Int) := fun i => by
  refine ext_getD (by rw [frameAt_Ml, frameAt_Ml]) fun j => ?_
  rw [frameAt_M, frameAt_M]
  split
  · rw [lateS_at, if_neg (by omega)]; congr 1; omega
  · rfl
 obtain ⟨A, B⟩ := late_st hF hp h3.1 z0 z1
 have l1 := lenN hF h1 hk m
 have l3 := lenN hF h3 hk (d + m)
 refine ext_getD (by rw [l3]; simp only [lateS, List.length_append, List.length_replicate]; omega) fun i => ?_
 rw [lateS_at]
 by_cases hi : i < d + m
 · rw [colN hF h3 hk _ hi]
   by_cases hid : i < d
   · rw [if_pos hid, valN, A i (by omega)]
     have hz := (rest_step hF hp (fr := frameAt (insM (fun i => lateS (f i) d) n) (i : Int)) (by rw [frameAt_Ml]; exact hn) (z0 i hid)).1
     have e : (outsL p (valsL p (startL p) (frameAt (insM (fun i => lateS (f i) d) n) (i : Int)))).getD k 0 = (valsL p (startL p) (frameAt (insM (fun i => lateS (f i) d) n) (i : Int))).getD (p.2.2.2.getD k 0).toNat 0 := by simp [outsL, List.getD, hk]
     rw [e]; exact hz _
   · rw [if_neg hid, colN hF h1 hk m (by omega)]
     obtain ⟨q, rfl⟩ : ∃ q, i = d + q := ⟨i - d, by omega⟩
     rw [Nat.add_sub_cancel_left, valN, B, z1]; rfl
 · rw [getD_ge (by omega), if_neg (by omega), getD_ge (by omega)]
theorem render_smp {ins : List (List Int)} (hP : patchB p = true) (hin : insOk p ins) {k m : Nat} (hk : k < p.2.2.2.length) (hm : m ≤ 4000) : l03B ((renderL p ins m).getD k []) = true := by
 have hF := (patchB_parts hP).1
 have hl := lenN hF hin hk m
 refine l03B_t (by omega) (smps_iff.2 fun x hx => ?_)
 obtain ⟨i, hi, rfl⟩ := List.mem_iff_getElem.1 hx
 have hc := colN hF hin hk m (i := i) (by omega)
 have e0 : ((renderL p ins m).getD k [])[i] = ((renderL p ins m).getD k []).getD i 0 := by rw [List.getD_eq_getElem?_getD (l := (renderL p ins m).getD k []), List.getElem?_eq_getElem hi]; rfl
 rw [e0, hc]
 have hv := valsL_ok' (p := p) hF (stN_ok hF hin i) (frameAt_ok (p := p) hin (i : Int)).2
 have e : (outsL p (valN p ins i)).getD k 0 = (valN p ins i).getD (p.2.2.2.getD k 0).toNat 0 := by simp [outsL, List.getD, hk]
 rw [e]
 exact smps_at hv.2 _
end
def linC (cd : List Int) : PatchD := (linD (cd, 0, 0)).1
theorem linC_ok {cd : List Int} (h : ∀ b ∈ cd, 0 ≤ b ∧ b ≤ 255) : patchB (linC cd) = true ∧ linP (linC cd) ∧ (1 ≤ (linC cd).1 ∧ (linC cd).1 ≤ 2) ∧ (1 ≤ (linC cd).2.2.2.length ∧ (linC cd).2.2.2.length ≤ 2) := by
 obtain ⟨a, b, c, d, _⟩ := linD_ok (s := (cd, 0, 0)) (n := 2000) ⟨h, by simp, by simp⟩ (by omega) (p := linC cd) (s' := (linD (cd, 0, 0)).2) rfl
 exact ⟨a, b, c, d⟩
end Go.Proofs.Ytiafipboklboeaa