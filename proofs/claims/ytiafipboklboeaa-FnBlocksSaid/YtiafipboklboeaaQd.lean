/-
 A patch rendered in blocks, at once, and frame by frame: plain facts.
-/
import Derived.Test.YtiafipboklboeaaQc
import Derived.Test.YtiafipboklboeaaPy
namespace Go.Proofs.Ytiafipboklboeaa
open Go.RowKit
set_option linter.unusedSimpArgs false
set_option linter.unusedVariables false

def startR (p : PatchD) : List (List Int) × Int := match patchB p with
 | true => (startL p, 0)
 | false => ([], 1)
theorem startR_t {p : PatchD} (h : patchB p = true) : startR p = (startL p, 0) := by unfold startR; rw [h]
theorem startR_f {p : PatchD} (h : patchB p = false) : startR p = ([], 1) := by unfold startR; rw [h]
def cutL (a : List Int) (n : Nat) : List Int := (List.range n).map fun i => a.getD i 0
theorem cutL_len (a : List Int) (n : Nat) : (cutL a n).length = n := by simp [cutL]
theorem cutL_next (a : List Int) (n : Nat) : cutL a (n + 1) = cutL a n ++ [a.getD n 0] := by simp [cutL, List.range_succ]
theorem cutL_at {a : List Int} {n i : Nat} (h : i < n) : (cutL a n).getD i 0 = a.getD i 0 := by
 simp [cutL, List.getD, h]
theorem ribR_ok {p : PatchD} {ins x : List (List Int)} {zs : List Int} (h : ribR p ins zs = (x, 0)) : patchB p = true ∧ sigB p ins = true ∧ sizB zs = true ∧ x = renderL p ins zs.sum.toNat := by
 cases hp : patchB p with
 | false => rw [ribR_1 hp] at h; simp at h
 | true =>
   cases hk : (sigB p ins && sizB zs) with
   | false => rw [ribR_2 hp hk] at h; simp at h
   | true =>
     rw [ribR_0 hp hk] at h
     simp only [Bool.and_eq_true] at hk
     exact ⟨rfl, hk.1, hk.2, (Prod.mk.injEq _ _ _ _ ▸ h).1.symm⟩
theorem sizeS_len {n : Nat} {s s' : SrcD} {zs : List Int} (hs : srcOk n s) (hn : 2 ≤ n) (e : sizeS s = (zs, s')) : zs.length ≤ 6 := by
 unfold sizeS at e
 rcases h1 : pickD 6 s with ⟨v, s1⟩
 rw [bnd_of h1] at e
 obtain ⟨_, hv0, hv1, _⟩ := pickD_at hs hn h1
 have hv1 := hv1 (by omega)
 rcases h2 : itD (snocD (pickD 8)) v.toNat [] s1 with ⟨xs, s2⟩
 rw [bnd_of h2] at e
 have hl : xs.length = v.toNat := by have := itD_len (m := pickD 8) (k := v.toNat) (s := s1) (xs := []); rw [h2] at this; simpa using this
 unfold bnd at e
 simp only at e
 split at e
 · simp only [Prod.mk.injEq] at e; rw [← e.1]; simp; omega
 · simp only [Prod.mk.injEq] at e; rw [← e.1]; omega
theorem ribD_len {cd : List Int} {p : PatchD} {ins : List (List Int)} {zs : List Int} (h : ∀ b ∈ cd, 0 ≤ b ∧ b ≤ 255) (e : (ribD cd).1 = (p, ins, zs)) : zs.length ≤ 6 := by
 have hs0 : srcOk 3000 (cd, 0, 0) := ⟨h, by simp, by simp⟩
 unfold ribD at e
 rcases h1 : l07B (cd, 0, 0) with ⟨q, s1⟩
 rw [bnd_of h1] at e
 have hs1 := l07B_cost.at hs0 (by omega) h1
 rcases h2 : l08I q.1 s1 with ⟨xs, s2⟩
 rw [bnd_of h2] at e
 have hs2 := (l08I_cost q.1).at hs1 (by omega) h2
 rcases h3 : sizeS s2 with ⟨ys, s3⟩
 rw [bnd_of h3] at e
 simp only [Prod.mk.injEq] at e
 rw [← e.2.2]
 exact sizeS_len hs2 (by omega) h3
end Go.Proofs.Ytiafipboklboeaa
