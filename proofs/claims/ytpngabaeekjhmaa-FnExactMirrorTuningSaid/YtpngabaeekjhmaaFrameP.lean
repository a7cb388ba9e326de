/-
  The reading of a slice of structs of two numbers.
-/
import Derived.Test.YtpngabaeekjhmaaFrame
import Derived.Test.YtpngabaeekjhmaaPair
import Derived.Deep.SlicePairs
namespace Go.Proofs.Ytpngabaeekjhmaa
open Go.ChangeShapes Go.WideShapes Go.ChangeAt Go.RowKit Go.Joins Go.Deep

theorem isPairs_of {H : Type} {enc : TypeId × Value → H} {W : World} {t e i64 : TypeId} {f0 f1 : Field} {n : Nat} {c : Value} {y : DataW H × List MemPlace}
    (ht : Try.prog.underlying t = some (.slice e)) (he : Try.prog.underlying e = some (.struct #[f0, f1])) (ce : Try.prog.cellsOf e = 2) (o0 : f0.offset = 0) (o1 : f1.offset = 1)
    (t0 : f0.type = i64) (t1 : f1.type = i64) (hi : Try.prog.underlying i64 = some (.int .i64)) (ci : Try.prog.cellsOf i64 = 1)
    (h : DataW.trod enc Try.prog W 0 (fun _ => true) true n t [c] = some y) : ∃ a len cap ps, c = .slice a len cap ∧ Pairs W (.slice a len cap) ps ∧ InRP ps := by
  rcases open_slice_pairs ht he ce o0 o1 (by rw [t0]; exact ci) (by rw [t1]; exact ci) h with ⟨hcs, _⟩ | ⟨a, len, cap, m, k, V0, V1, D0, D1, P0, P1, hcs, _, hl, hm, hmm, _, hx⟩
  · simp at hcs
    exact ⟨none, 0, 0, [], hcs, Pairs.nil W, fun p hp => by simp at hp⟩
  · simp at hcs
    simp only [if_true] at hmm
    subst hmm
    have each : ∀ i, i < m → W.cell? (a.add (i * 2)) = some (.int .i64 (intOf (V0 i))) ∧ W.cell? (a.add (i * 2 + 1)) = some (.int .i64 (intOf (V1 i))) ∧ (Lit.int .i64 (intOf (V0 i))).wf = true ∧ (Lit.int .i64 (intOf (V1 i))).wf = true := by
      intro i him
      obtain ⟨h0, h1, h2, h3⟩ := hx i him
      rw [t0] at h2; rw [t1] at h3
      obtain ⟨n0, e0, _, w0⟩ := DataW.trod_int hi h2
      obtain ⟨n1, e1, _, w1⟩ := DataW.trod_int hi h3
      simp at e0 e1
      rw [e0] at h0; rw [e1] at h1
      rw [e0, e1]
      exact ⟨h0, h1, w0, w1⟩
    have hlen : ((List.range len).map fun i => (intOf (V0 i), intOf (V1 i))).length = len := by simp
    refine ⟨some a, len, m, (List.range len).map fun i => (intOf (V0 i), intOf (V1 i)), hcs, ⟨by rw [hlen]; unfold maxLen at hm; omega, some a, m, by rw [hlen], fun h0 => ?_⟩, fun p hp => ?_⟩
    · rw [hlen] at h0
      have hs := World.cell?_spot (each 0 (by omega)).1
      obtain ⟨b, off, sp⟩ := a
      have hsp : sp = none := by simpa [Addr.add] using hs
      subst hsp
      refine ⟨b, off, rfl, fun i hi2 => ?_⟩
      rw [hlen] at hi2
      obtain ⟨h1, h2, _, _⟩ := each i (by omega)
      have ad : ∀ j, (⟨b, off, none⟩ : Addr).add j = ⟨b, off + j, none⟩ := fun j => by unfold Addr.add; split <;> simp_all
      rw [ad] at h1 h2
      rw [show ((List.range len).map fun i => (intOf (V0 i), intOf (V1 i))).getD i (0, 0) = (intOf (V0 i), intOf (V1 i)) by simp [List.getD, hi2]]
      exact ⟨h1, h2⟩
    · simp at hp
      obtain ⟨i, hi2, rfl⟩ := hp
      obtain ⟨_, _, h3, h4⟩ := each i (by omega)
      exact ⟨bd_i64 h3, bd_i64 h4⟩

end Go.Proofs.Ytpngabaeekjhmaa
