/-
  The reading of a tuning: two structs of two numbers, a slice of such.
-/
import Derived.Test.YtpngabaeekjhmaaFrameP
namespace Go.Proofs.Ytpngabaeekjhmaa
open Go.ChangeShapes Go.WideShapes Go.ChangeAt Go.RowKit Go.Joins Go.Deep

set_option maxRecDepth 100000 in
theorem open_pairCells {H : Type} {enc : TypeId × Value → H} {W : World} {t i64 : TypeId} {g0 g1 : Field} {n : Nat} {c0 c1 : Value} {y : DataW H × List MemPlace}
    (ht : Try.prog.underlying t = some (.struct #[g0, g1])) (hone : oneCellFields Try.prog #[g0, g1] = true) (t0 : g0.type = i64) (t1 : g1.type = i64) (hi : Try.prog.underlying i64 = some (.int .i64))
    (h : DataW.trod enc Try.prog W 0 (fun _ => true) true n t [c0, c1] = some y) : ∃ a b, c0 = .int .i64 a ∧ c1 = .int .i64 b ∧ (Lit.int .i64 a).wf = true ∧ (Lit.int .i64 b).wf = true := by
  obtain ⟨y0, y1, m, _, _, h0, h1⟩ := trod_struct2 ht h
  obtain ⟨o0, k0⟩ := hone_of hone 0 g0 rfl
  obtain ⟨o1, k1⟩ := hone_of hone 1 g1 rfl
  rw [o0, k0, t0] at h0
  rw [o1, k1, t1] at h1
  obtain ⟨a, ea, _, wa⟩ := DataW.trod_int hi h0
  obtain ⟨b, eb, _, wb⟩ := DataW.trod_int hi h1
  exact ⟨a, b, by simpa using ea, by simpa using eb, wa, wb⟩

set_option maxRecDepth 100000 in
theorem array5 {α : Type} {cs : Array α} (h : cs.size = 5) : ∃ c0 c1 c2 c3 c4, cs = #[c0, c1, c2, c3, c4] := by
  obtain ⟨l⟩ := cs
  match l, h with
  | [c0, c1, c2, c3, c4], _ => exact ⟨c0, c1, c2, c3, c4, rfl⟩

set_option maxRecDepth 100000 in
theorem open_tun {H : Type} {enc : TypeId × Value → H} {W : World} {r : Reach} {b0 : Nat} {t tf i64 : TypeId} {f0 f1 f2 g0 g1 : Field} {v : Value} {d : DataW H} {p : List MemPlace}
    (hs : Try.prog.underlying t = some (.struct #[f0, f1, f2])) (hC : Try.prog.cellsOf t = 5) (o0 : f0.offset = 0) (o1 : f1.offset = 2) (o2 : f2.offset = 4) (t0 : f0.type = tf) (t1 : f1.type = tf)
    (cf : Try.prog.cellsOf tf = 2) (hf : Try.prog.underlying tf = some (.struct #[g0, g1])) (hone : oneCellFields Try.prog #[g0, g1] = true) (u0 : g0.type = i64) (u1 : g1.type = i64) (hi : Try.prog.underlying i64 = some (.int .i64))
    (c2 : Try.prog.cellsOf f2.type = 1) (hv : Value.okWide Try.prog W r b0 t v) (h : DataW.Trod enc Try.prog W 0 (fun _ => true) true t v d p) :
    ∃ b b' o o' c y n, v = .agg #[.int .i64 b, .int .i64 b', .int .i64 o, .int .i64 o', c] ∧ (Lit.int .i64 b).wf = true ∧ (Lit.int .i64 b').wf = true ∧ (Lit.int .i64 o).wf = true ∧ (Lit.int .i64 o').wf = true ∧
      DataW.trod enc Try.prog W 0 (fun _ => true) true n f2.type [c] = some y := by
  obtain ⟨cs, rfl, hsz⟩ := okWide_struct hs hv
  obtain ⟨x0, x1, x2, x3, x4, rfl⟩ := array5 (hsz.trans hC)
  obtain ⟨fuel, hfu⟩ := h
  obtain ⟨y0, y1, y2, n, _, _, h0, h1, h2⟩ := trod_struct3 hs hfu
  rw [o0, t0, cf] at h0
  rw [o1, t1, cf] at h1
  rw [o2, c2] at h2
  simp [Value.cells] at h0 h1 h2
  obtain ⟨a, b, rfl, rfl, wa, wb⟩ := open_pairCells hf hone u0 u1 hi h0
  obtain ⟨a', b', rfl, rfl, wa', wb'⟩ := open_pairCells hf hone u0 u1 hi h1
  exact ⟨a, b, a', b', x4, y2, n, rfl, wa, wb, wa', wb', h2⟩

end Go.Proofs.Ytpngabaeekjhmaa
