/-
  From contracts over worlds to contracts of trees, and back.
-/
import Derived.Test.YtipagbnkkkhlaaaGy
import Derived.Test.YtipagbnkkkhlaaaPair
namespace Go.Proofs.Ytipagbnkkkhlaaa
open Go.RowKit
set_option linter.unusedSimpArgs false
set_option linter.unusedVariables false

theorem Keeps.of_below {R : Rz} {w w' : World} (h : Below w.heap.size w w') : Keeps R w R w' := ⟨h.os, h.tape, h.output, h.size, fun b hb _ => ⟨h.block b hb, rfl⟩⟩
theorem pure_lift {P : Program} {f : FuncId} {k : Con}
    (h : ∀ x, k.c x → ∀ (R : Rz) (w : World) (vs : Array Value), VRt R w (avs k.ps x) vs.toList → Calls P f vs w fun e w' => ∃ v, e = .returned v ∧ VR R w' (outAll inN [] k.rs (k.r x)) v ∧ obsOk R w' (outOs inN [] 0 k.rs (k.r x)) ∧ Below w.heap.size w w') :
    PureT P f k := fun x hc R w vs hv => (h x hc R w vs hv).mono fun _ _ ⟨v, he, h1, h2, hb⟩ => ⟨v, R, he, h1, h2, .of_below hb⟩
theorem obsOk_nil (R : Rz) (w : World) : obsOk R w [] := fun p hp => by cases hp
theorem arr_of {vs : Array Value} {l : List Value} (h : vs.toList = l) : vs = l.toArray := by subst h; simp

section
variable {R : Rz} {w : World} {l : List AV} {us : List Value}
theorem vrt_frac {x : Int × Int} (h : VRt R w (.agg (cellsOf [] (.prod (.int .i64) (.int .i64)) x) :: l) us) : ∃ us', us = .agg #[.int .i64 x.1, .int .i64 x.2] :: us' ∧ VRt R w l us' := by
  simp only [VRt] at h
  obtain ⟨u, us', rfl, h1, h2⟩ := h
  simp only [VR] at h1
  obtain ⟨vs, rfl, h1⟩ := h1
  obtain ⟨a, l1, e1, h3, b, l2, e2, h4, e3⟩ := h1
  simp only [VRc] at h3 h4
  subst h3 h4 e2
  have e3 : l2 = [] := e3
  subst e3
  have := arr_of e1
  subst this
  exact ⟨us', rfl, h2⟩
theorem vrt_sc {v : Value} (h : VRt R w (.c (.sc v) :: l) us) : ∃ us', us = v :: us' ∧ VRt R w l us' := by
  simp only [VRt] at h
  obtain ⟨u, us', rfl, h1, h2⟩ := h
  simp only [VR, VRc] at h1
  subst h1
  exact ⟨us', rfl, h2⟩
theorem vrt_rd {e : TypeId} {t : Ty} {xs : List t.den} (h : VRt R w (.c (.rd [] e t xs) :: l) us) : ∃ u us', us = u :: us' ∧ Rd (okS R []) w (.row e t) [u] xs ∧ VRt R w l us' := by
  simp only [VRt] at h
  obtain ⟨u, us', rfl, h1, h2⟩ := h
  simp only [VR, VRc] at h1
  exact ⟨u, us', rfl, h1, h2⟩
theorem vrt_nil (h : VRt R w [] us) : us = [] := by simpa only [VRt] using h
theorem vr_frac (a b : Int) : VR R w (.agg [.sc (.int .i64 a), .sc (.int .i64 b)]) (.agg #[.int .i64 a, .int .i64 b]) := by
  simp only [VR]; exact ⟨_, rfl, _, _, rfl, rfl, _, _, rfl, rfl, rfl⟩
theorem vr_fracInt (a b c : Int) : VR R w (.tup [.agg [.sc (.int .i64 a), .sc (.int .i64 b)], .c (.sc (.int .i64 c))]) (.tuple #[.agg #[.int .i64 a, .int .i64 b], .int .i64 c]) := by
  simp only [VR, VRt]; exact ⟨_, rfl, _, _, rfl, ⟨_, rfl, _, _, rfl, rfl, _, _, rfl, rfl, rfl⟩, _, _, rfl, rfl, rfl⟩
theorem vr_sc (v : Value) : VR R w (.c (.sc v)) v := by simp only [VR]; rfl
end
/-- A slice of pairs that reads as data. -/
theorem Rd.pairs {S : Nat → Prop} {w : World} {e : TypeId} {u : Value} {ps : List (Int × Int)} (h : Rd S w (.row e (.prod (.int .i64) (.int .i64))) [u] ps) : Pairs w u ps := by
  obtain ⟨a, cap, hu, h1, h2, h3⟩ := h
  obtain rfl : u = .slice a ps.length cap := by simpa using hu
  refine ⟨by unfold maxLen at h2; omega, a, cap, rfl, fun h0 => ?_⟩
  obtain ⟨b, o, rfl, hb, hc⟩ := h3 h0
  refine ⟨b, o, rfl, fun i hi => ?_⟩
  obtain ⟨vs, hvl, hv, hr⟩ := hc i hi
  obtain ⟨u1, u2, rfl, k1, k2⟩ := hr
  simp only [Rd] at k1 k2
  subst k1 k2
  have e : ps.getD i (0, 0) = ps[i] := by simp [List.getD, hi]
  have a0 := hv 0 (by simp [Ty.w])
  have a1 := hv 1 (by simp [Ty.w])
  rw [e]
  exact ⟨by simpa [Ty.w] using a0, by simpa [Ty.w] using a1⟩
theorem Rd.of_pairs {R : Rz} (hR : ∀ b, R.root b = 0) {S : List Nat} {w : World} {base : Nat} {e e' : TypeId} {u : Value} {ps : List (Int × Int)} (h : OwnP e' w base u ps) : Rd (okS R S) w (.row e (.prod (.int .i64) (.int .i64))) [u] ps := by
  have hp := h.pairs h.len
  rcases h.2 with ⟨rfl, h0⟩ | ⟨g, cap, cur, rfl, hb, hg, hn, hm, hs, ht⟩
  · have := List.eq_nil_of_length_eq_zero h0
    subst this
    exact ⟨.none, 0, rfl, by simp, by simp, fun h => by simp at h⟩
  · refine ⟨_, cap, rfl, hn, hm, fun h0 => ⟨g, 0, rfl, .inl (hR _), fun i hi => ?_⟩⟩
    obtain ⟨_, a, c, hv, hc⟩ := hp
    obtain ⟨b, o, hab, hcell⟩ := hc h0
    simp only [Value.slice.injEq] at hv
    obtain ⟨hv1, _, _⟩ := hv
    rw [hab] at hv1
    simp only [Option.some.injEq, Addr.mk.injEq] at hv1
    obtain ⟨rfl, rfl, _⟩ := hv1
    obtain ⟨h1, h2⟩ := hcell i hi
    have e : ps.getD i (0, 0) = ps[i] := by simp [List.getD, hi]
    rw [e] at h1 h2
    refine ⟨[.int .i64 ps[i].1, .int .i64 ps[i].2], rfl, fun j hj => ?_, ⟨[_], [_], rfl, rfl, rfl⟩⟩
    simp only [Ty.w] at hj
    rcases (by omega : j = 0 ∨ j = 1) with rfl | rfl
    · simpa [Ty.w] using h1
    · simpa [Ty.w] using h2

end Go.Proofs.Ytipagbnkkkhlaaa
