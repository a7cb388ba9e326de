/-
  MirrorTuning of both sides, as the law's walk asks for it.
-/
import Derived.Test.YtpngabaeekjhmaaCa
import Derived.Test.YtpngabaeekjhmaaCb
import Derived.Test.YtpngabaeekjhmaaVTun
import Derived.Test.YtpngabaeekjhmaaObj
namespace Go.Proofs.Ytpngabaeekjhmaa
open Go.RowKit
set_option linter.unusedSimpArgs false
set_option linter.unusedVariables false

/-- A row of pairs that a call has made, over worlds. -/
theorem ownP_of {R' : Rz} {w w' : World} {n : Nat} {e : TypeId} {ps : List (Int × Int)} {S : List Nat} (hn : 0 < n) (hk : Keeps Rz.none w R' w') (h : OR R' w' n (.row e (.prod (.int .i64) (.int .i64)) ps S)) : OwnP e w' w.heap.size (R'.hd n) ps := by
  rcases h with ⟨h1, h2⟩ | ⟨cap, cur, h1, h2, h3, h4, h5, h6, h7⟩
  · subst h2; rw [h1]; exact World.ownsRow_nil _ _ _ _
  · rw [h1]
    have hge : w.heap.size ≤ R'.bk n := by
      rcases Nat.lt_or_ge (R'.bk n) w.heap.size with hlt | hge
      · have := (hk.keep _ hlt (Nat.zero_le _)).2
        rw [h2] at this
        have : n = 0 := this
        omega
      · exact hge
    have hl := flatP_length ps
    refine ⟨hl, .inr ⟨R'.bk n, cap, cur, rfl, hge, h3, h4, h5, h6, ?_⟩⟩
    have h6' : cur.size = cap * 2 := h6
    have hle : ps.length * 2 ≤ cur.size := by rw [h6']; exact Nat.mul_le_mul_right _ h4
    apply List.ext_getElem?
    intro q
    by_cases hq : q < ps.length * 2
    · have hi : q / 2 < ps.length := by omega
      obtain ⟨g1, g2⟩ := flatP_get ps _ hi
      have e0 : ps.getD (q / 2) (0, 0) = ps[q / 2] := by simp [List.getD, hi]
      rw [e0] at g1 g2
      obtain ⟨u1, u2, e1, e2, e3⟩ := h7 _ hi
      simp only [Rd] at e2 e3
      subst e2 e3
      have h9 := congrArg (·[q % 2]?) e1
      simp only [Ty.w] at h9
      rw [drop_take_get (by omega), (by omega : q / 2 * (1 + 1) + q % 2 = q)] at h9
      rw [List.getElem?_take_of_lt hq, h9]
      rcases (by omega : q % 2 = 0 ∨ q % 2 = 1) with h0 | h0
      · rw [(by omega : q / 2 * 2 = q)] at g1
        rw [g1, h0]; rfl
      · rw [(by omega : q / 2 * 2 + 1 = q)] at g2
        rw [g2, h0]; rfl
    · rw [List.getElem?_eq_none (by simp; omega), List.getElem?_eq_none (by omega)]

def mirT (b d o e : Int) (ps : List (Int × Int)) : (Int × Int × Int × Int × List (Int × Int)) × Int :=
  (((mirR (b, d) (o, e) ps).1.1.1, (mirR (b, d) (o, e) ps).1.1.2, (mirR (b, d) (o, e) ps).1.2.1.1, (mirR (b, d) (o, e) ps).1.2.1.2, (mirR (b, d) (o, e) ps).1.2.2), (mirR (b, d) (o, e) ps).2)
theorem vr_tunInt {R : Rz} {w : World} {a b c d m : Int} {v : Value} {n : Nat} (h : VR R w (.tup [.agg [.sc (.int .i64 a), .sc (.int .i64 b), .sc (.int .i64 c), .sc (.int .i64 d), .ow n], .c (.sc (.int .i64 m))]) v) :
    v = .tuple #[.agg #[.int .i64 a, .int .i64 b, .int .i64 c, .int .i64 d, R.hd n], .int .i64 m] := by
  simp only [VR, VRt] at h
  obtain ⟨us, rfl, u1, us1, e1, ⟨vs, rfl, h1⟩, u2, us2, rfl, h2, rfl⟩ := h
  obtain ⟨x1, l1, e2, h3, x2, l2, rfl, h4, x3, l3, rfl, h5, x4, l4, rfl, h6, x5, l5, rfl, h7, h8⟩ := h1
  simp only [VRc] at h2 h3 h4 h5 h6 h7
  subst h2 h3 h4 h5 h6 h7
  have h8 : l5 = [] := h8
  subst h8
  rw [arr_of e1, arr_of e2]
theorem implMir_any (bn bd on od : Int) (v : Value) (ps : List (Int × Int)) (base : Nat) (w : World) (h : OwnP 29 w base v ps) :
    Calls Try.prog 24 #[tunV bn bd on od v] w fun e w' => ∃ v', e = .returned (.tuple #[.agg #[.int .i64 (mirT bn bd on od ps).1.1, .int .i64 (mirT bn bd on od ps).1.2.1, .int .i64 (mirT bn bd on od ps).1.2.2.1, .int .i64 (mirT bn bd on od ps).1.2.2.2.1, v'], .int .i64 (mirT bn bd on od ps).2]) ∧
      OwnP 29 w' w.heap.size v' (mirT bn bd on od ps).1.2.2.2.2 ∧ Below w.heap.size w w' := by
  refine (implMir_ok (((bn, bd), (on, od), ps), ()) h.len Rz.none w _ (vrt_tun h (by simp only [VRt]; rfl))).mono ?_
  rintro e w' ⟨v', R', rfl, h1, h2, h3⟩
  exact ⟨_, by rw [vr_tunInt h1]; rfl, ownP_of (by show 0 < 10 + _; omega) h3 (h2 _ List.mem_cons_self), h3.os, h3.tape, h3.output, h3.size, fun b hb => (h3.keep b hb (Nat.zero_le _)).1⟩
theorem specMir_any (bn bd on od : Int) (v : Value) (ps : List (Int × Int)) (base : Nat) (w : World) (h : OwnP 29 w base v ps) :
    Calls Try.prog 23 #[tunV bn bd on od v] w fun e w' => ∃ v', e = .returned (.tuple #[.agg #[.int .i64 (mirT bn bd on od ps).1.1, .int .i64 (mirT bn bd on od ps).1.2.1, .int .i64 (mirT bn bd on od ps).1.2.2.1, .int .i64 (mirT bn bd on od ps).1.2.2.2.1, v'], .int .i64 (mirT bn bd on od ps).2]) ∧
      OwnP 29 w' w.heap.size v' (mirT bn bd on od ps).1.2.2.2.2 ∧ Below w.heap.size w w' := by
  refine (specMir_ok (((bn, bd), (on, od), ps), ()) h.len Rz.none w _ (vrt_tun h (by simp only [VRt]; rfl))).mono ?_
  rintro e w' ⟨v', R', rfl, h1, h2, h3⟩
  exact ⟨_, by rw [vr_tunInt h1]; rfl, ownP_of (by show 0 < 10 + _; omega) h3 (h2 _ List.mem_cons_self), h3.os, h3.tape, h3.output, h3.size, fun b hb => (h3.keep b hb (Nat.zero_le _)).1⟩
end Go.Proofs.Ytpngabaeekjhmaa
