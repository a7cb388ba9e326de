/-
  FrequencyOfKey of both sides, as the law's walk asks for it.
-/
import Derived.Test.YtpngabaeekjhmaaBy
import Derived.Test.YtpngabaeekjhmaaBz
import Derived.Test.YtpngabaeekjhmaaVTun
import Derived.Test.YtpngabaeekjhmaaObj
namespace Go.Proofs.Ytpngabaeekjhmaa
open Go.RowKit
set_option linter.unusedSimpArgs false
set_option linter.unusedVariables false

theorem vr_fracInt' {R : Rz} {w : World} {a b c : Int} {v : Value} (h : VR R w (.tup [.agg [.sc (.int .i64 a), .sc (.int .i64 b)], .c (.sc (.int .i64 c))]) v) : v = .tuple #[.agg #[.int .i64 a, .int .i64 b], .int .i64 c] := by
  simp only [VR, VRt] at h
  obtain ⟨us, rfl, u1, us1, e1, ⟨vs, rfl, h1⟩, u2, us2, rfl, h2, rfl⟩ := h
  obtain ⟨x1, l1, e2, h3, x2, l2, rfl, h4, h5⟩ := h1
  simp only [VRc] at h2 h3 h4
  subst h2 h3 h4
  have h5 : l2 = [] := h5
  subst h5
  rw [arr_of e1, arr_of e2]
theorem implFok_any (bn bd on od : Int) (v : Value) (ps : List (Int × Int)) (key : Int) (base : Nat) (w : World) (h : OwnP 29 w base v ps) :
    Calls Try.prog 21 #[tunV bn bd on od v, .int .i64 key] w fun e w' => e = .returned (.tuple #[.agg #[.int .i64 (fokR bn bd (on, od) ps key).1.1, .int .i64 (fokR bn bd (on, od) ps key).1.2], .int .i64 (fokR bn bd (on, od) ps key).2]) ∧ Below w.heap.size w w' := by
  refine (PureT.calls implFok_ok (x := (((bn, bd), (on, od), ps), key, ())) h.len (vrt_tun h (by simp only [VRt]; exact ⟨_, _, rfl, rfl, rfl⟩))).mono ?_
  rintro e w' ⟨v', R', rfl, h1, _, h3⟩
  exact ⟨by rw [vr_fracInt' h1]; rfl, h3⟩
theorem specFok_any (bn bd on od : Int) (v : Value) (ps : List (Int × Int)) (key : Int) (base : Nat) (w : World) (h : OwnP 29 w base v ps) :
    Calls Try.prog 20 #[tunV bn bd on od v, .int .i64 key] w fun e w' => e = .returned (.tuple #[.agg #[.int .i64 (fokR bn bd (on, od) ps key).1.1, .int .i64 (fokR bn bd (on, od) ps key).1.2], .int .i64 (fokR bn bd (on, od) ps key).2]) ∧ Below w.heap.size w w' := by
  refine (PureT.calls specFok_ok (x := (((bn, bd), (on, od), ps), key, ())) h.len (vrt_tun h (by simp only [VRt]; exact ⟨_, _, rfl, rfl, rfl⟩))).mono ?_
  rintro e w' ⟨v', R', rfl, h1, _, h3⟩
  exact ⟨by rw [vr_fracInt' h1]; rfl, h3⟩
end Go.Proofs.Ytpngabaeekjhmaa
