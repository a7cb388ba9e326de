/-
  Marks on slices of numbers, as things that keep to their blocks.
-/
import Derived.Test.YtfpbnhghceoleaaObj
import Derived.Test.YtfpbnhghceoleaaSeq2
namespace Go.Proofs.Ytfpbnhghceoleaa
open Go.RowKit

theorem markInt64S_obj (v : Value) (xs : List Int) (lo hi : Nat) (m : Int) (w : World) (h : Obj lo hi (IntsR lo hi v xs) w) (hm : 0 ≤ m ∧ m ≤ 1099511627776) (hb : xs.length ≤ 1099511627776) :
    Calls Try.prog 24 #[v, .int .i64 m] w fun e w' => e = .returned (.int .i64 (m + xs.length)) ∧ Obj lo hi (IntsR lo hi v (seqI m xs.length)) w' ∧ Chg lo hi w w' :=
  (markInt64S_any v xs lo m w h.now.1 hm hb).mono fun _ _ ⟨he, o, g⟩ =>
    ⟨he, IntsR.obj ⟨o, h.now.2⟩ (Nat.le_trans h.le g.size), Chg.of_grown g fun k hk => ⟨(h.now.1.blk k hk).1, h.now.2 k hk⟩⟩

end Go.Proofs.Ytfpbnhghceoleaa
