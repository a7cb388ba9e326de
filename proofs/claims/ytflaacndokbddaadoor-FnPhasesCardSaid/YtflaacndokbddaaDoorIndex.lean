/-
 IndexOfPhase of both sides, and its law.
-/
import Derived.Test.YtflaacndokbddaaDoorNum
namespace Go.Proofs.YtflaacndokbddaaDoor
open Go.RowKit

def idxF (p n : Int) : Int := n * (p % 4294967296) / 4294967296
theorem idxF_spec {p n : Int} (h : szB n = true) : (p % 4294967296) / (4294967296 / n) = idxF p n := by
 rcases szB_true.1 h with rfl | rfl | rfl | rfl <;> unfold idxF <;> omega
theorem idxF_bd {p n : Int} (h : szB n = true) : 0 ≤ idxF p n ∧ idxF p n < n := by
 rcases szB_true.1 h with rfl | rfl | rfl | rfl <;> unfold idxF <;> omega
def IndexF (p n : Int) : Int × Int := if szB n = true then (idxF p n, 0) else (0, 2)





theorem implIndex_any (p n : Int) (w : World) :
 Calls Tryd.prog 12 #[.int .i64 p, .int .i64 n] w fun e w' => e = .returned (.tuple #[.int .i64 (IndexF p n).1, .int .i64 (IndexF p n).2]) ∧ w = w' := by
 cases h : szB n
 · go_enter Tryd.func12, Tryd.ntmps12
   go_wp2_with (go_at_call 25; refine (isSize_any _ _).mono ?_; rintro e w' ⟨rfl, rfl⟩)
   go_ret2
   exact ⟨ret_int2 (by simp [IndexF, h]) (by simp [IndexF, h]), rfl⟩
 · have hn := szB_true.1 h
   have hb : 0 ≤ n * (p % 4294967296) ∧ n * (p % 4294967296) ≤ 68719476736 := by
    rcases hn with rfl | rfl | rfl | rfl <;> omega
   clear hn
   go_enter Tryd.func12, Tryd.ntmps12
   go_wp2_with (first | (go_at_call 25; refine (isSize_any _ _).mono ?_; rintro e w' ⟨rfl, rfl⟩) | (go_at_call 26; refine (unsigned_any _ _).mono ?_; rintro e w' ⟨rfl, rfl⟩))
   go_ret2
   exact ⟨ret_int2 (by simp [IndexF, h, idxF]) (by simp [IndexF, h]), rfl⟩



end Go.Proofs.YtflaacndokbddaaDoor
