/-
  IndexOfPhase of both sides, and its law.
-/
import Derived.Test.YtfpbnhghceoleaaNum
namespace Go.Proofs.Ytfpbnhghceoleaa
open Go.RowKit

/-- The index of the element at a phase. -/
def idxF (p n : Int) : Int := n * (p % 4294967296) / 4294967296
theorem idxF_spec {p n : Int} (h : szB n = true) : (p % 4294967296) / (4294967296 / n) = idxF p n := by
  rcases szB_true.1 h with rfl | rfl | rfl | rfl <;> unfold idxF <;> omega
theorem idxF_bd {p n : Int} (h : szB n = true) : 0 ≤ idxF p n ∧ idxF p n < n := by
  rcases szB_true.1 h with rfl | rfl | rfl | rfl <;> unfold idxF <;> omega
def IndexF (p n : Int) : Int × Int := if szB n = true then (idxF p n, 0) else (0, 2)

theorem l13Index_any (p n : Int) (w : World) (h : szB n = true) :
    Calls Try.prog 69 #[.int .i64 p, .int .i64 n] w fun e w' => e = .returned (.int .i64 (idxF p n)) ∧ w = w' := by
  have hn := szB_true.1 h
  have hm := mask32 p
  have e := idxF_spec (p := p) h
  clear h
  rcases hn with rfl | rfl | rfl | rfl
  all_goals
    go_enter Try.func69, Try.ntmps69
    go_wp2
    go_ret
    exact ⟨ret_int (by first | exact e | (rw [← e]; rfl) | (simp at e; omega)), rfl⟩



theorem implIndex_any (p n : Int) (w : World) :
    Calls Try.prog 74 #[.int .i64 p, .int .i64 n] w fun e w' => e = .returned (.tuple #[.int .i64 (IndexF p n).1, .int .i64 (IndexF p n).2]) ∧ w = w' := by
  cases h : szB n
  · go_enter Try.func74, Try.ntmps74
    go_wp2_with (go_at_call 80; refine (isSize_any _ _).mono ?_; rintro e w' ⟨rfl, rfl⟩)
    go_ret2
    exact ⟨ret_int2 (by simp [IndexF, h]) (by simp [IndexF, h]), rfl⟩
  · have hn := szB_true.1 h
    have hb : 0 ≤ n * (p % 4294967296) ∧ n * (p % 4294967296) ≤ 68719476736 := by
      rcases hn with rfl | rfl | rfl | rfl <;> omega
    clear hn
    go_enter Try.func74, Try.ntmps74
    go_wp2_with (first | (go_at_call 80; refine (isSize_any _ _).mono ?_; rintro e w' ⟨rfl, rfl⟩) | (go_at_call 126; refine (unsigned_any _ _).mono ?_; rintro e w' ⟨rfl, rfl⟩))
    go_ret2
    exact ⟨ret_int2 (by simp [IndexF, h, idxF]) (by simp [IndexF, h]), rfl⟩



end Go.Proofs.Ytfpbnhghceoleaa
