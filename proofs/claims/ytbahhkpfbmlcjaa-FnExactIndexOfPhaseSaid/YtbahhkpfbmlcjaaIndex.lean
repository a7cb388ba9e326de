/-
  IndexOfPhase of both sides, and its law.
-/
import Derived.Test.YtbahhkpfbmlcjaaNum
namespace Go.Proofs.Ytbahhkpfbmlcjaa
open Go.RowKit

/-- The index of the element at a phase. -/
def idxF (p n : Int) : Int := n * (p % 4294967296) / 4294967296
theorem idxF_spec {p n : Int} (h : szB n = true) : (p % 4294967296) / (4294967296 / n) = idxF p n := by
  rcases szB_true.1 h with rfl | rfl | rfl | rfl <;> unfold idxF <;> omega
theorem idxF_bd {p n : Int} (h : szB n = true) : 0 ≤ idxF p n ∧ idxF p n < n := by
  rcases szB_true.1 h with rfl | rfl | rfl | rfl <;> unfold idxF <;> omega
def IndexF (p n : Int) : Int × Int := if szB n = true then (idxF p n, 0) else (0, 2)

theorem l13Index_any (p n : Int) (w : World) (h : szB n = true) :
    Calls Try.prog 52 #[.int .i64 p, .int .i64 n] w fun e w' => e = .returned (.int .i64 (idxF p n)) ∧ w = w' := by
  have hn := szB_true.1 h
  have hm := mask32 p
  have e := idxF_spec (p := p) h
  clear h
  rcases hn with rfl | rfl | rfl | rfl
  all_goals
    go_enter Try.func52, Try.ntmps52
    go_wp2
    go_ret
    exact ⟨ret_int (by first | exact e | (rw [← e]; rfl) | (simp at e; omega)), rfl⟩

theorem specIndex_any (p n : Int) (w : World) :
    Calls Try.prog 16 #[.int .i64 p, .int .i64 n] w fun e w' => e = .returned (.tuple #[.int .i64 (IndexF p n).1, .int .i64 (IndexF p n).2]) ∧ w = w' := by
  cases h : szB n
  · go_enter Try.func16, Try.ntmps16
    go_wp2_with (go_at_call 51; refine (l13Size_any _ _).mono ?_; rintro e w' ⟨rfl, rfl⟩)
    go_ret2
    exact ⟨ret_int2 (by simp [IndexF, h]) (by simp [IndexF, h]), rfl⟩
  · go_enter Try.func16, Try.ntmps16
    go_wp2_with (first | (go_at_call 51; refine (l13Size_any _ _).mono ?_; rintro e w' ⟨rfl, rfl⟩) | (go_at_call 52; refine (l13Index_any _ _ _ h).mono ?_; rintro e w' ⟨rfl, rfl⟩))
    go_ret2
    exact ⟨ret_int2 (by simp [IndexF, h]) (by simp [IndexF, h]), rfl⟩

theorem implIndex_any (p n : Int) (w : World) :
    Calls Try.prog 17 #[.int .i64 p, .int .i64 n] w fun e w' => e = .returned (.tuple #[.int .i64 (IndexF p n).1, .int .i64 (IndexF p n).2]) ∧ w = w' := by
  cases h : szB n
  · go_enter Try.func17, Try.ntmps17
    go_wp2_with (go_at_call 53; refine (isSize_any _ _).mono ?_; rintro e w' ⟨rfl, rfl⟩)
    go_ret2
    exact ⟨ret_int2 (by simp [IndexF, h]) (by simp [IndexF, h]), rfl⟩
  · have hn := szB_true.1 h
    have hb : 0 ≤ n * (p % 4294967296) ∧ n * (p % 4294967296) ≤ 68719476736 := by
      rcases hn with rfl | rfl | rfl | rfl <;> omega
    clear hn
    go_enter Try.func17, Try.ntmps17
    go_wp2_with (first | (go_at_call 53; refine (isSize_any _ _).mono ?_; rintro e w' ⟨rfl, rfl⟩) | (go_at_call 54; refine (unsigned_any _ _).mono ?_; rintro e w' ⟨rfl, rfl⟩))
    go_ret2
    exact ⟨ret_int2 (by simp [IndexF, h, idxF]) (by simp [IndexF, h]), rfl⟩

theorem law_FnExactIndexOfPhase (p n : Int) (w : World) (_ : (Lit.int .i64 p).wf = true) (_ : (Lit.int .i64 n).wf = true) :
    Calls Try.prog 4 #[.int .i64 p, .int .i64 n] w fun e w' => e = .returned (.bool true) ∧ Below w.heap.size w w' := by
  go_enter Try.func4, Try.ntmps4
  go_wp2_with (first | (go_at_call 16; refine (specIndex_any _ _ _).mono ?_; rintro e w' ⟨rfl, rfl⟩) | (go_at_call 17; refine (implIndex_any _ _ _).mono ?_; rintro e w' ⟨rfl, rfl⟩))
  go_ret
  exact ⟨rfl, Below.refl _ _⟩

end Go.Proofs.Ytbahhkpfbmlcjaa
