/-
  LineAt of both sides.
-/
import Derived.Test.YtbahhkpfbmlcjaaLine
namespace Go.Proofs.Ytbahhkpfbmlcjaa
open Go.RowKit
def LineAtF (f t l a : Int) : Int × Int :=
  if (inB f 0 65536 && inB t 0 65536 && inB l 0 4000) = true then (if inB a 0 l = true then (lineF f t l a, 0) else (0, 2)) else (0, 1)

theorem implLineAt_any (f t l a : Int) (w : World) :
    Calls Try.prog 23 #[.int .i64 f, .int .i64 t, .int .i64 l, .int .i64 a] w fun e w' => e = .returned (.tuple #[.int .i64 (LineAtF f t l a).1, .int .i64 (LineAtF f t l a).2]) ∧ w = w' := by
  cases h1 : inB f 0 65536
  · go_enter Try.func23, Try.ntmps23
    go_wp2_with (first | (go_at_call 61; refine (isLevel_any _ _).mono ?_; rintro e w' ⟨rfl, rfl⟩) | (go_at_call 62; refine (isCount_any _ _).mono ?_; rintro e w' ⟨rfl, rfl⟩))
    go_ret2
    exact ⟨ret_int2 (by simp [LineAtF, h1]) (by simp [LineAtF, h1]), rfl⟩
  cases h2 : inB t 0 65536
  · go_enter Try.func23, Try.ntmps23
    go_wp2_with (first | (go_at_call 61; refine (isLevel_any _ _).mono ?_; rintro e w' ⟨rfl, rfl⟩) | (go_at_call 62; refine (isCount_any _ _).mono ?_; rintro e w' ⟨rfl, rfl⟩))
    go_ret2
    exact ⟨ret_int2 (by simp [LineAtF, h2]) (by simp [LineAtF, h2]), rfl⟩
  cases h3 : inB l 0 4000
  · go_enter Try.func23, Try.ntmps23
    go_wp2_with (first | (go_at_call 61; refine (isLevel_any _ _).mono ?_; rintro e w' ⟨rfl, rfl⟩) | (go_at_call 62; refine (isCount_any _ _).mono ?_; rintro e w' ⟨rfl, rfl⟩))
    go_ret2
    exact ⟨ret_int2 (by simp [LineAtF, h3]) (by simp [LineAtF, h3]), rfl⟩
  cases h4 : inB a 0 l
  · go_enter Try.func23, Try.ntmps23
    go_wp2_with (first | (go_at_call 61; refine (isLevel_any _ _).mono ?_; rintro e w' ⟨rfl, rfl⟩) | (go_at_call 62; refine (isCount_any _ _).mono ?_; rintro e w' ⟨rfl, rfl⟩) | (go_at_call 63; refine (within_any _ _ _ _).mono ?_; rintro e w' ⟨rfl, rfl⟩))
    go_ret2
    exact ⟨ret_int2 (by simp [LineAtF, h1, h2, h3, h4]) (by simp [LineAtF, h1, h2, h3, h4]), rfl⟩
  have b1 := inB_true.1 h1
  have b2 := inB_true.1 h2
  have b3 := inB_true.1 h3
  have b4 := inB_true.1 h4
  go_enter Try.func23, Try.ntmps23
  go_wp2_with (first | (go_at_call 61; refine (isLevel_any _ _).mono ?_; rintro e w' ⟨rfl, rfl⟩) | (go_at_call 62; refine (isCount_any _ _).mono ?_; rintro e w' ⟨rfl, rfl⟩) | (go_at_call 63; refine (within_any _ _ _ _).mono ?_; rintro e w' ⟨rfl, rfl⟩) | (go_at_call 64; refine (lineAt_any _ _ _ _ _ b1 b2 b3 b4).mono ?_; rintro e w' ⟨rfl, rfl⟩))
  go_ret2
  exact ⟨ret_int2 (by simp [LineAtF, h1, h2, h3, h4]) (by simp [LineAtF, h1, h2, h3, h4]), rfl⟩

theorem specLineAt_any (f t l a : Int) (w : World) :
    Calls Try.prog 22 #[.int .i64 f, .int .i64 t, .int .i64 l, .int .i64 a] w fun e w' => e = .returned (.tuple #[.int .i64 (LineAtF f t l a).1, .int .i64 (LineAtF f t l a).2]) ∧ w = w' := by
  cases h1 : inB f 0 65536
  · go_enter Try.func22, Try.ntmps22
    go_wp2_with (first | (go_at_call 57; refine (l14Level_any _ _).mono ?_; rintro e w' ⟨rfl, rfl⟩) | (go_at_call 58; refine (l14Length_any _ _).mono ?_; rintro e w' ⟨rfl, rfl⟩))
    go_ret2
    exact ⟨ret_int2 (by simp [LineAtF, h1]) (by simp [LineAtF, h1]), rfl⟩
  cases h2 : inB t 0 65536
  · go_enter Try.func22, Try.ntmps22
    go_wp2_with (first | (go_at_call 57; refine (l14Level_any _ _).mono ?_; rintro e w' ⟨rfl, rfl⟩) | (go_at_call 58; refine (l14Length_any _ _).mono ?_; rintro e w' ⟨rfl, rfl⟩))
    go_ret2
    exact ⟨ret_int2 (by simp [LineAtF, h2]) (by simp [LineAtF, h2]), rfl⟩
  cases h3 : inB l 0 4000
  · go_enter Try.func22, Try.ntmps22
    go_wp2_with (first | (go_at_call 57; refine (l14Level_any _ _).mono ?_; rintro e w' ⟨rfl, rfl⟩) | (go_at_call 58; refine (l14Length_any _ _).mono ?_; rintro e w' ⟨rfl, rfl⟩))
    go_ret2
    exact ⟨ret_int2 (by simp [LineAtF, h3]) (by simp [LineAtF, h3]), rfl⟩
  cases h4 : inB a 0 l
  · go_enter Try.func22, Try.ntmps22
    go_wp2_with (first | (go_at_call 57; refine (l14Level_any _ _).mono ?_; rintro e w' ⟨rfl, rfl⟩) | (go_at_call 58; refine (l14Length_any _ _).mono ?_; rintro e w' ⟨rfl, rfl⟩) | (go_at_call 59; refine (l00In_any _ _ _ _).mono ?_; rintro e w' ⟨rfl, rfl⟩))
    go_ret2
    exact ⟨ret_int2 (by simp [LineAtF, h1, h2, h3, h4]) (by simp [LineAtF, h1, h2, h3, h4]), rfl⟩
  have b1 := inB_true.1 h1
  have b2 := inB_true.1 h2
  have b3 := inB_true.1 h3
  have b4 := inB_true.1 h4
  go_enter Try.func22, Try.ntmps22
  go_wp2_with (first | (go_at_call 57; refine (l14Level_any _ _).mono ?_; rintro e w' ⟨rfl, rfl⟩) | (go_at_call 58; refine (l14Length_any _ _).mono ?_; rintro e w' ⟨rfl, rfl⟩) | (go_at_call 59; refine (l00In_any _ _ _ _).mono ?_; rintro e w' ⟨rfl, rfl⟩) | (go_at_call 60; refine (l14Line_any _ _ _ _ _ b1 b2 b3 b4).mono ?_; rintro e w' ⟨rfl, rfl⟩))
  go_ret2
  exact ⟨ret_int2 (by simp [LineAtF, h1, h2, h3, h4]) (by simp [LineAtF, h1, h2, h3, h4]), rfl⟩

theorem law_FnExactLineAt (f t l a : Int) (w : World) (_ : (Lit.int .i64 f).wf = true) (_ : (Lit.int .i64 t).wf = true) (_ : (Lit.int .i64 l).wf = true) (_ : (Lit.int .i64 a).wf = true) :
    Calls Try.prog 6 #[.int .i64 f, .int .i64 t, .int .i64 l, .int .i64 a] w fun e w' => e = .returned (.bool true) ∧ Below w.heap.size w w' := by
  go_enter Try.func6, Try.ntmps6
  go_wp2_with (first | (go_at_call 22; refine (specLineAt_any _ _ _ _ _).mono ?_; rintro e w' ⟨rfl, rfl⟩) | (go_at_call 23; refine (implLineAt_any _ _ _ _ _).mono ?_; rintro e w' ⟨rfl, rfl⟩))
  go_ret
  exact ⟨rfl, Below.refl _ _⟩

end Go.Proofs.Ytbahhkpfbmlcjaa
