/-
 Contracts: l13Ok, isWave, ValidTable twice, eqInt64S, toInt64S, markInt64S, heldInt64S.
-/
import Derived.Test.YtflaacndokbddaaDoorSeq
namespace Go.Proofs.YtflaacndokbddaaDoor
open Go.RowKit

def waveB (xs : List Int) : Bool := szB xs.length && samB xs



theorem isWave_any (v : Value) (xs : List Int) (w : World) (h : Ints w v xs) : Calls Tryd.prog 21 #[v] w fun e w' => e = .returned (.bool (waveB xs)) ∧ w = w' := by
 cases h1 : szB xs.length
 · go_enter Tryd.func21, Tryd.ntmps21
   go_wp2_with (first | (go_at_call 24; refine (size_any _ _ _ h).mono ?_; rintro e w' ⟨rfl, rfl⟩) | (go_at_call 25; refine (isSize_any _ _).mono ?_; rintro e w' ⟨rfl, rfl⟩))
   go_ret
   exact ⟨ret_bool (by simp [waveB, h1]), rfl⟩
 · go_enter Tryd.func21, Tryd.ntmps21
   go_wp2_with (first | (go_at_call 24; refine (size_any _ _ _ h).mono ?_; rintro e w' ⟨rfl, rfl⟩) | (go_at_call 25; refine (isSize_any _ _).mono ?_; rintro e w' ⟨rfl, rfl⟩) | (go_at_call 32; refine (areSamples_any _ _ _ h).mono ?_; rintro e w' ⟨rfl, rfl⟩))
   go_ret
   exact ⟨ret_bool (by simp [waveB, h1]), rfl⟩



theorem infoI : (Tryd.prog.info? 2).map (fun i => (i.zero, i.size, i.bytes)) = some (some (.int .i64 0), 1, 8) := by kernel_rfl











end Go.Proofs.YtflaacndokbddaaDoor
