/-
  DERIVED. GIVEN WITH THE SEED: THE CARDS: each row of YtflaacndokbddaaDoorRows.lean that lists a variable, with what it lists TIED to the program's text (the seventh form; the later family's looks); each row that meets fmt, with fmt's text TOLD by the authors' own Lean function (tested against real Go, not proved from fmt's source: count such statements apart). THE CARD IS WHAT COUNTS. Prove the row's statement (the work); the ties are given (YtflaacndokbddaaDoorTie.lean); close each card by the builder's one call (the guide's Derived/Test/ToyasCard.lean, 'card_holds'). Laid BY PROGRAM, IN A SANDBOX (cutbox-door.mjs). By AI agents, Wed Nov 11 2026. No macro, syntax, notation, axiom, sorry.
-/
import Derived.Test.YtflaacndokbddaaDoorRows
import GoSem.ClaimSeven
namespace Go.Proofs.YtflaacndokbddaaDoor
namespace Rows

/-- THE TIED CARD OF 'laws.FnPhases'. -/
def fnPhasesCard : Claim7 := { stood := { row := fnPhasesRow, standIns := [], harness := (true, "2c09b8a7aea911eabfa6e1a58542f3e08d231b10e90d991ff3edfc78cf1367b5"), looks := false }, kinds := [], alts := [], laidByText := true, laidKinds := [.data], laidTests := true, laidLooks := .later }
def FnPhasesCardSaid : Prop := Claim7.holds Tryd.pinned (.plain (OpenSpec.ofChange fnPhasesSpec)) fnPhasesCard

/-- THE SECOND FORM's CARD OF 'laws.FnPhases'. -/
def fnPhasesUptoCard : Claim7 := { stood := { row := fnPhasesUptoRow, standIns := [], harness := (true, "2c09b8a7aea911eabfa6e1a58542f3e08d231b10e90d991ff3edfc78cf1367b5"), looks := false }, kinds := [], alts := [], laidByText := true, laidKinds := [.data], laidTests := true, laidLooks := .later }
def FnPhasesUptoCardSaid : Prop := Claim7.holds Tryd.pinned (.plain (OpenSpec.upto fnPhasesSpec)) fnPhasesUptoCard
end Rows
end Go.Proofs.YtflaacndokbddaaDoor
