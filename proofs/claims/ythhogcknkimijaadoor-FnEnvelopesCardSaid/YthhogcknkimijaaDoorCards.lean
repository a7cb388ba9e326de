/-
  DERIVED. GIVEN WITH THE SEED: THE CARDS: each row of YthhogcknkimijaaDoorRows.lean that lists a variable, with what it lists TIED to the program's text (the seventh form; the later family's looks); each row that meets fmt, with fmt's text TOLD by the authors' own Lean function (tested against real Go, not proved from fmt's source: count such statements apart). THE CARD IS WHAT COUNTS. Prove the row's statement (the work); the ties are given (YthhogcknkimijaaDoorTie.lean); close each card by the builder's one call (the guide's Derived/Test/ToyasCard.lean, 'card_holds'). Laid BY PROGRAM, IN A SANDBOX (cutbox-door.mjs). By AI agents, Wed Nov 11 2026. No macro, syntax, notation, axiom, sorry.
-/
import Derived.Test.YthhogcknkimijaaDoorRows
import GoSem.ClaimSeven
namespace Go.Proofs.YthhogcknkimijaaDoor
namespace Rows

/-- THE TIED CARD OF 'laws.FnExactEnvelopeText'. -/
def fnExactEnvelopeTextCard : Claim7 := { stood := { row := fnExactEnvelopeTextRow, standIns := [], harness := (true, "7774f8b3e2c0026e0e02d9321f58552f39e79680e92c8f6434d80269049b1bbc"), looks := true }, kinds := [], alts := [], laidByText := true, laidKinds := [.data, .data, .data], laidTests := true, laidLooks := .later }
def FnExactEnvelopeTextCardSaid : Prop := Claim7.holds Tryd.pinned (.plain (OpenSpec.ofChange fnExactEnvelopeTextSpec)) fnExactEnvelopeTextCard

/-- THE TIED CARD OF 'laws.FnExactReadEnvelope'. -/
def fnExactReadEnvelopeCard : Claim7 := { stood := { row := fnExactReadEnvelopeRow, standIns := [], harness := (true, "7774f8b3e2c0026e0e02d9321f58552f39e79680e92c8f6434d80269049b1bbc"), looks := true }, kinds := [], alts := [], laidByText := true, laidKinds := [.data, .data, .data, .data, .sentinel, .sentinel, .pinned], laidTests := true, laidLooks := .later }
def FnExactReadEnvelopeCardSaid : Prop := Claim7.holds Tryd.pinned (.plain (OpenSpec.ofChange fnExactReadEnvelopeSpec)) fnExactReadEnvelopeCard

/-- THE TIED CARD OF 'laws.FnEnvelopes'. -/
def fnEnvelopesCard : Claim7 := { stood := { row := fnEnvelopesRow, standIns := [], harness := (true, "7774f8b3e2c0026e0e02d9321f58552f39e79680e92c8f6434d80269049b1bbc"), looks := true }, kinds := [], alts := [], laidByText := true, laidKinds := [.data, .data, .data, .data, .sentinel, .sentinel, .pinned], laidTests := true, laidLooks := .later }
def FnEnvelopesCardSaid : Prop := Claim7.holds Tryd.pinned (.plain (OpenSpec.ofChange fnEnvelopesSpec)) fnEnvelopesCard

/-- THE SECOND FORM's CARD OF 'laws.FnExactEnvelopeText'. -/
def fnExactEnvelopeTextUptoCard : Claim7 := { stood := { row := fnExactEnvelopeTextUptoRow, standIns := [], harness := (true, "7774f8b3e2c0026e0e02d9321f58552f39e79680e92c8f6434d80269049b1bbc"), looks := true }, kinds := [], alts := [], laidByText := true, laidKinds := [.data, .data, .data], laidTests := true, laidLooks := .later }
def FnExactEnvelopeTextUptoCardSaid : Prop := Claim7.holds Tryd.pinned (.plain (OpenSpec.upto fnExactEnvelopeTextSpec)) fnExactEnvelopeTextUptoCard

/-- THE SECOND FORM's CARD OF 'laws.FnExactReadEnvelope'. -/
def fnExactReadEnvelopeUptoCard : Claim7 := { stood := { row := fnExactReadEnvelopeUptoRow, standIns := [], harness := (true, "7774f8b3e2c0026e0e02d9321f58552f39e79680e92c8f6434d80269049b1bbc"), looks := true }, kinds := [], alts := [], laidByText := true, laidKinds := [.data, .data, .data, .data, .sentinel, .sentinel, .pinned], laidTests := true, laidLooks := .later }
def FnExactReadEnvelopeUptoCardSaid : Prop := Claim7.holds Tryd.pinned (.plain (OpenSpec.upto fnExactReadEnvelopeSpec)) fnExactReadEnvelopeUptoCard

/-- THE SECOND FORM's CARD OF 'laws.FnEnvelopes'. -/
def fnEnvelopesUptoCard : Claim7 := { stood := { row := fnEnvelopesUptoRow, standIns := [], harness := (true, "7774f8b3e2c0026e0e02d9321f58552f39e79680e92c8f6434d80269049b1bbc"), looks := true }, kinds := [], alts := [], laidByText := true, laidKinds := [.data, .data, .data, .data, .sentinel, .sentinel, .pinned], laidTests := true, laidLooks := .later }
def FnEnvelopesUptoCardSaid : Prop := Claim7.holds Tryd.pinned (.plain (OpenSpec.upto fnEnvelopesSpec)) fnEnvelopesUptoCard
end Rows
end Go.Proofs.YthhogcknkimijaaDoor
