/-
  No cell of these rows narrows 'for every input' (looked for: loops, veiled, ifaces, maps, wideKeys, modest, calm, conditions, laid).
  DERIVED. THE GIVEN ROWS OF THIS SEAT. 11 by the template 'for every input the law returns true; each argument reads behind the call as it read before'; 0 by the template 'total and deterministic' (their statements: YtbahhkpfbmlcjaaTotals.lean).
  GIVEN WITH THE SEED: the statements are not yours to turn. If you find one false, say at which input.
  Laid BY PROGRAM, IN A SANDBOX (cutbox-rows.mjs): the forced cells as the released guide's own fill.sh prints them over the translation fda4d997e12f4b30… (all of the seat's roots in one cut). By AI agents, Wed Nov 11 2026. No macro, syntax, notation, axiom, sorry.
-/
import Derived.Test.YtbahhkpfbmlcjaaChecked
import GoSem.Claim
import GoSem.ClaimJoined
import GoSem.ClaimMapViews
import Derived.JoinedTies
import Derived.KernelRfl
namespace Go.Proofs.Ytbahhkpfbmlcjaa
/- THE CELL 'sum', in the pinned program and in every row, IS THE sha256 OF THE DUMP (.gsa) THAT YtbahhkpfbmlcjaaProg.lean LOADS. Nothing in Lean hashes anything: it is a label: what it is worth is what the hold of that sum in a sandbox is worth. -/
noncomputable def Try.pinned : Pinned := { name := "ytbahhkpfbmlcjaa", sum := "fda4d997e12f4b301b7e2d9a947022afbafb8c994614cca6d923795bbb2c8e6c", checked := Try.checked }
namespace Rows
def none {H : Type} : Left H := { results := [], args := [] }

/-- 'laws.FnExactPhaseAfter': WHATEVER THE INPUT: true; the input reads as it did. -/
def fnExactPhaseAfterSpec : ChangeSpec := { name := "fnExactPhaseAfter", fn := fun _ => fun
  | [d1, d2, d3] => { results := [.lit (.bool true)], args := [d1, d2, d3] }
  | _ => none }
def fnExactPhaseAfterRow : OpenClaim := { program := "ytbahhkpfbmlcjaa", sum := "fda4d997e12f4b301b7e2d9a947022afbafb8c994614cca6d923795bbb2c8e6c", func := "loop.example/g00903/laws.FnExactPhaseAfter", spec := "fnExactPhaseAfter", apart := false }
def FnExactPhaseAfterSaid : Prop := fnExactPhaseAfterRow.holds Try.pinned (OpenSpec.ofChange fnExactPhaseAfterSpec)

/-- ITS FALSE NEIGHBOUR: 'it returns false'. Refute it at one input. -/
def fnExactPhaseAfterWrong : ChangeSpec := { name := "fnExactPhaseAfter", fn := fun _ => fun
  | [d1, d2, d3] => { results := [.lit (.bool false)], args := [d1, d2, d3] }
  | _ => none }
def FnExactPhaseAfterWrongFalsely : Prop := fnExactPhaseAfterRow.holds Try.pinned (OpenSpec.ofChange fnExactPhaseAfterWrong)

/-- 'laws.FnExactIndexOfPhase': WHATEVER THE INPUT: true; the input reads as it did. -/
def fnExactIndexOfPhaseSpec : ChangeSpec := { name := "fnExactIndexOfPhase", fn := fun _ => fun
  | [d1, d2] => { results := [.lit (.bool true)], args := [d1, d2] }
  | _ => none }
def fnExactIndexOfPhaseRow : OpenClaim := { program := "ytbahhkpfbmlcjaa", sum := "fda4d997e12f4b301b7e2d9a947022afbafb8c994614cca6d923795bbb2c8e6c", func := "loop.example/g00903/laws.FnExactIndexOfPhase", spec := "fnExactIndexOfPhase", apart := false }
def FnExactIndexOfPhaseSaid : Prop := fnExactIndexOfPhaseRow.holds Try.pinned (OpenSpec.ofChange fnExactIndexOfPhaseSpec)

/-- ITS FALSE NEIGHBOUR: 'it returns false'. Refute it at one input. -/
def fnExactIndexOfPhaseWrong : ChangeSpec := { name := "fnExactIndexOfPhase", fn := fun _ => fun
  | [d1, d2] => { results := [.lit (.bool false)], args := [d1, d2] }
  | _ => none }
def FnExactIndexOfPhaseWrongFalsely : Prop := fnExactIndexOfPhaseRow.holds Try.pinned (OpenSpec.ofChange fnExactIndexOfPhaseWrong)

/-- 'laws.FnExactValidTable': WHATEVER THE INPUT: true; the input reads as it did. -/
def fnExactValidTableSpec : ChangeSpec := { name := "fnExactValidTable", fn := fun _ => fun
  | [d] => { results := [.lit (.bool true)], args := [d] }
  | _ => none }
def fnExactValidTableRow : OpenClaim := { program := "ytbahhkpfbmlcjaa", sum := "fda4d997e12f4b301b7e2d9a947022afbafb8c994614cca6d923795bbb2c8e6c", func := "loop.example/g00903/laws.FnExactValidTable", spec := "fnExactValidTable", apart := false }
def FnExactValidTableSaid : Prop := fnExactValidTableRow.holds Try.pinned (OpenSpec.ofChange fnExactValidTableSpec)

/-- ITS FALSE NEIGHBOUR: 'it returns false'. Refute it at one input. -/
def fnExactValidTableWrong : ChangeSpec := { name := "fnExactValidTable", fn := fun _ => fun
  | [d] => { results := [.lit (.bool false)], args := [d] }
  | _ => none }
def FnExactValidTableWrongFalsely : Prop := fnExactValidTableRow.holds Try.pinned (OpenSpec.ofChange fnExactValidTableWrong)

/-- 'laws.FnExactLineAt': WHATEVER THE INPUT: true; the input reads as it did. -/
def fnExactLineAtSpec : ChangeSpec := { name := "fnExactLineAt", fn := fun _ => fun
  | [d1, d2, d3, d4] => { results := [.lit (.bool true)], args := [d1, d2, d3, d4] }
  | _ => none }
def fnExactLineAtRow : OpenClaim := { program := "ytbahhkpfbmlcjaa", sum := "fda4d997e12f4b301b7e2d9a947022afbafb8c994614cca6d923795bbb2c8e6c", func := "loop.example/g00903/laws.FnExactLineAt", spec := "fnExactLineAt", apart := false }
def FnExactLineAtSaid : Prop := fnExactLineAtRow.holds Try.pinned (OpenSpec.ofChange fnExactLineAtSpec)

/-- ITS FALSE NEIGHBOUR: 'it returns false'. Refute it at one input. -/
def fnExactLineAtWrong : ChangeSpec := { name := "fnExactLineAt", fn := fun _ => fun
  | [d1, d2, d3, d4] => { results := [.lit (.bool false)], args := [d1, d2, d3, d4] }
  | _ => none }
def FnExactLineAtWrongFalsely : Prop := fnExactLineAtRow.holds Try.pinned (OpenSpec.ofChange fnExactLineAtWrong)

/-- 'laws.FnExactFrequencyIncrement': WHATEVER THE INPUT: true; the input reads as it did. -/
def fnExactFrequencyIncrementSpec : ChangeSpec := { name := "fnExactFrequencyIncrement", fn := fun _ => fun
  | [d1, d2] => { results := [.lit (.bool true)], args := [d1, d2] }
  | _ => none }
def fnExactFrequencyIncrementRow : OpenClaim := { program := "ytbahhkpfbmlcjaa", sum := "fda4d997e12f4b301b7e2d9a947022afbafb8c994614cca6d923795bbb2c8e6c", func := "loop.example/g00903/laws.FnExactFrequencyIncrement", spec := "fnExactFrequencyIncrement", apart := false }
def FnExactFrequencyIncrementSaid : Prop := fnExactFrequencyIncrementRow.holds Try.pinned (OpenSpec.ofChange fnExactFrequencyIncrementSpec)

/-- ITS FALSE NEIGHBOUR: 'it returns false'. Refute it at one input. -/
def fnExactFrequencyIncrementWrong : ChangeSpec := { name := "fnExactFrequencyIncrement", fn := fun _ => fun
  | [d1, d2] => { results := [.lit (.bool false)], args := [d1, d2] }
  | _ => none }
def FnExactFrequencyIncrementWrongFalsely : Prop := fnExactFrequencyIncrementRow.holds Try.pinned (OpenSpec.ofChange fnExactFrequencyIncrementWrong)

/-- 'laws.FnWaves': WHATEVER THE INPUT: true; the input reads as it did. -/
def fnWavesSpec : ChangeSpec := { name := "fnWaves", fn := fun _ => fun
  | [d] => { results := [.lit (.bool true)], args := [d] }
  | _ => none }
def fnWavesRow : OpenClaim := { program := "ytbahhkpfbmlcjaa", sum := "fda4d997e12f4b301b7e2d9a947022afbafb8c994614cca6d923795bbb2c8e6c", func := "loop.example/g00903/laws.FnWaves", spec := "fnWaves", recurses := true, apart := false }
def FnWavesSaid : Prop := fnWavesRow.holds Try.pinned (OpenSpec.ofChange fnWavesSpec)

/-- ITS FALSE NEIGHBOUR: 'it returns false'. Refute it at one input. -/
def fnWavesWrong : ChangeSpec := { name := "fnWaves", fn := fun _ => fun
  | [d] => { results := [.lit (.bool false)], args := [d] }
  | _ => none }
def FnWavesWrongFalsely : Prop := fnWavesRow.holds Try.pinned (OpenSpec.ofChange fnWavesWrong)

/-- 'laws.FnExactSameEnvelope': WHATEVER THE INPUT: true; the input reads as it did. -/
def fnExactSameEnvelopeSpec : ChangeSpec := { name := "fnExactSameEnvelope", fn := fun _ => fun
  | [d1, d2] => { results := [.lit (.bool true)], args := [d1, d2] }
  | _ => none }
def fnExactSameEnvelopeRow : OpenClaim := { program := "ytbahhkpfbmlcjaa", sum := "fda4d997e12f4b301b7e2d9a947022afbafb8c994614cca6d923795bbb2c8e6c", func := "loop.example/g00903/laws.FnExactSameEnvelope", spec := "fnExactSameEnvelope", apart := false }
def FnExactSameEnvelopeSaid : Prop := fnExactSameEnvelopeRow.holds Try.pinned (OpenSpec.ofChange fnExactSameEnvelopeSpec)

/-- ITS FALSE NEIGHBOUR: 'it returns false'. Refute it at one input. -/
def fnExactSameEnvelopeWrong : ChangeSpec := { name := "fnExactSameEnvelope", fn := fun _ => fun
  | [d1, d2] => { results := [.lit (.bool false)], args := [d1, d2] }
  | _ => none }
def FnExactSameEnvelopeWrongFalsely : Prop := fnExactSameEnvelopeRow.holds Try.pinned (OpenSpec.ofChange fnExactSameEnvelopeWrong)

/-- 'laws.FnExactValidEnvelope': WHATEVER THE INPUT: true; the input reads as it did. -/
def fnExactValidEnvelopeSpec : ChangeSpec := { name := "fnExactValidEnvelope", fn := fun _ => fun
  | [d] => { results := [.lit (.bool true)], args := [d] }
  | _ => none }
def fnExactValidEnvelopeRow : OpenClaim := { program := "ytbahhkpfbmlcjaa", sum := "fda4d997e12f4b301b7e2d9a947022afbafb8c994614cca6d923795bbb2c8e6c", func := "loop.example/g00903/laws.FnExactValidEnvelope", spec := "fnExactValidEnvelope", apart := false }
def FnExactValidEnvelopeSaid : Prop := fnExactValidEnvelopeRow.holds Try.pinned (OpenSpec.ofChange fnExactValidEnvelopeSpec)

/-- ITS FALSE NEIGHBOUR: 'it returns false'. Refute it at one input. -/
def fnExactValidEnvelopeWrong : ChangeSpec := { name := "fnExactValidEnvelope", fn := fun _ => fun
  | [d] => { results := [.lit (.bool false)], args := [d] }
  | _ => none }
def FnExactValidEnvelopeWrongFalsely : Prop := fnExactValidEnvelopeRow.holds Try.pinned (OpenSpec.ofChange fnExactValidEnvelopeWrong)

/-- 'laws.FnExactSameTuning': WHATEVER THE INPUT: true; the input reads as it did. -/
def fnExactSameTuningSpec : ChangeSpec := { name := "fnExactSameTuning", fn := fun _ => fun
  | [d1, d2] => { results := [.lit (.bool true)], args := [d1, d2] }
  | _ => none }
def fnExactSameTuningRow : OpenClaim := { program := "ytbahhkpfbmlcjaa", sum := "fda4d997e12f4b301b7e2d9a947022afbafb8c994614cca6d923795bbb2c8e6c", func := "loop.example/g00903/laws.FnExactSameTuning", spec := "fnExactSameTuning", apart := false }
def FnExactSameTuningSaid : Prop := fnExactSameTuningRow.holds Try.pinned (OpenSpec.ofChange fnExactSameTuningSpec)

/-- ITS FALSE NEIGHBOUR: 'it returns false'. Refute it at one input. -/
def fnExactSameTuningWrong : ChangeSpec := { name := "fnExactSameTuning", fn := fun _ => fun
  | [d1, d2] => { results := [.lit (.bool false)], args := [d1, d2] }
  | _ => none }
def FnExactSameTuningWrongFalsely : Prop := fnExactSameTuningRow.holds Try.pinned (OpenSpec.ofChange fnExactSameTuningWrong)

/-- 'laws.FnExactHarmonicTable': WHATEVER THE INPUT: true; the input reads as it did. -/
def fnExactHarmonicTableSpec : ChangeSpec := { name := "fnExactHarmonicTable", fn := fun _ => fun
  | [d1, d2] => { results := [.lit (.bool true)], args := [d1, d2] }
  | _ => none }
def fnExactHarmonicTableRow : OpenClaim := { program := "ytbahhkpfbmlcjaa", sum := "fda4d997e12f4b301b7e2d9a947022afbafb8c994614cca6d923795bbb2c8e6c", func := "loop.example/g00903/laws.FnExactHarmonicTable", spec := "fnExactHarmonicTable", unfollowed := true, recurses := true, apart := false }
def FnExactHarmonicTableSaid : Prop := fnExactHarmonicTableRow.holds Try.pinned (OpenSpec.ofChange fnExactHarmonicTableSpec)

/-- ITS FALSE NEIGHBOUR: 'it returns false'. Refute it at one input. -/
def fnExactHarmonicTableWrong : ChangeSpec := { name := "fnExactHarmonicTable", fn := fun _ => fun
  | [d1, d2] => { results := [.lit (.bool false)], args := [d1, d2] }
  | _ => none }
def FnExactHarmonicTableWrongFalsely : Prop := fnExactHarmonicTableRow.holds Try.pinned (OpenSpec.ofChange fnExactHarmonicTableWrong)

/-- 'laws.FnExactRotateTable': WHATEVER THE INPUT: true; the input reads as it did. -/
def fnExactRotateTableSpec : ChangeSpec := { name := "fnExactRotateTable", fn := fun _ => fun
  | [d1, d2] => { results := [.lit (.bool true)], args := [d1, d2] }
  | _ => none }
def fnExactRotateTableRow : OpenClaim := { program := "ytbahhkpfbmlcjaa", sum := "fda4d997e12f4b301b7e2d9a947022afbafb8c994614cca6d923795bbb2c8e6c", func := "loop.example/g00903/laws.FnExactRotateTable", spec := "fnExactRotateTable", unfollowed := true, recurses := true, apart := false }
def FnExactRotateTableSaid : Prop := fnExactRotateTableRow.holds Try.pinned (OpenSpec.ofChange fnExactRotateTableSpec)

/-- ITS FALSE NEIGHBOUR: 'it returns false'. Refute it at one input. -/
def fnExactRotateTableWrong : ChangeSpec := { name := "fnExactRotateTable", fn := fun _ => fun
  | [d1, d2] => { results := [.lit (.bool false)], args := [d1, d2] }
  | _ => none }
def FnExactRotateTableWrongFalsely : Prop := fnExactRotateTableRow.holds Try.pinned (OpenSpec.ofChange fnExactRotateTableWrong)

/- THE SECOND FORM. 'bulk': how many values and letters a reading holds, each counted each time it is reached (what is shared counts as often as it is met; a slice's spare places count too). A statement '..UptoSaid' is the law's where the arguments, and the package variables that the reading takes, are together of bulk at most 1048576: NARROWER than '..Said'. Prove '..Said' where nothing that the law and all that it calls make is longer than what came in: it says more and counts as full. Else prove '..UptoSaid'. A law counts once. -/
mutual
def uptoBulk {H : Type} : DataW H → Nat
  | .lit (.string bytes) => bytes.length + 1
  | .lit _ => 1
  | .nil => 1
  | .ptr d => uptoBulk d + 1
  | .slice elems spare => uptoBulkAll elems + uptoBulkAll spare + 1
  | .agg parts => uptoBulkAll parts + 1
  | .iface _ d => uptoBulk d + 1
  | .map entries => uptoBulkEntries entries + 1
  | .held _ => 1
def uptoBulkAll {H : Type} : List (DataW H) → Nat
  | [] => 0
  | d :: r => uptoBulk d + uptoBulkAll r
def uptoBulkEntries {H : Type} : List (Lit × DataW H) → Nat
  | [] => 0
  | x :: r => uptoBulkEntry x + uptoBulkEntries r
def uptoBulkEntry {H : Type} : Lit × DataW H → Nat
  | (.string bytes, d) => bytes.length + uptoBulk d + 1
  | (_, d) => uptoBulk d + 1
 end
def uptoSmall : (H : Type) → List (DataW H) → Bool := fun _ ds => decide (uptoBulkAll ds ≤ 1048576)
def OpenSpec.upto (s : _root_.Go.ChangeSpec) : _root_.Go.OpenSpec := { _root_.Go.OpenSpec.ofChange s with cond := some uptoSmall }

/-- 'laws.FnExactPhaseAfter', WHERE WHAT IT READS IS OF BULK AT MOST 1048576: true; the input reads as it did. -/
def fnExactPhaseAfterUptoRow : OpenClaim := { program := "ytbahhkpfbmlcjaa", sum := "fda4d997e12f4b301b7e2d9a947022afbafb8c994614cca6d923795bbb2c8e6c", func := "loop.example/g00903/laws.FnExactPhaseAfter", spec := "fnExactPhaseAfter", apart := false, narrowed := true }
def FnExactPhaseAfterUptoSaid : Prop := fnExactPhaseAfterUptoRow.holds Try.pinned (OpenSpec.upto fnExactPhaseAfterSpec)

/-- 'laws.FnExactIndexOfPhase', WHERE WHAT IT READS IS OF BULK AT MOST 1048576: true; the input reads as it did. -/
def fnExactIndexOfPhaseUptoRow : OpenClaim := { program := "ytbahhkpfbmlcjaa", sum := "fda4d997e12f4b301b7e2d9a947022afbafb8c994614cca6d923795bbb2c8e6c", func := "loop.example/g00903/laws.FnExactIndexOfPhase", spec := "fnExactIndexOfPhase", apart := false, narrowed := true }
def FnExactIndexOfPhaseUptoSaid : Prop := fnExactIndexOfPhaseUptoRow.holds Try.pinned (OpenSpec.upto fnExactIndexOfPhaseSpec)

/-- 'laws.FnExactValidTable', WHERE WHAT IT READS IS OF BULK AT MOST 1048576: true; the input reads as it did. -/
def fnExactValidTableUptoRow : OpenClaim := { program := "ytbahhkpfbmlcjaa", sum := "fda4d997e12f4b301b7e2d9a947022afbafb8c994614cca6d923795bbb2c8e6c", func := "loop.example/g00903/laws.FnExactValidTable", spec := "fnExactValidTable", apart := false, narrowed := true }
def FnExactValidTableUptoSaid : Prop := fnExactValidTableUptoRow.holds Try.pinned (OpenSpec.upto fnExactValidTableSpec)

/-- 'laws.FnExactLineAt', WHERE WHAT IT READS IS OF BULK AT MOST 1048576: true; the input reads as it did. -/
def fnExactLineAtUptoRow : OpenClaim := { program := "ytbahhkpfbmlcjaa", sum := "fda4d997e12f4b301b7e2d9a947022afbafb8c994614cca6d923795bbb2c8e6c", func := "loop.example/g00903/laws.FnExactLineAt", spec := "fnExactLineAt", apart := false, narrowed := true }
def FnExactLineAtUptoSaid : Prop := fnExactLineAtUptoRow.holds Try.pinned (OpenSpec.upto fnExactLineAtSpec)

/-- 'laws.FnExactFrequencyIncrement', WHERE WHAT IT READS IS OF BULK AT MOST 1048576: true; the input reads as it did. -/
def fnExactFrequencyIncrementUptoRow : OpenClaim := { program := "ytbahhkpfbmlcjaa", sum := "fda4d997e12f4b301b7e2d9a947022afbafb8c994614cca6d923795bbb2c8e6c", func := "loop.example/g00903/laws.FnExactFrequencyIncrement", spec := "fnExactFrequencyIncrement", apart := false, narrowed := true }
def FnExactFrequencyIncrementUptoSaid : Prop := fnExactFrequencyIncrementUptoRow.holds Try.pinned (OpenSpec.upto fnExactFrequencyIncrementSpec)

/-- 'laws.FnWaves', WHERE WHAT IT READS IS OF BULK AT MOST 1048576: true; the input reads as it did. -/
def fnWavesUptoRow : OpenClaim := { program := "ytbahhkpfbmlcjaa", sum := "fda4d997e12f4b301b7e2d9a947022afbafb8c994614cca6d923795bbb2c8e6c", func := "loop.example/g00903/laws.FnWaves", spec := "fnWaves", recurses := true, apart := false, narrowed := true }
def FnWavesUptoSaid : Prop := fnWavesUptoRow.holds Try.pinned (OpenSpec.upto fnWavesSpec)

/-- 'laws.FnExactSameEnvelope', WHERE WHAT IT READS IS OF BULK AT MOST 1048576: true; the input reads as it did. -/
def fnExactSameEnvelopeUptoRow : OpenClaim := { program := "ytbahhkpfbmlcjaa", sum := "fda4d997e12f4b301b7e2d9a947022afbafb8c994614cca6d923795bbb2c8e6c", func := "loop.example/g00903/laws.FnExactSameEnvelope", spec := "fnExactSameEnvelope", apart := false, narrowed := true }
def FnExactSameEnvelopeUptoSaid : Prop := fnExactSameEnvelopeUptoRow.holds Try.pinned (OpenSpec.upto fnExactSameEnvelopeSpec)

/-- 'laws.FnExactValidEnvelope', WHERE WHAT IT READS IS OF BULK AT MOST 1048576: true; the input reads as it did. -/
def fnExactValidEnvelopeUptoRow : OpenClaim := { program := "ytbahhkpfbmlcjaa", sum := "fda4d997e12f4b301b7e2d9a947022afbafb8c994614cca6d923795bbb2c8e6c", func := "loop.example/g00903/laws.FnExactValidEnvelope", spec := "fnExactValidEnvelope", apart := false, narrowed := true }
def FnExactValidEnvelopeUptoSaid : Prop := fnExactValidEnvelopeUptoRow.holds Try.pinned (OpenSpec.upto fnExactValidEnvelopeSpec)

/-- 'laws.FnExactSameTuning', WHERE WHAT IT READS IS OF BULK AT MOST 1048576: true; the input reads as it did. -/
def fnExactSameTuningUptoRow : OpenClaim := { program := "ytbahhkpfbmlcjaa", sum := "fda4d997e12f4b301b7e2d9a947022afbafb8c994614cca6d923795bbb2c8e6c", func := "loop.example/g00903/laws.FnExactSameTuning", spec := "fnExactSameTuning", apart := false, narrowed := true }
def FnExactSameTuningUptoSaid : Prop := fnExactSameTuningUptoRow.holds Try.pinned (OpenSpec.upto fnExactSameTuningSpec)

/-- 'laws.FnExactHarmonicTable', WHERE WHAT IT READS IS OF BULK AT MOST 1048576: true; the input reads as it did. -/
def fnExactHarmonicTableUptoRow : OpenClaim := { program := "ytbahhkpfbmlcjaa", sum := "fda4d997e12f4b301b7e2d9a947022afbafb8c994614cca6d923795bbb2c8e6c", func := "loop.example/g00903/laws.FnExactHarmonicTable", spec := "fnExactHarmonicTable", unfollowed := true, recurses := true, apart := false, narrowed := true }
def FnExactHarmonicTableUptoSaid : Prop := fnExactHarmonicTableUptoRow.holds Try.pinned (OpenSpec.upto fnExactHarmonicTableSpec)

/-- 'laws.FnExactRotateTable', WHERE WHAT IT READS IS OF BULK AT MOST 1048576: true; the input reads as it did. -/
def fnExactRotateTableUptoRow : OpenClaim := { program := "ytbahhkpfbmlcjaa", sum := "fda4d997e12f4b301b7e2d9a947022afbafb8c994614cca6d923795bbb2c8e6c", func := "loop.example/g00903/laws.FnExactRotateTable", spec := "fnExactRotateTable", unfollowed := true, recurses := true, apart := false, narrowed := true }
def FnExactRotateTableUptoSaid : Prop := fnExactRotateTableUptoRow.holds Try.pinned (OpenSpec.upto fnExactRotateTableSpec)

end Rows
end Go.Proofs.Ytbahhkpfbmlcjaa
