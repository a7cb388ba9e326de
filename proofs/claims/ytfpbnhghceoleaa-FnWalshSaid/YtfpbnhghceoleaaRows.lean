/-
  No cell of these rows narrows 'for every input' (looked for: loops, veiled, ifaces, maps, wideKeys, modest, calm, conditions, laid).
  DERIVED. THE GIVEN ROWS OF THIS SEAT. 12 by the template 'for every input the law returns true; each argument reads behind the call as it read before'; 0 by the template 'total and deterministic' (their statements: YtfpbnhghceoleaaTotals.lean).
  GIVEN WITH THE SEED: the statements are not yours to turn. If you find one false, say at which input.
  Laid BY PROGRAM, IN A SANDBOX (cutbox-rows.mjs): the forced cells as the released guide's own fill.sh prints them over the translation 52395f9e577ad378… (all of the seat's roots in one cut). By AI agents, Wed Nov 11 2026. No macro, syntax, notation, axiom, sorry.
-/
import Derived.Test.YtfpbnhghceoleaaChecked
import GoSem.Claim
import GoSem.ClaimJoined
import GoSem.ClaimMapViews
import Derived.JoinedTies
import Derived.KernelRfl
namespace Go.Proofs.Ytfpbnhghceoleaa
/- THE CELL 'sum', in the pinned program and in every row, IS THE sha256 OF THE DUMP (.gsa) THAT YtfpbnhghceoleaaProg.lean LOADS. Nothing in Lean hashes anything: it is a label: what it is worth is what the hold of that sum in a sandbox is worth. -/
noncomputable def Try.pinned : Pinned := { name := "ytfpbnhghceoleaa", sum := "52395f9e577ad3784f55b55154fce57d5cf178a8e778b2ebfe5e2cd33539dad3", checked := Try.checked }
namespace Rows
def none {H : Type} : Left H := { results := [], args := [] }

/-- 'laws.FnExactSimpleEnvelope': WHATEVER THE INPUT: true; the input reads as it did. -/
def fnExactSimpleEnvelopeSpec : ChangeSpec := { name := "fnExactSimpleEnvelope", fn := fun _ => fun
  | [d1, d2, d3, d4] => { results := [.lit (.bool true)], args := [d1, d2, d3, d4] }
  | _ => none }
def fnExactSimpleEnvelopeRow : OpenClaim := { program := "ytfpbnhghceoleaa", sum := "52395f9e577ad3784f55b55154fce57d5cf178a8e778b2ebfe5e2cd33539dad3", func := "loop.example/g00903/laws.FnExactSimpleEnvelope", spec := "fnExactSimpleEnvelope", apart := false }
def FnExactSimpleEnvelopeSaid : Prop := fnExactSimpleEnvelopeRow.holds Try.pinned (OpenSpec.ofChange fnExactSimpleEnvelopeSpec)

/-- ITS FALSE NEIGHBOUR: 'it returns false'. Refute it at one input. -/
def fnExactSimpleEnvelopeWrong : ChangeSpec := { name := "fnExactSimpleEnvelope", fn := fun _ => fun
  | [d1, d2, d3, d4] => { results := [.lit (.bool false)], args := [d1, d2, d3, d4] }
  | _ => none }
def FnExactSimpleEnvelopeWrongFalsely : Prop := fnExactSimpleEnvelopeRow.holds Try.pinned (OpenSpec.ofChange fnExactSimpleEnvelopeWrong)

/-- 'laws.FnExactRenderWave': WHATEVER THE INPUT: true; the input reads as it did. -/
def fnExactRenderWaveSpec : ChangeSpec := { name := "fnExactRenderWave", fn := fun _ => fun
  | [d1, d2, d3, d4] => { results := [.lit (.bool true)], args := [d1, d2, d3, d4] }
  | _ => none }
def fnExactRenderWaveRow : OpenClaim := { program := "ytfpbnhghceoleaa", sum := "52395f9e577ad3784f55b55154fce57d5cf178a8e778b2ebfe5e2cd33539dad3", func := "loop.example/g00903/laws.FnExactRenderWave", spec := "fnExactRenderWave", apart := false }
def FnExactRenderWaveSaid : Prop := fnExactRenderWaveRow.holds Try.pinned (OpenSpec.ofChange fnExactRenderWaveSpec)

/-- ITS FALSE NEIGHBOUR: 'it returns false'. Refute it at one input. -/
def fnExactRenderWaveWrong : ChangeSpec := { name := "fnExactRenderWave", fn := fun _ => fun
  | [d1, d2, d3, d4] => { results := [.lit (.bool false)], args := [d1, d2, d3, d4] }
  | _ => none }
def FnExactRenderWaveWrongFalsely : Prop := fnExactRenderWaveRow.holds Try.pinned (OpenSpec.ofChange fnExactRenderWaveWrong)

/-- 'laws.FnExactWaveTable': WHATEVER THE INPUT: true; the input reads as it did. -/
def fnExactWaveTableSpec : ChangeSpec := { name := "fnExactWaveTable", fn := fun _ => fun
  | [d1, d2, d3] => { results := [.lit (.bool true)], args := [d1, d2, d3] }
  | _ => none }
def fnExactWaveTableRow : OpenClaim := { program := "ytfpbnhghceoleaa", sum := "52395f9e577ad3784f55b55154fce57d5cf178a8e778b2ebfe5e2cd33539dad3", func := "loop.example/g00903/laws.FnExactWaveTable", spec := "fnExactWaveTable", recurses := true, apart := false }
def FnExactWaveTableSaid : Prop := fnExactWaveTableRow.holds Try.pinned (OpenSpec.ofChange fnExactWaveTableSpec)

/-- ITS FALSE NEIGHBOUR: 'it returns false'. Refute it at one input. -/
def fnExactWaveTableWrong : ChangeSpec := { name := "fnExactWaveTable", fn := fun _ => fun
  | [d1, d2, d3] => { results := [.lit (.bool false)], args := [d1, d2, d3] }
  | _ => none }
def FnExactWaveTableWrongFalsely : Prop := fnExactWaveTableRow.holds Try.pinned (OpenSpec.ofChange fnExactWaveTableWrong)

/-- 'laws.FnTables': WHATEVER THE INPUT: true; the input reads as it did. -/
def fnTablesSpec : ChangeSpec := { name := "fnTables", fn := fun _ => fun
  | [d1, d2] => { results := [.lit (.bool true)], args := [d1, d2] }
  | _ => none }
def fnTablesRow : OpenClaim := { program := "ytfpbnhghceoleaa", sum := "52395f9e577ad3784f55b55154fce57d5cf178a8e778b2ebfe5e2cd33539dad3", func := "loop.example/g00903/laws.FnTables", spec := "fnTables", unfollowed := true, recurses := true, apart := false }
def FnTablesSaid : Prop := fnTablesRow.holds Try.pinned (OpenSpec.ofChange fnTablesSpec)

/-- ITS FALSE NEIGHBOUR: 'it returns false'. Refute it at one input. -/
def fnTablesWrong : ChangeSpec := { name := "fnTables", fn := fun _ => fun
  | [d1, d2] => { results := [.lit (.bool false)], args := [d1, d2] }
  | _ => none }
def FnTablesWrongFalsely : Prop := fnTablesRow.holds Try.pinned (OpenSpec.ofChange fnTablesWrong)

/-- 'laws.FnIncrements': WHATEVER THE INPUT: true; the input reads as it did. -/
def fnIncrementsSpec : ChangeSpec := { name := "fnIncrements", fn := fun _ => fun
  | [d] => { results := [.lit (.bool true)], args := [d] }
  | _ => none }
def fnIncrementsRow : OpenClaim := { program := "ytfpbnhghceoleaa", sum := "52395f9e577ad3784f55b55154fce57d5cf178a8e778b2ebfe5e2cd33539dad3", func := "loop.example/g00903/laws.FnIncrements", spec := "fnIncrements", apart := false }
def FnIncrementsSaid : Prop := fnIncrementsRow.holds Try.pinned (OpenSpec.ofChange fnIncrementsSpec)

/-- ITS FALSE NEIGHBOUR: 'it returns false'. Refute it at one input. -/
def fnIncrementsWrong : ChangeSpec := { name := "fnIncrements", fn := fun _ => fun
  | [d] => { results := [.lit (.bool false)], args := [d] }
  | _ => none }
def FnIncrementsWrongFalsely : Prop := fnIncrementsRow.holds Try.pinned (OpenSpec.ofChange fnIncrementsWrong)

/-- 'laws.FnExactWalshOf': WHATEVER THE INPUT: true; the input reads as it did. -/
def fnExactWalshOfSpec : ChangeSpec := { name := "fnExactWalshOf", fn := fun _ => fun
  | [d] => { results := [.lit (.bool true)], args := [d] }
  | _ => none }
def fnExactWalshOfRow : OpenClaim := { program := "ytfpbnhghceoleaa", sum := "52395f9e577ad3784f55b55154fce57d5cf178a8e778b2ebfe5e2cd33539dad3", func := "loop.example/g00903/laws.FnExactWalshOf", spec := "fnExactWalshOf", apart := false }
def FnExactWalshOfSaid : Prop := fnExactWalshOfRow.holds Try.pinned (OpenSpec.ofChange fnExactWalshOfSpec)

/-- ITS FALSE NEIGHBOUR: 'it returns false'. Refute it at one input. -/
def fnExactWalshOfWrong : ChangeSpec := { name := "fnExactWalshOf", fn := fun _ => fun
  | [d] => { results := [.lit (.bool false)], args := [d] }
  | _ => none }
def FnExactWalshOfWrongFalsely : Prop := fnExactWalshOfRow.holds Try.pinned (OpenSpec.ofChange fnExactWalshOfWrong)

/-- 'laws.FnExactValidTuning': WHATEVER THE INPUT: true; the input reads as it did. -/
def fnExactValidTuningSpec : ChangeSpec := { name := "fnExactValidTuning", fn := fun _ => fun
  | [d] => { results := [.lit (.bool true)], args := [d] }
  | _ => none }
def fnExactValidTuningRow : OpenClaim := { program := "ytfpbnhghceoleaa", sum := "52395f9e577ad3784f55b55154fce57d5cf178a8e778b2ebfe5e2cd33539dad3", func := "loop.example/g00903/laws.FnExactValidTuning", spec := "fnExactValidTuning", apart := false }
def FnExactValidTuningSaid : Prop := fnExactValidTuningRow.holds Try.pinned (OpenSpec.ofChange fnExactValidTuningSpec)

/-- ITS FALSE NEIGHBOUR: 'it returns false'. Refute it at one input. -/
def fnExactValidTuningWrong : ChangeSpec := { name := "fnExactValidTuning", fn := fun _ => fun
  | [d] => { results := [.lit (.bool false)], args := [d] }
  | _ => none }
def FnExactValidTuningWrongFalsely : Prop := fnExactValidTuningRow.holds Try.pinned (OpenSpec.ofChange fnExactValidTuningWrong)

/-- 'laws.FnExactHeldLevel': WHATEVER THE INPUT: true; the input reads as it did. -/
def fnExactHeldLevelSpec : ChangeSpec := { name := "fnExactHeldLevel", fn := fun _ => fun
  | [d1, d2] => { results := [.lit (.bool true)], args := [d1, d2] }
  | _ => none }
def fnExactHeldLevelRow : OpenClaim := { program := "ytfpbnhghceoleaa", sum := "52395f9e577ad3784f55b55154fce57d5cf178a8e778b2ebfe5e2cd33539dad3", func := "loop.example/g00903/laws.FnExactHeldLevel", spec := "fnExactHeldLevel", apart := false }
def FnExactHeldLevelSaid : Prop := fnExactHeldLevelRow.holds Try.pinned (OpenSpec.ofChange fnExactHeldLevelSpec)

/-- ITS FALSE NEIGHBOUR: 'it returns false'. Refute it at one input. -/
def fnExactHeldLevelWrong : ChangeSpec := { name := "fnExactHeldLevel", fn := fun _ => fun
  | [d1, d2] => { results := [.lit (.bool false)], args := [d1, d2] }
  | _ => none }
def FnExactHeldLevelWrongFalsely : Prop := fnExactHeldLevelRow.holds Try.pinned (OpenSpec.ofChange fnExactHeldLevelWrong)

/-- 'laws.FnWalsh': WHATEVER THE INPUT: true; the input reads as it did. -/
def fnWalshSpec : ChangeSpec := { name := "fnWalsh", fn := fun _ => fun
  | [d] => { results := [.lit (.bool true)], args := [d] }
  | _ => none }
def fnWalshRow : OpenClaim := { program := "ytfpbnhghceoleaa", sum := "52395f9e577ad3784f55b55154fce57d5cf178a8e778b2ebfe5e2cd33539dad3", func := "loop.example/g00903/laws.FnWalsh", spec := "fnWalsh", apart := false }
def FnWalshSaid : Prop := fnWalshRow.holds Try.pinned (OpenSpec.ofChange fnWalshSpec)

/-- ITS FALSE NEIGHBOUR: 'it returns false'. Refute it at one input. -/
def fnWalshWrong : ChangeSpec := { name := "fnWalsh", fn := fun _ => fun
  | [d] => { results := [.lit (.bool false)], args := [d] }
  | _ => none }
def FnWalshWrongFalsely : Prop := fnWalshRow.holds Try.pinned (OpenSpec.ofChange fnWalshWrong)

/-- 'laws.FnExactLevelAt': WHATEVER THE INPUT: true; the input reads as it did. -/
def fnExactLevelAtSpec : ChangeSpec := { name := "fnExactLevelAt", fn := fun _ => fun
  | [d1, d2, d3] => { results := [.lit (.bool true)], args := [d1, d2, d3] }
  | _ => none }
def fnExactLevelAtRow : OpenClaim := { program := "ytfpbnhghceoleaa", sum := "52395f9e577ad3784f55b55154fce57d5cf178a8e778b2ebfe5e2cd33539dad3", func := "loop.example/g00903/laws.FnExactLevelAt", spec := "fnExactLevelAt", apart := false }
def FnExactLevelAtSaid : Prop := fnExactLevelAtRow.holds Try.pinned (OpenSpec.ofChange fnExactLevelAtSpec)

/-- ITS FALSE NEIGHBOUR: 'it returns false'. Refute it at one input. -/
def fnExactLevelAtWrong : ChangeSpec := { name := "fnExactLevelAt", fn := fun _ => fun
  | [d1, d2, d3] => { results := [.lit (.bool false)], args := [d1, d2, d3] }
  | _ => none }
def FnExactLevelAtWrongFalsely : Prop := fnExactLevelAtRow.holds Try.pinned (OpenSpec.ofChange fnExactLevelAtWrong)

/-- 'laws.FnExactEndOfEnvelope': WHATEVER THE INPUT: true; the input reads as it did. -/
def fnExactEndOfEnvelopeSpec : ChangeSpec := { name := "fnExactEndOfEnvelope", fn := fun _ => fun
  | [d1, d2] => { results := [.lit (.bool true)], args := [d1, d2] }
  | _ => none }
def fnExactEndOfEnvelopeRow : OpenClaim := { program := "ytfpbnhghceoleaa", sum := "52395f9e577ad3784f55b55154fce57d5cf178a8e778b2ebfe5e2cd33539dad3", func := "loop.example/g00903/laws.FnExactEndOfEnvelope", spec := "fnExactEndOfEnvelope", apart := false }
def FnExactEndOfEnvelopeSaid : Prop := fnExactEndOfEnvelopeRow.holds Try.pinned (OpenSpec.ofChange fnExactEndOfEnvelopeSpec)

/-- ITS FALSE NEIGHBOUR: 'it returns false'. Refute it at one input. -/
def fnExactEndOfEnvelopeWrong : ChangeSpec := { name := "fnExactEndOfEnvelope", fn := fun _ => fun
  | [d1, d2] => { results := [.lit (.bool false)], args := [d1, d2] }
  | _ => none }
def FnExactEndOfEnvelopeWrongFalsely : Prop := fnExactEndOfEnvelopeRow.holds Try.pinned (OpenSpec.ofChange fnExactEndOfEnvelopeWrong)

/-- 'laws.FnExactMixTables': WHATEVER THE INPUT: true; the input reads as it did. -/
def fnExactMixTablesSpec : ChangeSpec := { name := "fnExactMixTables", fn := fun _ => fun
  | [d1, d2] => { results := [.lit (.bool true)], args := [d1, d2] }
  | _ => none }
def fnExactMixTablesRow : OpenClaim := { program := "ytfpbnhghceoleaa", sum := "52395f9e577ad3784f55b55154fce57d5cf178a8e778b2ebfe5e2cd33539dad3", func := "loop.example/g00903/laws.FnExactMixTables", spec := "fnExactMixTables", apart := false }
def FnExactMixTablesSaid : Prop := fnExactMixTablesRow.holds Try.pinned (OpenSpec.ofChange fnExactMixTablesSpec)

/-- ITS FALSE NEIGHBOUR: 'it returns false'. Refute it at one input. -/
def fnExactMixTablesWrong : ChangeSpec := { name := "fnExactMixTables", fn := fun _ => fun
  | [d1, d2] => { results := [.lit (.bool false)], args := [d1, d2] }
  | _ => none }
def FnExactMixTablesWrongFalsely : Prop := fnExactMixTablesRow.holds Try.pinned (OpenSpec.ofChange fnExactMixTablesWrong)

/- THE SECOND FORM. 'bulk': how many values and letters a reading holds, each counted each time it is reached (what is shared counts as often as it is met; a slice's spare places count too). A statement '..UptoSaid' is the law's where the arguments, and the package variables that the reading takes, are together of bulk at most 1048576: NARROWER than '..Said'. Prove '..Said' where nothing that the law and all that it calls make is longer than what came in: it says more and counts as full. Else prove '..UptoSaid'. A law counts once. -/
mutual
def uptoBulk {H : Type} : DataW H → Nat
  | .lit (.string bytes) => bytes.length + 1
  | .lit _ => 1
  | .nil => 1
  | .ptr d => uptoBulk d + 1
  | .slice elems spare => uptoBulkAll elems + uptoBulkAll spare + 1
  | .agg parts => uptoBulkAll parts + 1
  | .iface _ d => uptoBulk d + 1
  | .map entries => uptoBulkEntries entries + 1
  | .held _ => 1
def uptoBulkAll {H : Type} : List (DataW H) → Nat
  | [] => 0
  | d :: r => uptoBulk d + uptoBulkAll r
def uptoBulkEntries {H : Type} : List (Lit × DataW H) → Nat
  | [] => 0
  | x :: r => uptoBulkEntry x + uptoBulkEntries r
def uptoBulkEntry {H : Type} : Lit × DataW H → Nat
  | (.string bytes, d) => bytes.length + uptoBulk d + 1
  | (_, d) => uptoBulk d + 1
 end
def uptoSmall : (H : Type) → List (DataW H) → Bool := fun _ ds => decide (uptoBulkAll ds ≤ 1048576)
def OpenSpec.upto (s : _root_.Go.ChangeSpec) : _root_.Go.OpenSpec := { _root_.Go.OpenSpec.ofChange s with cond := some uptoSmall }

/-- 'laws.FnExactSimpleEnvelope', WHERE WHAT IT READS IS OF BULK AT MOST 1048576: true; the input reads as it did. -/
def fnExactSimpleEnvelopeUptoRow : OpenClaim := { program := "ytfpbnhghceoleaa", sum := "52395f9e577ad3784f55b55154fce57d5cf178a8e778b2ebfe5e2cd33539dad3", func := "loop.example/g00903/laws.FnExactSimpleEnvelope", spec := "fnExactSimpleEnvelope", apart := false, narrowed := true }
def FnExactSimpleEnvelopeUptoSaid : Prop := fnExactSimpleEnvelopeUptoRow.holds Try.pinned (OpenSpec.upto fnExactSimpleEnvelopeSpec)

/-- 'laws.FnExactRenderWave', WHERE WHAT IT READS IS OF BULK AT MOST 1048576: true; the input reads as it did. -/
def fnExactRenderWaveUptoRow : OpenClaim := { program := "ytfpbnhghceoleaa", sum := "52395f9e577ad3784f55b55154fce57d5cf178a8e778b2ebfe5e2cd33539dad3", func := "loop.example/g00903/laws.FnExactRenderWave", spec := "fnExactRenderWave", apart := false, narrowed := true }
def FnExactRenderWaveUptoSaid : Prop := fnExactRenderWaveUptoRow.holds Try.pinned (OpenSpec.upto fnExactRenderWaveSpec)

/-- 'laws.FnExactWaveTable', WHERE WHAT IT READS IS OF BULK AT MOST 1048576: true; the input reads as it did. -/
def fnExactWaveTableUptoRow : OpenClaim := { program := "ytfpbnhghceoleaa", sum := "52395f9e577ad3784f55b55154fce57d5cf178a8e778b2ebfe5e2cd33539dad3", func := "loop.example/g00903/laws.FnExactWaveTable", spec := "fnExactWaveTable", recurses := true, apart := false, narrowed := true }
def FnExactWaveTableUptoSaid : Prop := fnExactWaveTableUptoRow.holds Try.pinned (OpenSpec.upto fnExactWaveTableSpec)

/-- 'laws.FnTables', WHERE WHAT IT READS IS OF BULK AT MOST 1048576: true; the input reads as it did. -/
def fnTablesUptoRow : OpenClaim := { program := "ytfpbnhghceoleaa", sum := "52395f9e577ad3784f55b55154fce57d5cf178a8e778b2ebfe5e2cd33539dad3", func := "loop.example/g00903/laws.FnTables", spec := "fnTables", unfollowed := true, recurses := true, apart := false, narrowed := true }
def FnTablesUptoSaid : Prop := fnTablesUptoRow.holds Try.pinned (OpenSpec.upto fnTablesSpec)

/-- 'laws.FnIncrements', WHERE WHAT IT READS IS OF BULK AT MOST 1048576: true; the input reads as it did. -/
def fnIncrementsUptoRow : OpenClaim := { program := "ytfpbnhghceoleaa", sum := "52395f9e577ad3784f55b55154fce57d5cf178a8e778b2ebfe5e2cd33539dad3", func := "loop.example/g00903/laws.FnIncrements", spec := "fnIncrements", apart := false, narrowed := true }
def FnIncrementsUptoSaid : Prop := fnIncrementsUptoRow.holds Try.pinned (OpenSpec.upto fnIncrementsSpec)

/-- 'laws.FnExactWalshOf', WHERE WHAT IT READS IS OF BULK AT MOST 1048576: true; the input reads as it did. -/
def fnExactWalshOfUptoRow : OpenClaim := { program := "ytfpbnhghceoleaa", sum := "52395f9e577ad3784f55b55154fce57d5cf178a8e778b2ebfe5e2cd33539dad3", func := "loop.example/g00903/laws.FnExactWalshOf", spec := "fnExactWalshOf", apart := false, narrowed := true }
def FnExactWalshOfUptoSaid : Prop := fnExactWalshOfUptoRow.holds Try.pinned (OpenSpec.upto fnExactWalshOfSpec)

/-- 'laws.FnExactValidTuning', WHERE WHAT IT READS IS OF BULK AT MOST 1048576: true; the input reads as it did. -/
def fnExactValidTuningUptoRow : OpenClaim := { program := "ytfpbnhghceoleaa", sum := "52395f9e577ad3784f55b55154fce57d5cf178a8e778b2ebfe5e2cd33539dad3", func := "loop.example/g00903/laws.FnExactValidTuning", spec := "fnExactValidTuning", apart := false, narrowed := true }
def FnExactValidTuningUptoSaid : Prop := fnExactValidTuningUptoRow.holds Try.pinned (OpenSpec.upto fnExactValidTuningSpec)

/-- 'laws.FnExactHeldLevel', WHERE WHAT IT READS IS OF BULK AT MOST 1048576: true; the input reads as it did. -/
def fnExactHeldLevelUptoRow : OpenClaim := { program := "ytfpbnhghceoleaa", sum := "52395f9e577ad3784f55b55154fce57d5cf178a8e778b2ebfe5e2cd33539dad3", func := "loop.example/g00903/laws.FnExactHeldLevel", spec := "fnExactHeldLevel", apart := false, narrowed := true }
def FnExactHeldLevelUptoSaid : Prop := fnExactHeldLevelUptoRow.holds Try.pinned (OpenSpec.upto fnExactHeldLevelSpec)

/-- 'laws.FnWalsh', WHERE WHAT IT READS IS OF BULK AT MOST 1048576: true; the input reads as it did. -/
def fnWalshUptoRow : OpenClaim := { program := "ytfpbnhghceoleaa", sum := "52395f9e577ad3784f55b55154fce57d5cf178a8e778b2ebfe5e2cd33539dad3", func := "loop.example/g00903/laws.FnWalsh", spec := "fnWalsh", apart := false, narrowed := true }
def FnWalshUptoSaid : Prop := fnWalshUptoRow.holds Try.pinned (OpenSpec.upto fnWalshSpec)

/-- 'laws.FnExactLevelAt', WHERE WHAT IT READS IS OF BULK AT MOST 1048576: true; the input reads as it did. -/
def fnExactLevelAtUptoRow : OpenClaim := { program := "ytfpbnhghceoleaa", sum := "52395f9e577ad3784f55b55154fce57d5cf178a8e778b2ebfe5e2cd33539dad3", func := "loop.example/g00903/laws.FnExactLevelAt", spec := "fnExactLevelAt", apart := false, narrowed := true }
def FnExactLevelAtUptoSaid : Prop := fnExactLevelAtUptoRow.holds Try.pinned (OpenSpec.upto fnExactLevelAtSpec)

/-- 'laws.FnExactEndOfEnvelope', WHERE WHAT IT READS IS OF BULK AT MOST 1048576: true; the input reads as it did. -/
def fnExactEndOfEnvelopeUptoRow : OpenClaim := { program := "ytfpbnhghceoleaa", sum := "52395f9e577ad3784f55b55154fce57d5cf178a8e778b2ebfe5e2cd33539dad3", func := "loop.example/g00903/laws.FnExactEndOfEnvelope", spec := "fnExactEndOfEnvelope", apart := false, narrowed := true }
def FnExactEndOfEnvelopeUptoSaid : Prop := fnExactEndOfEnvelopeUptoRow.holds Try.pinned (OpenSpec.upto fnExactEndOfEnvelopeSpec)

/-- 'laws.FnExactMixTables', WHERE WHAT IT READS IS OF BULK AT MOST 1048576: true; the input reads as it did. -/
def fnExactMixTablesUptoRow : OpenClaim := { program := "ytfpbnhghceoleaa", sum := "52395f9e577ad3784f55b55154fce57d5cf178a8e778b2ebfe5e2cd33539dad3", func := "loop.example/g00903/laws.FnExactMixTables", spec := "fnExactMixTables", apart := false, narrowed := true }
def FnExactMixTablesUptoSaid : Prop := fnExactMixTablesUptoRow.holds Try.pinned (OpenSpec.upto fnExactMixTablesSpec)

end Rows
end Go.Proofs.Ytfpbnhghceoleaa
