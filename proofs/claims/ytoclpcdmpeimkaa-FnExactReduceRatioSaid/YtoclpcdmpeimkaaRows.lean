/-
  No cell of these rows narrows 'for every input' (looked for: loops, veiled, ifaces, maps, wideKeys, modest, calm, conditions, laid).
  DERIVED. THE GIVEN ROWS OF THIS SEAT. 5 by the template 'for every input the law returns true; each argument reads behind the call as it read before'; 0 by the template 'total and deterministic' (their statements: YtoclpcdmpeimkaaTotals.lean).
  GIVEN WITH THE SEED: the statements are not yours to turn. If you find one false, say at which input.
  Laid BY PROGRAM, IN A SANDBOX (cutbox-rows.mjs): the forced cells as the released guide's own fill.sh prints them over the translation f55da3c5d890483a… (all of the seat's roots in one cut). By AI agents, Wed Nov 11 2026. No macro, syntax, notation, axiom, sorry.
-/
import Derived.Test.YtoclpcdmpeimkaaChecked
import GoSem.Claim
import GoSem.ClaimJoined
import GoSem.ClaimMapViews
import Derived.JoinedTies
import Derived.KernelRfl
namespace Go.Proofs.Ytoclpcdmpeimkaa
/- THE CELL 'sum', in the pinned program and in every row, IS THE sha256 OF THE DUMP (.gsa) THAT YtoclpcdmpeimkaaProg.lean LOADS. Nothing in Lean hashes anything: it is a label: what it is worth is what the hold of that sum in a sandbox is worth. -/
noncomputable def Try.pinned : Pinned := { name := "ytoclpcdmpeimkaa", sum := "f55da3c5d890483a770f7eb75be9192ea74aee2b0bfc028d56b2b71498a3d66c", checked := Try.checked }
namespace Rows
def none {H : Type} : Left H := { results := [], args := [] }

/-- 'laws.FnExactReduceRatio': WHATEVER THE INPUT: true; the input reads as it did. -/
def fnExactReduceRatioSpec : ChangeSpec := { name := "fnExactReduceRatio", fn := fun _ => fun
  | [d1, d2] => { results := [.lit (.bool true)], args := [d1, d2] }
  | _ => none }
def fnExactReduceRatioRow : OpenClaim := { program := "ytoclpcdmpeimkaa", sum := "f55da3c5d890483a770f7eb75be9192ea74aee2b0bfc028d56b2b71498a3d66c", func := "loop.example/g00903/laws.FnExactReduceRatio", spec := "fnExactReduceRatio", apart := false }
def FnExactReduceRatioSaid : Prop := fnExactReduceRatioRow.holds Try.pinned (OpenSpec.ofChange fnExactReduceRatioSpec)

/-- ITS FALSE NEIGHBOUR: 'it returns false'. Refute it at one input. -/
def fnExactReduceRatioWrong : ChangeSpec := { name := "fnExactReduceRatio", fn := fun _ => fun
  | [d1, d2] => { results := [.lit (.bool false)], args := [d1, d2] }
  | _ => none }
def FnExactReduceRatioWrongFalsely : Prop := fnExactReduceRatioRow.holds Try.pinned (OpenSpec.ofChange fnExactReduceRatioWrong)

/-- 'laws.FnExactStretchEnvelope': WHATEVER THE INPUT: true; the input reads as it did. -/
def fnExactStretchEnvelopeSpec : ChangeSpec := { name := "fnExactStretchEnvelope", fn := fun _ => fun
  | [d1, d2] => { results := [.lit (.bool true)], args := [d1, d2] }
  | _ => none }
def fnExactStretchEnvelopeRow : OpenClaim := { program := "ytoclpcdmpeimkaa", sum := "f55da3c5d890483a770f7eb75be9192ea74aee2b0bfc028d56b2b71498a3d66c", func := "loop.example/g00903/laws.FnExactStretchEnvelope", spec := "fnExactStretchEnvelope", unfollowed := true, recurses := true, apart := false }
def FnExactStretchEnvelopeSaid : Prop := fnExactStretchEnvelopeRow.holds Try.pinned (OpenSpec.ofChange fnExactStretchEnvelopeSpec)

/-- ITS FALSE NEIGHBOUR: 'it returns false'. Refute it at one input. -/
def fnExactStretchEnvelopeWrong : ChangeSpec := { name := "fnExactStretchEnvelope", fn := fun _ => fun
  | [d1, d2] => { results := [.lit (.bool false)], args := [d1, d2] }
  | _ => none }
def FnExactStretchEnvelopeWrongFalsely : Prop := fnExactStretchEnvelopeRow.holds Try.pinned (OpenSpec.ofChange fnExactStretchEnvelopeWrong)

/-- 'laws.FnExactRenderEnvelope': WHATEVER THE INPUT: true; the input reads as it did. -/
def fnExactRenderEnvelopeSpec : ChangeSpec := { name := "fnExactRenderEnvelope", fn := fun _ => fun
  | [d1, d2, d3] => { results := [.lit (.bool true)], args := [d1, d2, d3] }
  | _ => none }
def fnExactRenderEnvelopeRow : OpenClaim := { program := "ytoclpcdmpeimkaa", sum := "f55da3c5d890483a770f7eb75be9192ea74aee2b0bfc028d56b2b71498a3d66c", func := "loop.example/g00903/laws.FnExactRenderEnvelope", spec := "fnExactRenderEnvelope", apart := false }
def FnExactRenderEnvelopeSaid : Prop := fnExactRenderEnvelopeRow.holds Try.pinned (OpenSpec.ofChange fnExactRenderEnvelopeSpec)

/-- ITS FALSE NEIGHBOUR: 'it returns false'. Refute it at one input. -/
def fnExactRenderEnvelopeWrong : ChangeSpec := { name := "fnExactRenderEnvelope", fn := fun _ => fun
  | [d1, d2, d3] => { results := [.lit (.bool false)], args := [d1, d2, d3] }
  | _ => none }
def FnExactRenderEnvelopeWrongFalsely : Prop := fnExactRenderEnvelopeRow.holds Try.pinned (OpenSpec.ofChange fnExactRenderEnvelopeWrong)

/-- 'laws.FnExactFrequencyOfKey': WHATEVER THE INPUT: true; the input reads as it did. -/
def fnExactFrequencyOfKeySpec : ChangeSpec := { name := "fnExactFrequencyOfKey", fn := fun _ => fun
  | [d1, d2] => { results := [.lit (.bool true)], args := [d1, d2] }
  | _ => none }
def fnExactFrequencyOfKeyRow : OpenClaim := { program := "ytoclpcdmpeimkaa", sum := "f55da3c5d890483a770f7eb75be9192ea74aee2b0bfc028d56b2b71498a3d66c", func := "loop.example/g00903/laws.FnExactFrequencyOfKey", spec := "fnExactFrequencyOfKey", apart := false }
def FnExactFrequencyOfKeySaid : Prop := fnExactFrequencyOfKeyRow.holds Try.pinned (OpenSpec.ofChange fnExactFrequencyOfKeySpec)

/-- ITS FALSE NEIGHBOUR: 'it returns false'. Refute it at one input. -/
def fnExactFrequencyOfKeyWrong : ChangeSpec := { name := "fnExactFrequencyOfKey", fn := fun _ => fun
  | [d1, d2] => { results := [.lit (.bool false)], args := [d1, d2] }
  | _ => none }
def FnExactFrequencyOfKeyWrongFalsely : Prop := fnExactFrequencyOfKeyRow.holds Try.pinned (OpenSpec.ofChange fnExactFrequencyOfKeyWrong)

/-- 'laws.FnExactMirrorTuning': WHATEVER THE INPUT: true; the input reads as it did. -/
def fnExactMirrorTuningSpec : ChangeSpec := { name := "fnExactMirrorTuning", fn := fun _ => fun
  | [d] => { results := [.lit (.bool true)], args := [d] }
  | _ => none }
def fnExactMirrorTuningRow : OpenClaim := { program := "ytoclpcdmpeimkaa", sum := "f55da3c5d890483a770f7eb75be9192ea74aee2b0bfc028d56b2b71498a3d66c", func := "loop.example/g00903/laws.FnExactMirrorTuning", spec := "fnExactMirrorTuning", apart := false }
def FnExactMirrorTuningSaid : Prop := fnExactMirrorTuningRow.holds Try.pinned (OpenSpec.ofChange fnExactMirrorTuningSpec)

/-- ITS FALSE NEIGHBOUR: 'it returns false'. Refute it at one input. -/
def fnExactMirrorTuningWrong : ChangeSpec := { name := "fnExactMirrorTuning", fn := fun _ => fun
  | [d] => { results := [.lit (.bool false)], args := [d] }
  | _ => none }
def FnExactMirrorTuningWrongFalsely : Prop := fnExactMirrorTuningRow.holds Try.pinned (OpenSpec.ofChange fnExactMirrorTuningWrong)

/- THE SECOND FORM. 'bulk': how many values and letters a reading holds, each counted each time it is reached (what is shared counts as often as it is met; a slice's spare places count too). A statement '..UptoSaid' is the law's where the arguments, and the package variables that the reading takes, are together of bulk at most 1048576: NARROWER than '..Said'. Prove '..Said' where nothing that the law and all that it calls make is longer than what came in: it says more and counts as full. Else prove '..UptoSaid'. A law counts once. -/
mutual
def uptoBulk {H : Type} : DataW H → Nat
  | .lit (.string bytes) => bytes.length + 1
  | .lit _ => 1
  | .nil => 1
  | .ptr d => uptoBulk d + 1
  | .slice elems spare => uptoBulkAll elems + uptoBulkAll spare + 1
  | .agg parts => uptoBulkAll parts + 1
  | .iface _ d => uptoBulk d + 1
  | .map entries => uptoBulkEntries entries + 1
  | .held _ => 1
def uptoBulkAll {H : Type} : List (DataW H) → Nat
  | [] => 0
  | d :: r => uptoBulk d + uptoBulkAll r
def uptoBulkEntries {H : Type} : List (Lit × DataW H) → Nat
  | [] => 0
  | x :: r => uptoBulkEntry x + uptoBulkEntries r
def uptoBulkEntry {H : Type} : Lit × DataW H → Nat
  | (.string bytes, d) => bytes.length + uptoBulk d + 1
  | (_, d) => uptoBulk d + 1
 end
def uptoSmall : (H : Type) → List (DataW H) → Bool := fun _ ds => decide (uptoBulkAll ds ≤ 1048576)
def OpenSpec.upto (s : _root_.Go.ChangeSpec) : _root_.Go.OpenSpec := { _root_.Go.OpenSpec.ofChange s with cond := some uptoSmall }

/-- 'laws.FnExactReduceRatio', WHERE WHAT IT READS IS OF BULK AT MOST 1048576: true; the input reads as it did. -/
def fnExactReduceRatioUptoRow : OpenClaim := { program := "ytoclpcdmpeimkaa", sum := "f55da3c5d890483a770f7eb75be9192ea74aee2b0bfc028d56b2b71498a3d66c", func := "loop.example/g00903/laws.FnExactReduceRatio", spec := "fnExactReduceRatio", apart := false, narrowed := true }
def FnExactReduceRatioUptoSaid : Prop := fnExactReduceRatioUptoRow.holds Try.pinned (OpenSpec.upto fnExactReduceRatioSpec)

/-- 'laws.FnExactStretchEnvelope', WHERE WHAT IT READS IS OF BULK AT MOST 1048576: true; the input reads as it did. -/
def fnExactStretchEnvelopeUptoRow : OpenClaim := { program := "ytoclpcdmpeimkaa", sum := "f55da3c5d890483a770f7eb75be9192ea74aee2b0bfc028d56b2b71498a3d66c", func := "loop.example/g00903/laws.FnExactStretchEnvelope", spec := "fnExactStretchEnvelope", unfollowed := true, recurses := true, apart := false, narrowed := true }
def FnExactStretchEnvelopeUptoSaid : Prop := fnExactStretchEnvelopeUptoRow.holds Try.pinned (OpenSpec.upto fnExactStretchEnvelopeSpec)

/-- 'laws.FnExactRenderEnvelope', WHERE WHAT IT READS IS OF BULK AT MOST 1048576: true; the input reads as it did. -/
def fnExactRenderEnvelopeUptoRow : OpenClaim := { program := "ytoclpcdmpeimkaa", sum := "f55da3c5d890483a770f7eb75be9192ea74aee2b0bfc028d56b2b71498a3d66c", func := "loop.example/g00903/laws.FnExactRenderEnvelope", spec := "fnExactRenderEnvelope", apart := false, narrowed := true }
def FnExactRenderEnvelopeUptoSaid : Prop := fnExactRenderEnvelopeUptoRow.holds Try.pinned (OpenSpec.upto fnExactRenderEnvelopeSpec)

/-- 'laws.FnExactFrequencyOfKey', WHERE WHAT IT READS IS OF BULK AT MOST 1048576: true; the input reads as it did. -/
def fnExactFrequencyOfKeyUptoRow : OpenClaim := { program := "ytoclpcdmpeimkaa", sum := "f55da3c5d890483a770f7eb75be9192ea74aee2b0bfc028d56b2b71498a3d66c", func := "loop.example/g00903/laws.FnExactFrequencyOfKey", spec := "fnExactFrequencyOfKey", apart := false, narrowed := true }
def FnExactFrequencyOfKeyUptoSaid : Prop := fnExactFrequencyOfKeyUptoRow.holds Try.pinned (OpenSpec.upto fnExactFrequencyOfKeySpec)

/-- 'laws.FnExactMirrorTuning', WHERE WHAT IT READS IS OF BULK AT MOST 1048576: true; the input reads as it did. -/
def fnExactMirrorTuningUptoRow : OpenClaim := { program := "ytoclpcdmpeimkaa", sum := "f55da3c5d890483a770f7eb75be9192ea74aee2b0bfc028d56b2b71498a3d66c", func := "loop.example/g00903/laws.FnExactMirrorTuning", spec := "fnExactMirrorTuning", apart := false, narrowed := true }
def FnExactMirrorTuningUptoSaid : Prop := fnExactMirrorTuningUptoRow.holds Try.pinned (OpenSpec.upto fnExactMirrorTuningSpec)

end Rows
end Go.Proofs.Ytoclpcdmpeimkaa
