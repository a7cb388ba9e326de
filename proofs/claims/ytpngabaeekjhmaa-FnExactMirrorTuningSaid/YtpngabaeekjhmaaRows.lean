/-
  No cell of these rows narrows 'for every input' (looked for: loops, veiled, ifaces, maps, wideKeys, modest, calm, conditions, laid).
  DERIVED. THE GIVEN ROWS OF THIS SEAT. 4 by the template 'for every input the law returns true; each argument reads behind the call as it read before'; 0 by the template 'total and deterministic' (their statements: YtpngabaeekjhmaaTotals.lean).
  GIVEN WITH THE SEED: the statements are not yours to turn. If you find one false, say at which input.
  Laid BY PROGRAM, IN A SANDBOX (cutbox-rows.mjs): the forced cells as the released guide's own fill.sh prints them over the translation 36dabbcb60e1f105… (all of the seat's roots in one cut). By AI agents, Wed Nov 11 2026. No macro, syntax, notation, axiom, sorry.
-/
import Derived.Test.YtpngabaeekjhmaaChecked
import GoSem.Claim
import GoSem.ClaimJoined
import GoSem.ClaimMapViews
import Derived.JoinedTies
import Derived.KernelRfl
namespace Go.Proofs.Ytpngabaeekjhmaa
/- THE CELL 'sum', in the pinned program and in every row, IS THE sha256 OF THE DUMP (.gsa) THAT YtpngabaeekjhmaaProg.lean LOADS. Nothing in Lean hashes anything: it is a label: what it is worth is what the hold of that sum in a sandbox is worth. -/
noncomputable def Try.pinned : Pinned := { name := "ytpngabaeekjhmaa", sum := "36dabbcb60e1f105d18856d8489545df80cd2dfd8112ba03708dc1f66a025350", checked := Try.checked }
namespace Rows
def none {H : Type} : Left H := { results := [], args := [] }

/-- 'laws.FnExactValidTuning': WHATEVER THE INPUT: true; the input reads as it did. -/
def fnExactValidTuningSpec : ChangeSpec := { name := "fnExactValidTuning", fn := fun _ => fun
  | [d] => { results := [.lit (.bool true)], args := [d] }
  | _ => none }
def fnExactValidTuningRow : OpenClaim := { program := "ytpngabaeekjhmaa", sum := "36dabbcb60e1f105d18856d8489545df80cd2dfd8112ba03708dc1f66a025350", func := "loop.example/g00903/laws.FnExactValidTuning", spec := "fnExactValidTuning", apart := false }
def FnExactValidTuningSaid : Prop := fnExactValidTuningRow.holds Try.pinned (OpenSpec.ofChange fnExactValidTuningSpec)

/-- ITS FALSE NEIGHBOUR: 'it returns false'. Refute it at one input. -/
def fnExactValidTuningWrong : ChangeSpec := { name := "fnExactValidTuning", fn := fun _ => fun
  | [d] => { results := [.lit (.bool false)], args := [d] }
  | _ => none }
def FnExactValidTuningWrongFalsely : Prop := fnExactValidTuningRow.holds Try.pinned (OpenSpec.ofChange fnExactValidTuningWrong)

/-- 'laws.FnExactStretchEnvelope': WHATEVER THE INPUT: true; the input reads as it did. -/
def fnExactStretchEnvelopeSpec : ChangeSpec := { name := "fnExactStretchEnvelope", fn := fun _ => fun
  | [d1, d2] => { results := [.lit (.bool true)], args := [d1, d2] }
  | _ => none }
def fnExactStretchEnvelopeRow : OpenClaim := { program := "ytpngabaeekjhmaa", sum := "36dabbcb60e1f105d18856d8489545df80cd2dfd8112ba03708dc1f66a025350", func := "loop.example/g00903/laws.FnExactStretchEnvelope", spec := "fnExactStretchEnvelope", unfollowed := true, recurses := true, apart := false }
def FnExactStretchEnvelopeSaid : Prop := fnExactStretchEnvelopeRow.holds Try.pinned (OpenSpec.ofChange fnExactStretchEnvelopeSpec)

/-- ITS FALSE NEIGHBOUR: 'it returns false'. Refute it at one input. -/
def fnExactStretchEnvelopeWrong : ChangeSpec := { name := "fnExactStretchEnvelope", fn := fun _ => fun
  | [d1, d2] => { results := [.lit (.bool false)], args := [d1, d2] }
  | _ => none }
def FnExactStretchEnvelopeWrongFalsely : Prop := fnExactStretchEnvelopeRow.holds Try.pinned (OpenSpec.ofChange fnExactStretchEnvelopeWrong)

/-- 'laws.FnExactFrequencyOfKey': WHATEVER THE INPUT: true; the input reads as it did. -/
def fnExactFrequencyOfKeySpec : ChangeSpec := { name := "fnExactFrequencyOfKey", fn := fun _ => fun
  | [d1, d2] => { results := [.lit (.bool true)], args := [d1, d2] }
  | _ => none }
def fnExactFrequencyOfKeyRow : OpenClaim := { program := "ytpngabaeekjhmaa", sum := "36dabbcb60e1f105d18856d8489545df80cd2dfd8112ba03708dc1f66a025350", func := "loop.example/g00903/laws.FnExactFrequencyOfKey", spec := "fnExactFrequencyOfKey", apart := false }
def FnExactFrequencyOfKeySaid : Prop := fnExactFrequencyOfKeyRow.holds Try.pinned (OpenSpec.ofChange fnExactFrequencyOfKeySpec)

/-- ITS FALSE NEIGHBOUR: 'it returns false'. Refute it at one input. -/
def fnExactFrequencyOfKeyWrong : ChangeSpec := { name := "fnExactFrequencyOfKey", fn := fun _ => fun
  | [d1, d2] => { results := [.lit (.bool false)], args := [d1, d2] }
  | _ => none }
def FnExactFrequencyOfKeyWrongFalsely : Prop := fnExactFrequencyOfKeyRow.holds Try.pinned (OpenSpec.ofChange fnExactFrequencyOfKeyWrong)

/-- 'laws.FnExactMirrorTuning': WHATEVER THE INPUT: true; the input reads as it did. -/
def fnExactMirrorTuningSpec : ChangeSpec := { name := "fnExactMirrorTuning", fn := fun _ => fun
  | [d] => { results := [.lit (.bool true)], args := [d] }
  | _ => none }
def fnExactMirrorTuningRow : OpenClaim := { program := "ytpngabaeekjhmaa", sum := "36dabbcb60e1f105d18856d8489545df80cd2dfd8112ba03708dc1f66a025350", func := "loop.example/g00903/laws.FnExactMirrorTuning", spec := "fnExactMirrorTuning", apart := false }
def FnExactMirrorTuningSaid : Prop := fnExactMirrorTuningRow.holds Try.pinned (OpenSpec.ofChange fnExactMirrorTuningSpec)

/-- ITS FALSE NEIGHBOUR: 'it returns false'. Refute it at one input. -/
def fnExactMirrorTuningWrong : ChangeSpec := { name := "fnExactMirrorTuning", fn := fun _ => fun
  | [d] => { results := [.lit (.bool false)], args := [d] }
  | _ => none }
def FnExactMirrorTuningWrongFalsely : Prop := fnExactMirrorTuningRow.holds Try.pinned (OpenSpec.ofChange fnExactMirrorTuningWrong)

/- THE SECOND FORM. 'bulk': how many values and letters a reading holds, each counted each time it is reached (what is shared counts as often as it is met; a slice's spare places count too). A statement '..UptoSaid' is the law's where the arguments, and the package variables that the reading takes, are together of bulk at most 1048576: NARROWER than '..Said'. Prove '..Said' where nothing that the law and all that it calls make is longer than what came in: it says more and counts as full. Else prove '..UptoSaid'. A law counts once. -/
mutual
def uptoBulk {H : Type} : DataW H → Nat
  | .lit (.string bytes) => bytes.length + 1
  | .lit _ => 1
  | .nil => 1
  | .ptr d => uptoBulk d + 1
  | .slice elems spare => uptoBulkAll elems + uptoBulkAll spare + 1
  | .agg parts => uptoBulkAll parts + 1
  | .iface _ d => uptoBulk d + 1
  | .map entries => uptoBulkEntries entries + 1
  | .held _ => 1
def uptoBulkAll {H : Type} : List (DataW H) → Nat
  | [] => 0
  | d :: r => uptoBulk d + uptoBulkAll r
def uptoBulkEntries {H : Type} : List (Lit × DataW H) → Nat
  | [] => 0
  | x :: r => uptoBulkEntry x + uptoBulkEntries r
def uptoBulkEntry {H : Type} : Lit × DataW H → Nat
  | (.string bytes, d) => bytes.length + uptoBulk d + 1
  | (_, d) => uptoBulk d + 1
 end
def uptoSmall : (H : Type) → List (DataW H) → Bool := fun _ ds => decide (uptoBulkAll ds ≤ 1048576)
def OpenSpec.upto (s : _root_.Go.ChangeSpec) : _root_.Go.OpenSpec := { _root_.Go.OpenSpec.ofChange s with cond := some uptoSmall }

/-- 'laws.FnExactValidTuning', WHERE WHAT IT READS IS OF BULK AT MOST 1048576: true; the input reads as it did. -/
def fnExactValidTuningUptoRow : OpenClaim := { program := "ytpngabaeekjhmaa", sum := "36dabbcb60e1f105d18856d8489545df80cd2dfd8112ba03708dc1f66a025350", func := "loop.example/g00903/laws.FnExactValidTuning", spec := "fnExactValidTuning", apart := false, narrowed := true }
def FnExactValidTuningUptoSaid : Prop := fnExactValidTuningUptoRow.holds Try.pinned (OpenSpec.upto fnExactValidTuningSpec)

/-- 'laws.FnExactStretchEnvelope', WHERE WHAT IT READS IS OF BULK AT MOST 1048576: true; the input reads as it did. -/
def fnExactStretchEnvelopeUptoRow : OpenClaim := { program := "ytpngabaeekjhmaa", sum := "36dabbcb60e1f105d18856d8489545df80cd2dfd8112ba03708dc1f66a025350", func := "loop.example/g00903/laws.FnExactStretchEnvelope", spec := "fnExactStretchEnvelope", unfollowed := true, recurses := true, apart := false, narrowed := true }
def FnExactStretchEnvelopeUptoSaid : Prop := fnExactStretchEnvelopeUptoRow.holds Try.pinned (OpenSpec.upto fnExactStretchEnvelopeSpec)

/-- 'laws.FnExactFrequencyOfKey', WHERE WHAT IT READS IS OF BULK AT MOST 1048576: true; the input reads as it did. -/
def fnExactFrequencyOfKeyUptoRow : OpenClaim := { program := "ytpngabaeekjhmaa", sum := "36dabbcb60e1f105d18856d8489545df80cd2dfd8112ba03708dc1f66a025350", func := "loop.example/g00903/laws.FnExactFrequencyOfKey", spec := "fnExactFrequencyOfKey", apart := false, narrowed := true }
def FnExactFrequencyOfKeyUptoSaid : Prop := fnExactFrequencyOfKeyUptoRow.holds Try.pinned (OpenSpec.upto fnExactFrequencyOfKeySpec)

/-- 'laws.FnExactMirrorTuning', WHERE WHAT IT READS IS OF BULK AT MOST 1048576: true; the input reads as it did. -/
def fnExactMirrorTuningUptoRow : OpenClaim := { program := "ytpngabaeekjhmaa", sum := "36dabbcb60e1f105d18856d8489545df80cd2dfd8112ba03708dc1f66a025350", func := "loop.example/g00903/laws.FnExactMirrorTuning", spec := "fnExactMirrorTuning", apart := false, narrowed := true }
def FnExactMirrorTuningUptoSaid : Prop := fnExactMirrorTuningUptoRow.holds Try.pinned (OpenSpec.upto fnExactMirrorTuningSpec)

end Rows
end Go.Proofs.Ytpngabaeekjhmaa
