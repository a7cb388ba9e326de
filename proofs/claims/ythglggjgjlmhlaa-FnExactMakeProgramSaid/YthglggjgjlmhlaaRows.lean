/-
  No cell of these rows narrows 'for every input' (looked for: loops, veiled, ifaces, maps, wideKeys, modest, calm, conditions, laid).
  DERIVED. THE GIVEN ROWS OF THIS SEAT. 8 by the template 'for every input the law returns true; each argument reads behind the call as it read before'; 0 by the template 'total and deterministic' (their statements: YthglggjgjlmhlaaTotals.lean).
  GIVEN WITH THE SEED: the statements are not yours to turn. If you find one false, say at which input.
  Laid BY PROGRAM, IN A SANDBOX (cutbox-rows.mjs): the forced cells as the released guide's own fill.sh prints them over the translation 2a470336db00752c… (all of the seat's roots in one cut). By AI agents, Wed Nov 11 2026. No macro, syntax, notation, axiom, sorry.
-/
import Derived.Test.YthglggjgjlmhlaaChecked
import GoSem.Claim
import GoSem.ClaimJoined
import GoSem.ClaimMapViews
import Derived.JoinedTies
import Derived.KernelRfl
namespace Go.Proofs.Ythglggjgjlmhlaa
/- THE CELL 'sum', in the pinned program and in every row, IS THE sha256 OF THE DUMP (.gsa) THAT YthglggjgjlmhlaaProg.lean LOADS. Nothing in Lean hashes anything: it is a label: what it is worth is what the hold of that sum in a sandbox is worth. -/
noncomputable def Try.pinned : Pinned := { name := "ythglggjgjlmhlaa", sum := "2a470336db00752c321bd3fb0afe5f7e6cdbceddb877aad8d0b06494c9706242", checked := Try.checked }
namespace Rows
def none {H : Type} : Left H := { results := [], args := [] }

/-- 'laws.FnExactStepPatch': WHATEVER THE INPUT: true; the input reads as it did. -/
def fnExactStepPatchSpec : ChangeSpec := { name := "fnExactStepPatch", fn := fun _ => fun
  | [d1, d2, d3] => { results := [.lit (.bool true)], args := [d1, d2, d3] }
  | _ => none }
def fnExactStepPatchRow : OpenClaim := { program := "ythglggjgjlmhlaa", sum := "2a470336db00752c321bd3fb0afe5f7e6cdbceddb877aad8d0b06494c9706242", func := "loop.example/g00903/laws.FnExactStepPatch", spec := "fnExactStepPatch", apart := false }
def FnExactStepPatchSaid : Prop := fnExactStepPatchRow.holds Try.pinned (OpenSpec.ofChange fnExactStepPatchSpec)

/-- ITS FALSE NEIGHBOUR: 'it returns false'. Refute it at one input. -/
def fnExactStepPatchWrong : ChangeSpec := { name := "fnExactStepPatch", fn := fun _ => fun
  | [d1, d2, d3] => { results := [.lit (.bool false)], args := [d1, d2, d3] }
  | _ => none }
def FnExactStepPatchWrongFalsely : Prop := fnExactStepPatchRow.holds Try.pinned (OpenSpec.ofChange fnExactStepPatchWrong)

/-- 'laws.FnExactRender': WHATEVER THE INPUT: true; the input reads as it did. -/
def fnExactRenderSpec : ChangeSpec := { name := "fnExactRender", fn := fun _ => fun
  | [d1, d2, d3] => { results := [.lit (.bool true)], args := [d1, d2, d3] }
  | _ => none }
def fnExactRenderRow : OpenClaim := { program := "ythglggjgjlmhlaa", sum := "2a470336db00752c321bd3fb0afe5f7e6cdbceddb877aad8d0b06494c9706242", func := "loop.example/g00903/laws.FnExactRender", spec := "fnExactRender", apart := false }
def FnExactRenderSaid : Prop := fnExactRenderRow.holds Try.pinned (OpenSpec.ofChange fnExactRenderSpec)

/-- ITS FALSE NEIGHBOUR: 'it returns false'. Refute it at one input. -/
def fnExactRenderWrong : ChangeSpec := { name := "fnExactRender", fn := fun _ => fun
  | [d1, d2, d3] => { results := [.lit (.bool false)], args := [d1, d2, d3] }
  | _ => none }
def FnExactRenderWrongFalsely : Prop := fnExactRenderRow.holds Try.pinned (OpenSpec.ofChange fnExactRenderWrong)

/-- 'laws.FnExactImpulseOf': WHATEVER THE INPUT: true; the input reads as it did. -/
def fnExactImpulseOfSpec : ChangeSpec := { name := "fnExactImpulseOf", fn := fun _ => fun
  | [d1, d2, d3, d4] => { results := [.lit (.bool true)], args := [d1, d2, d3, d4] }
  | _ => none }
def fnExactImpulseOfRow : OpenClaim := { program := "ythglggjgjlmhlaa", sum := "2a470336db00752c321bd3fb0afe5f7e6cdbceddb877aad8d0b06494c9706242", func := "loop.example/g00903/laws.FnExactImpulseOf", spec := "fnExactImpulseOf", apart := false }
def FnExactImpulseOfSaid : Prop := fnExactImpulseOfRow.holds Try.pinned (OpenSpec.ofChange fnExactImpulseOfSpec)

/-- ITS FALSE NEIGHBOUR: 'it returns false'. Refute it at one input. -/
def fnExactImpulseOfWrong : ChangeSpec := { name := "fnExactImpulseOf", fn := fun _ => fun
  | [d1, d2, d3, d4] => { results := [.lit (.bool false)], args := [d1, d2, d3, d4] }
  | _ => none }
def FnExactImpulseOfWrongFalsely : Prop := fnExactImpulseOfRow.holds Try.pinned (OpenSpec.ofChange fnExactImpulseOfWrong)

/-- 'laws.FnExactRenderInBlocks': WHATEVER THE INPUT: true; the input reads as it did. -/
def fnExactRenderInBlocksSpec : ChangeSpec := { name := "fnExactRenderInBlocks", fn := fun _ => fun
  | [d1, d2, d3] => { results := [.lit (.bool true)], args := [d1, d2, d3] }
  | _ => none }
def fnExactRenderInBlocksRow : OpenClaim := { program := "ythglggjgjlmhlaa", sum := "2a470336db00752c321bd3fb0afe5f7e6cdbceddb877aad8d0b06494c9706242", func := "loop.example/g00903/laws.FnExactRenderInBlocks", spec := "fnExactRenderInBlocks", apart := false }
def FnExactRenderInBlocksSaid : Prop := fnExactRenderInBlocksRow.holds Try.pinned (OpenSpec.ofChange fnExactRenderInBlocksSpec)

/-- ITS FALSE NEIGHBOUR: 'it returns false'. Refute it at one input. -/
def fnExactRenderInBlocksWrong : ChangeSpec := { name := "fnExactRenderInBlocks", fn := fun _ => fun
  | [d1, d2, d3] => { results := [.lit (.bool false)], args := [d1, d2, d3] }
  | _ => none }
def FnExactRenderInBlocksWrongFalsely : Prop := fnExactRenderInBlocksRow.holds Try.pinned (OpenSpec.ofChange fnExactRenderInBlocksWrong)

/-- 'laws.FnExactUnitePatches': WHATEVER THE INPUT: true; the input reads as it did. -/
def fnExactUnitePatchesSpec : ChangeSpec := { name := "fnExactUnitePatches", fn := fun _ => fun
  | [d1, d2] => { results := [.lit (.bool true)], args := [d1, d2] }
  | _ => none }
def fnExactUnitePatchesRow : OpenClaim := { program := "ythglggjgjlmhlaa", sum := "2a470336db00752c321bd3fb0afe5f7e6cdbceddb877aad8d0b06494c9706242", func := "loop.example/g00903/laws.FnExactUnitePatches", spec := "fnExactUnitePatches", apart := false }
def FnExactUnitePatchesSaid : Prop := fnExactUnitePatchesRow.holds Try.pinned (OpenSpec.ofChange fnExactUnitePatchesSpec)

/-- ITS FALSE NEIGHBOUR: 'it returns false'. Refute it at one input. -/
def fnExactUnitePatchesWrong : ChangeSpec := { name := "fnExactUnitePatches", fn := fun _ => fun
  | [d1, d2] => { results := [.lit (.bool false)], args := [d1, d2] }
  | _ => none }
def FnExactUnitePatchesWrongFalsely : Prop := fnExactUnitePatchesRow.holds Try.pinned (OpenSpec.ofChange fnExactUnitePatchesWrong)

/-- 'laws.FnBlocks': WHATEVER THE INPUT: true; the input reads as it did. -/
def fnBlocksSpec : ChangeSpec := { name := "fnBlocks", fn := fun _ => fun
  | [d] => { results := [.lit (.bool true)], args := [d] }
  | _ => none }
def fnBlocksRow : OpenClaim := { program := "ythglggjgjlmhlaa", sum := "2a470336db00752c321bd3fb0afe5f7e6cdbceddb877aad8d0b06494c9706242", func := "loop.example/g00903/laws.FnBlocks", spec := "fnBlocks", apart := false }
def FnBlocksSaid : Prop := fnBlocksRow.holds Try.pinned (OpenSpec.ofChange fnBlocksSpec)

/-- ITS FALSE NEIGHBOUR: 'it returns false'. Refute it at one input. -/
def fnBlocksWrong : ChangeSpec := { name := "fnBlocks", fn := fun _ => fun
  | [d] => { results := [.lit (.bool false)], args := [d] }
  | _ => none }
def FnBlocksWrongFalsely : Prop := fnBlocksRow.holds Try.pinned (OpenSpec.ofChange fnBlocksWrong)

/-- 'laws.FnSuperposed': WHATEVER THE INPUT: true; the input reads as it did. -/
def fnSuperposedSpec : ChangeSpec := { name := "fnSuperposed", fn := fun _ => fun
  | [d1, d2] => { results := [.lit (.bool true)], args := [d1, d2] }
  | _ => none }
def fnSuperposedRow : OpenClaim := { program := "ythglggjgjlmhlaa", sum := "2a470336db00752c321bd3fb0afe5f7e6cdbceddb877aad8d0b06494c9706242", func := "loop.example/g00903/laws.FnSuperposed", spec := "fnSuperposed", apart := false }
def FnSuperposedSaid : Prop := fnSuperposedRow.holds Try.pinned (OpenSpec.ofChange fnSuperposedSpec)

/-- ITS FALSE NEIGHBOUR: 'it returns false'. Refute it at one input. -/
def fnSuperposedWrong : ChangeSpec := { name := "fnSuperposed", fn := fun _ => fun
  | [d1, d2] => { results := [.lit (.bool false)], args := [d1, d2] }
  | _ => none }
def FnSuperposedWrongFalsely : Prop := fnSuperposedRow.holds Try.pinned (OpenSpec.ofChange fnSuperposedWrong)

/-- 'laws.FnExactMakeProgram': WHATEVER THE INPUT: true; the input reads as it did. -/
def fnExactMakeProgramSpec : ChangeSpec := { name := "fnExactMakeProgram", fn := fun _ => fun
  | [d] => { results := [.lit (.bool true)], args := [d] }
  | _ => none }
def fnExactMakeProgramRow : OpenClaim := { program := "ythglggjgjlmhlaa", sum := "2a470336db00752c321bd3fb0afe5f7e6cdbceddb877aad8d0b06494c9706242", func := "loop.example/g00903/laws.FnExactMakeProgram", spec := "fnExactMakeProgram", apart := false }
def FnExactMakeProgramSaid : Prop := fnExactMakeProgramRow.holds Try.pinned (OpenSpec.ofChange fnExactMakeProgramSpec)

/-- ITS FALSE NEIGHBOUR: 'it returns false'. Refute it at one input. -/
def fnExactMakeProgramWrong : ChangeSpec := { name := "fnExactMakeProgram", fn := fun _ => fun
  | [d] => { results := [.lit (.bool false)], args := [d] }
  | _ => none }
def FnExactMakeProgramWrongFalsely : Prop := fnExactMakeProgramRow.holds Try.pinned (OpenSpec.ofChange fnExactMakeProgramWrong)

/- THE SECOND FORM. 'bulk': how many values and letters a reading holds, each counted each time it is reached (what is shared counts as often as it is met; a slice's spare places count too). A statement '..UptoSaid' is the law's where the arguments, and the package variables that the reading takes, are together of bulk at most 1048576: NARROWER than '..Said'. Prove '..Said' where nothing that the law and all that it calls make is longer than what came in: it says more and counts as full. Else prove '..UptoSaid'. A law counts once. -/
mutual
def uptoBulk {H : Type} : DataW H → Nat
  | .lit (.string bytes) => bytes.length + 1
  | .lit _ => 1
  | .nil => 1
  | .ptr d => uptoBulk d + 1
  | .slice elems spare => uptoBulkAll elems + uptoBulkAll spare + 1
  | .agg parts => uptoBulkAll parts + 1
  | .iface _ d => uptoBulk d + 1
  | .map entries => uptoBulkEntries entries + 1
  | .held _ => 1
def uptoBulkAll {H : Type} : List (DataW H) → Nat
  | [] => 0
  | d :: r => uptoBulk d + uptoBulkAll r
def uptoBulkEntries {H : Type} : List (Lit × DataW H) → Nat
  | [] => 0
  | x :: r => uptoBulkEntry x + uptoBulkEntries r
def uptoBulkEntry {H : Type} : Lit × DataW H → Nat
  | (.string bytes, d) => bytes.length + uptoBulk d + 1
  | (_, d) => uptoBulk d + 1
 end
def uptoSmall : (H : Type) → List (DataW H) → Bool := fun _ ds => decide (uptoBulkAll ds ≤ 1048576)
def OpenSpec.upto (s : _root_.Go.ChangeSpec) : _root_.Go.OpenSpec := { _root_.Go.OpenSpec.ofChange s with cond := some uptoSmall }

/-- 'laws.FnExactStepPatch', WHERE WHAT IT READS IS OF BULK AT MOST 1048576: true; the input reads as it did. -/
def fnExactStepPatchUptoRow : OpenClaim := { program := "ythglggjgjlmhlaa", sum := "2a470336db00752c321bd3fb0afe5f7e6cdbceddb877aad8d0b06494c9706242", func := "loop.example/g00903/laws.FnExactStepPatch", spec := "fnExactStepPatch", apart := false, narrowed := true }
def FnExactStepPatchUptoSaid : Prop := fnExactStepPatchUptoRow.holds Try.pinned (OpenSpec.upto fnExactStepPatchSpec)

/-- 'laws.FnExactRender', WHERE WHAT IT READS IS OF BULK AT MOST 1048576: true; the input reads as it did. -/
def fnExactRenderUptoRow : OpenClaim := { program := "ythglggjgjlmhlaa", sum := "2a470336db00752c321bd3fb0afe5f7e6cdbceddb877aad8d0b06494c9706242", func := "loop.example/g00903/laws.FnExactRender", spec := "fnExactRender", apart := false, narrowed := true }
def FnExactRenderUptoSaid : Prop := fnExactRenderUptoRow.holds Try.pinned (OpenSpec.upto fnExactRenderSpec)

/-- 'laws.FnExactImpulseOf', WHERE WHAT IT READS IS OF BULK AT MOST 1048576: true; the input reads as it did. -/
def fnExactImpulseOfUptoRow : OpenClaim := { program := "ythglggjgjlmhlaa", sum := "2a470336db00752c321bd3fb0afe5f7e6cdbceddb877aad8d0b06494c9706242", func := "loop.example/g00903/laws.FnExactImpulseOf", spec := "fnExactImpulseOf", apart := false, narrowed := true }
def FnExactImpulseOfUptoSaid : Prop := fnExactImpulseOfUptoRow.holds Try.pinned (OpenSpec.upto fnExactImpulseOfSpec)

/-- 'laws.FnExactRenderInBlocks', WHERE WHAT IT READS IS OF BULK AT MOST 1048576: true; the input reads as it did. -/
def fnExactRenderInBlocksUptoRow : OpenClaim := { program := "ythglggjgjlmhlaa", sum := "2a470336db00752c321bd3fb0afe5f7e6cdbceddb877aad8d0b06494c9706242", func := "loop.example/g00903/laws.FnExactRenderInBlocks", spec := "fnExactRenderInBlocks", apart := false, narrowed := true }
def FnExactRenderInBlocksUptoSaid : Prop := fnExactRenderInBlocksUptoRow.holds Try.pinned (OpenSpec.upto fnExactRenderInBlocksSpec)

/-- 'laws.FnExactUnitePatches', WHERE WHAT IT READS IS OF BULK AT MOST 1048576: true; the input reads as it did. -/
def fnExactUnitePatchesUptoRow : OpenClaim := { program := "ythglggjgjlmhlaa", sum := "2a470336db00752c321bd3fb0afe5f7e6cdbceddb877aad8d0b06494c9706242", func := "loop.example/g00903/laws.FnExactUnitePatches", spec := "fnExactUnitePatches", apart := false, narrowed := true }
def FnExactUnitePatchesUptoSaid : Prop := fnExactUnitePatchesUptoRow.holds Try.pinned (OpenSpec.upto fnExactUnitePatchesSpec)

/-- 'laws.FnBlocks', WHERE WHAT IT READS IS OF BULK AT MOST 1048576: true; the input reads as it did. -/
def fnBlocksUptoRow : OpenClaim := { program := "ythglggjgjlmhlaa", sum := "2a470336db00752c321bd3fb0afe5f7e6cdbceddb877aad8d0b06494c9706242", func := "loop.example/g00903/laws.FnBlocks", spec := "fnBlocks", apart := false, narrowed := true }
def FnBlocksUptoSaid : Prop := fnBlocksUptoRow.holds Try.pinned (OpenSpec.upto fnBlocksSpec)

/-- 'laws.FnSuperposed', WHERE WHAT IT READS IS OF BULK AT MOST 1048576: true; the input reads as it did. -/
def fnSuperposedUptoRow : OpenClaim := { program := "ythglggjgjlmhlaa", sum := "2a470336db00752c321bd3fb0afe5f7e6cdbceddb877aad8d0b06494c9706242", func := "loop.example/g00903/laws.FnSuperposed", spec := "fnSuperposed", apart := false, narrowed := true }
def FnSuperposedUptoSaid : Prop := fnSuperposedUptoRow.holds Try.pinned (OpenSpec.upto fnSuperposedSpec)

/-- 'laws.FnExactMakeProgram', WHERE WHAT IT READS IS OF BULK AT MOST 1048576: true; the input reads as it did. -/
def fnExactMakeProgramUptoRow : OpenClaim := { program := "ythglggjgjlmhlaa", sum := "2a470336db00752c321bd3fb0afe5f7e6cdbceddb877aad8d0b06494c9706242", func := "loop.example/g00903/laws.FnExactMakeProgram", spec := "fnExactMakeProgram", apart := false, narrowed := true }
def FnExactMakeProgramUptoSaid : Prop := fnExactMakeProgramUptoRow.holds Try.pinned (OpenSpec.upto fnExactMakeProgramSpec)

end Rows
end Go.Proofs.Ythglggjgjlmhlaa
