/-
  Texts of this claim, joined (part 22). No condition beyond those of the theorems.
-/
import Derived.Test.YthhogcknkimijaaDoorV08
set_option linter.unusedSimpArgs false
set_option linter.unusedVariables false
namespace Go.Proofs.YthhogcknkimijaaDoor
open Go.RowKit
section
variable {α:Type} {A B:List α} {m:Nat}
end
open Go.RowKit
end Go.Proofs.YthhogcknkimijaaDoor
