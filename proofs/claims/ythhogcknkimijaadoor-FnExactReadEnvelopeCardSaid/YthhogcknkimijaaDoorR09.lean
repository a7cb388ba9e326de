/-
  Texts of this claim, joined (part 9). No condition beyond those of the theorems.
-/
import Derived.Test.YthhogcknkimijaaDoorRows
import Derived.Test.YthhogcknkimijaaDoorR02
import Derived.Deep.QuietTactic
import Derived.BigQuiet
import Derived.Lib.Hide
namespace Go.Proofs.YthhogcknkimijaaDoor
open Go.RowKit
end Go.Proofs.YthhogcknkimijaaDoor
