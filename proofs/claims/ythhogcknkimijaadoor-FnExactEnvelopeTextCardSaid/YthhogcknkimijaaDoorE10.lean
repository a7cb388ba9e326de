/-
  Texts of this claim, joined (part 10). No condition beyond those of the theorems.
-/
import Derived.Test.YthhogcknkimijaaDoorE09
namespace Go.Proofs.YthhogcknkimijaaDoor
open Go.RowKit
end Go.Proofs.YthhogcknkimijaaDoor
