/-
  Types of the program: what the logic of trees asks of them.
-/
import Derived.Test.YtipagbnkkkhlaaaGp
import Derived.Test.YtipagbnkkkhlaaaChecked
import Derived.IntWalk
namespace Go.Proofs.Ytipagbnkkkhlaaa
open Go.RowKit
set_option linter.unusedSimpArgs false
set_option linter.unusedVariables false

def G : TypeId → Option Ty := fun t =>
  if t = 2 then some (.int .i64)
  else if t = 3 then some (.int .i64)
  else if t = 4 then some (.bool)
  else if t = 5 then some (.int .u8)
  else if t = 9 then some (.str)
  else if t = 22 then some (.row 57 (.prod (.int .i64) (.int .i64)))
  else if t = 24 then some (.prod (.int .i64) (.prod (.row 57 (.prod (.int .i64) (.int .i64))) (.int .i64)))
  else if t = 26 then some (.prod (.int .i64) (.int .i64))
  else if t = 28 then some (.row 45 (.prod (.int .i64) (.int .i64)))
  else if t = 30 then some (.prod (.int .i64) (.prod (.row 45 (.prod (.int .i64) (.int .i64))) (.int .i64)))
  else if t = 34 then some (.prod (.int .i64) (.int .i64))
  else if t = 45 then some (.prod (.int .i64) (.int .i64))
  else if t = 53 then some (.int .u64)
  else if t = 57 then some (.prod (.int .i64) (.int .i64))
  else if t = 66 then some (.int .u32)
  else none
theorem sz_2 : szOf Try.prog 2 = some 1 := by kernel_rfl
theorem sb_2 : sbOf Try.prog 2 = some (1, 8) := by kernel_rfl
theorem zr_2 : zeroOf Try.prog 2 = some [.int .i64 0] := by kernel_rfl
theorem sz_3 : szOf Try.prog 3 = some 1 := by kernel_rfl
theorem sb_3 : sbOf Try.prog 3 = some (1, 8) := by kernel_rfl
theorem zr_3 : zeroOf Try.prog 3 = some [.int .i64 0] := by kernel_rfl
theorem sz_4 : szOf Try.prog 4 = some 1 := by kernel_rfl
theorem sb_4 : sbOf Try.prog 4 = some (1, 1) := by kernel_rfl
theorem zr_4 : zeroOf Try.prog 4 = some [.bool false] := by kernel_rfl
theorem sz_5 : szOf Try.prog 5 = some 1 := by kernel_rfl
theorem sb_5 : sbOf Try.prog 5 = some (1, 1) := by kernel_rfl
theorem zr_5 : zeroOf Try.prog 5 = some [.int .u8 0] := by kernel_rfl
theorem sz_9 : szOf Try.prog 9 = some 1 := by kernel_rfl
theorem sb_9 : sbOf Try.prog 9 = some (1, 16) := by kernel_rfl
theorem zr_9 : zeroOf Try.prog 9 = some [.string ByteArray.empty] := by kernel_rfl
theorem sz_22 : szOf Try.prog 22 = some 1 := by kernel_rfl
theorem sb_22 : sbOf Try.prog 22 = some (1, 24) := by kernel_rfl
theorem zr_22 : zeroOf Try.prog 22 = some [.slice none 0 0] := by kernel_rfl
theorem sz_24 : szOf Try.prog 24 = some 3 := by kernel_rfl
theorem sb_24 : sbOf Try.prog 24 = some (3, 40) := by kernel_rfl
theorem zr_24 : zeroOf Try.prog 24 = some [.int .i64 0, .slice none 0 0, .int .i64 0] := by kernel_rfl
theorem pl_24 : placesOf Try.prog 24 = some [(0, 1), (1, 1), (2, 1)] := by kernel_rfl
theorem sz_26 : szOf Try.prog 26 = some 2 := by kernel_rfl
theorem sb_26 : sbOf Try.prog 26 = some (2, 16) := by kernel_rfl
theorem zr_26 : zeroOf Try.prog 26 = some [.int .i64 0, .int .i64 0] := by kernel_rfl
theorem ew_26 : eqWidth Try.prog 26 = some 2 := by kernel_rfl
theorem pl_26 : placesOf Try.prog 26 = some [(0, 1), (1, 1)] := by kernel_rfl
theorem sz_28 : szOf Try.prog 28 = some 1 := by kernel_rfl
theorem sb_28 : sbOf Try.prog 28 = some (1, 24) := by kernel_rfl
theorem zr_28 : zeroOf Try.prog 28 = some [.slice none 0 0] := by kernel_rfl
theorem sz_30 : szOf Try.prog 30 = some 3 := by kernel_rfl
theorem sb_30 : sbOf Try.prog 30 = some (3, 40) := by kernel_rfl
theorem zr_30 : zeroOf Try.prog 30 = some [.int .i64 0, .slice none 0 0, .int .i64 0] := by kernel_rfl
theorem pl_30 : placesOf Try.prog 30 = some [(0, 1), (1, 1), (2, 1)] := by kernel_rfl
theorem sz_34 : szOf Try.prog 34 = some 2 := by kernel_rfl
theorem sb_34 : sbOf Try.prog 34 = some (2, 16) := by kernel_rfl
theorem zr_34 : zeroOf Try.prog 34 = some [.int .i64 0, .int .i64 0] := by kernel_rfl
theorem ew_34 : eqWidth Try.prog 34 = some 2 := by kernel_rfl
theorem pl_34 : placesOf Try.prog 34 = some [(0, 1), (1, 1)] := by kernel_rfl
theorem sz_45 : szOf Try.prog 45 = some 2 := by kernel_rfl
theorem sb_45 : sbOf Try.prog 45 = some (2, 16) := by kernel_rfl
theorem zr_45 : zeroOf Try.prog 45 = some [.int .i64 0, .int .i64 0] := by kernel_rfl
theorem ew_45 : eqWidth Try.prog 45 = some 2 := by kernel_rfl
theorem pl_45 : placesOf Try.prog 45 = some [(0, 1), (1, 1)] := by kernel_rfl
theorem sz_53 : szOf Try.prog 53 = some 1 := by kernel_rfl
theorem sb_53 : sbOf Try.prog 53 = some (1, 8) := by kernel_rfl
theorem zr_53 : zeroOf Try.prog 53 = some [.int .u64 0] := by kernel_rfl
theorem sz_57 : szOf Try.prog 57 = some 2 := by kernel_rfl
theorem sb_57 : sbOf Try.prog 57 = some (2, 16) := by kernel_rfl
theorem zr_57 : zeroOf Try.prog 57 = some [.int .i64 0, .int .i64 0] := by kernel_rfl
theorem ew_57 : eqWidth Try.prog 57 = some 2 := by kernel_rfl
theorem pl_57 : placesOf Try.prog 57 = some [(0, 1), (1, 1)] := by kernel_rfl
theorem sz_66 : szOf Try.prog 66 = some 1 := by kernel_rfl
theorem sb_66 : sbOf Try.prog 66 = some (1, 4) := by kernel_rfl
theorem zr_66 : zeroOf Try.prog 66 = some [.int .u32 0] := by kernel_rfl
theorem sz_1 : szOf Try.prog 1 = some 1 := by kernel_rfl
theorem sz_27 : szOf Try.prog 27 = some 1 := by kernel_rfl
theorem sz_32 : szOf Try.prog 32 = some 1 := by kernel_rfl
theorem sz_33 : szOf Try.prog 33 = some 1 := by kernel_rfl
theorem sz_35 : szOf Try.prog 35 = some 1 := by kernel_rfl
theorem sz_36 : szOf Try.prog 36 = some 1 := by kernel_rfl
theorem sz_37 : szOf Try.prog 37 = some 1 := by kernel_rfl
theorem sz_38 : szOf Try.prog 38 = some 1 := by kernel_rfl
theorem sz_39 : szOf Try.prog 39 = some 1 := by kernel_rfl
theorem sz_40 : szOf Try.prog 40 = some 1 := by kernel_rfl
theorem sz_42 : szOf Try.prog 42 = some 1 := by kernel_rfl
theorem sz_43 : szOf Try.prog 43 = some 1 := by kernel_rfl
theorem sz_46 : szOf Try.prog 46 = some 1 := by kernel_rfl
theorem sz_47 : szOf Try.prog 47 = some 1 := by kernel_rfl
theorem sz_48 : szOf Try.prog 48 = some 1 := by kernel_rfl
theorem sz_49 : szOf Try.prog 49 = some 1 := by kernel_rfl
theorem sz_50 : szOf Try.prog 50 = some 1 := by kernel_rfl
theorem sz_51 : szOf Try.prog 51 = some 1 := by kernel_rfl
theorem sz_52 : szOf Try.prog 52 = some 1 := by kernel_rfl
theorem sz_54 : szOf Try.prog 54 = some 1 := by kernel_rfl
theorem sz_55 : szOf Try.prog 55 = some 1 := by kernel_rfl
theorem sz_56 : szOf Try.prog 56 = some 1 := by kernel_rfl
theorem sz_58 : szOf Try.prog 58 = some 1 := by kernel_rfl
theorem sz_59 : szOf Try.prog 59 = some 1 := by kernel_rfl
theorem sz_65 : szOf Try.prog 65 = some 1 := by kernel_rfl
theorem sz_69 : szOf Try.prog 69 = some 1 := by kernel_rfl
attribute [go_sem] G sz_2 sb_2 zr_2 sz_3 sb_3 zr_3 sz_4 sb_4 zr_4 sz_5 sb_5 zr_5 sz_9 sb_9 zr_9 sz_22 sb_22 zr_22 sz_24 sb_24 zr_24 pl_24 sz_26 sb_26 zr_26 ew_26 pl_26 sz_28 sb_28 zr_28 sz_30 sb_30 zr_30 pl_30 sz_34 sb_34 zr_34 ew_34 pl_34 sz_45 sb_45 zr_45 ew_45 pl_45 sz_53 sb_53 zr_53 sz_57 sb_57 zr_57 ew_57 pl_57 sz_66 sb_66 zr_66 sz_1 sz_27 sz_32 sz_33 sz_35 sz_36 sz_37 sz_38 sz_39 sz_40 sz_42 sz_43 sz_46 sz_47 sz_48 sz_49 sz_50 sz_51 sz_52 sz_54 sz_55 sz_56 sz_58 sz_59 sz_65 sz_69
attribute [go_sem] Try.underlying2 Try.underlying3 Try.underlying4 Try.underlying5 Try.underlying9 Try.underlying22 Try.underlying24 Try.underlying26 Try.underlying28 Try.underlying30 Try.underlying34 Try.underlying45 Try.underlying53 Try.underlying57 Try.underlying66
theorem mixed : Try.prog.follows .mixedOrders = true := by kernel_rfl
def T0 : Tab := fun _ => none
theorem T0_ok : TabOk Try.prog T0 := fun f k h => by cases h
end Go.Proofs.Ytipagbnkkkhlaaa
