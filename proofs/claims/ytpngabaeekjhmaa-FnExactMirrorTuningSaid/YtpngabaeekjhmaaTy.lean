/-
  Types of the program: what the logic of trees asks of them.
-/
import Derived.Test.YtpngabaeekjhmaaTp
import Derived.Test.YtpngabaeekjhmaaChecked
import Derived.IntWalk
namespace Go.Proofs.Ytpngabaeekjhmaa
open Go.RowKit
set_option linter.unusedSimpArgs false
set_option linter.unusedVariables false

def G : TypeId → Option Ty := fun t =>
  if t = 2 then some (.int .i64)
  else if t = 3 then some (.int .i64)
  else if t = 4 then some (.bool)
  else if t = 5 then some (.int .u8)
  else if t = 9 then some (.str)
  else if t = 23 then some (.prod (.int .i64) (.int .i64))
  else if t = 24 then some (.row 23 (.prod (.int .i64) (.int .i64)))
  else if t = 26 then some (.prod (.prod (.int .i64) (.int .i64)) (.prod (.prod (.int .i64) (.int .i64)) (.row 23 (.prod (.int .i64) (.int .i64)))))
  else if t = 29 then some (.prod (.int .i64) (.int .i64))
  else if t = 30 then some (.row 29 (.prod (.int .i64) (.int .i64)))
  else if t = 32 then some (.prod (.prod (.int .i64) (.int .i64)) (.prod (.prod (.int .i64) (.int .i64)) (.row 29 (.prod (.int .i64) (.int .i64)))))
  else if t = 36 then some (.row 88 (.prod (.int .i64) (.int .i64)))
  else if t = 38 then some (.prod (.int .i64) (.prod (.row 88 (.prod (.int .i64) (.int .i64))) (.int .i64)))
  else if t = 40 then some (.row 68 (.prod (.int .i64) (.int .i64)))
  else if t = 42 then some (.prod (.int .i64) (.prod (.row 68 (.prod (.int .i64) (.int .i64))) (.int .i64)))
  else if t = 68 then some (.prod (.int .i64) (.int .i64))
  else if t = 84 then some (.int .u64)
  else if t = 88 then some (.prod (.int .i64) (.int .i64))
  else if t = 98 then some (.int .u32)
  else none
theorem sz_2 : szOf Try.prog 2 = some 1 := by kernel_rfl
theorem sb_2 : sbOf Try.prog 2 = some (1, 8) := by kernel_rfl
theorem zr_2 : zeroOf Try.prog 2 = some [.int .i64 0] := by kernel_rfl
theorem sz_3 : szOf Try.prog 3 = some 1 := by kernel_rfl
theorem sb_3 : sbOf Try.prog 3 = some (1, 8) := by kernel_rfl
theorem zr_3 : zeroOf Try.prog 3 = some [.int .i64 0] := by kernel_rfl
theorem sz_4 : szOf Try.prog 4 = some 1 := by kernel_rfl
theorem sb_4 : sbOf Try.prog 4 = some (1, 1) := by kernel_rfl
theorem zr_4 : zeroOf Try.prog 4 = some [.bool false] := by kernel_rfl
theorem sz_5 : szOf Try.prog 5 = some 1 := by kernel_rfl
theorem sb_5 : sbOf Try.prog 5 = some (1, 1) := by kernel_rfl
theorem zr_5 : zeroOf Try.prog 5 = some [.int .u8 0] := by kernel_rfl
theorem sz_9 : szOf Try.prog 9 = some 1 := by kernel_rfl
theorem sb_9 : sbOf Try.prog 9 = some (1, 16) := by kernel_rfl
theorem zr_9 : zeroOf Try.prog 9 = some [.string ByteArray.empty] := by kernel_rfl
theorem sz_23 : szOf Try.prog 23 = some 2 := by kernel_rfl
theorem sb_23 : sbOf Try.prog 23 = some (2, 16) := by kernel_rfl
theorem zr_23 : zeroOf Try.prog 23 = some [.int .i64 0, .int .i64 0] := by kernel_rfl
theorem ew_23 : eqWidth Try.prog 23 = some 2 := by kernel_rfl
theorem pl_23 : placesOf Try.prog 23 = some [(0, 1), (1, 1)] := by kernel_rfl
theorem sz_24 : szOf Try.prog 24 = some 1 := by kernel_rfl
theorem sb_24 : sbOf Try.prog 24 = some (1, 24) := by kernel_rfl
theorem zr_24 : zeroOf Try.prog 24 = some [.slice none 0 0] := by kernel_rfl
theorem sz_26 : szOf Try.prog 26 = some 5 := by kernel_rfl
theorem sb_26 : sbOf Try.prog 26 = some (5, 56) := by kernel_rfl
theorem zr_26 : zeroOf Try.prog 26 = some [.int .i64 0, .int .i64 0, .int .i64 0, .int .i64 0, .slice none 0 0] := by kernel_rfl
theorem pl_26 : placesOf Try.prog 26 = some [(0, 2), (2, 2), (4, 1)] := by kernel_rfl
theorem sz_29 : szOf Try.prog 29 = some 2 := by kernel_rfl
theorem sb_29 : sbOf Try.prog 29 = some (2, 16) := by kernel_rfl
theorem zr_29 : zeroOf Try.prog 29 = some [.int .i64 0, .int .i64 0] := by kernel_rfl
theorem ew_29 : eqWidth Try.prog 29 = some 2 := by kernel_rfl
theorem pl_29 : placesOf Try.prog 29 = some [(0, 1), (1, 1)] := by kernel_rfl
theorem sz_30 : szOf Try.prog 30 = some 1 := by kernel_rfl
theorem sb_30 : sbOf Try.prog 30 = some (1, 24) := by kernel_rfl
theorem zr_30 : zeroOf Try.prog 30 = some [.slice none 0 0] := by kernel_rfl
theorem sz_32 : szOf Try.prog 32 = some 5 := by kernel_rfl
theorem sb_32 : sbOf Try.prog 32 = some (5, 56) := by kernel_rfl
theorem zr_32 : zeroOf Try.prog 32 = some [.int .i64 0, .int .i64 0, .int .i64 0, .int .i64 0, .slice none 0 0] := by kernel_rfl
theorem pl_32 : placesOf Try.prog 32 = some [(0, 2), (2, 2), (4, 1)] := by kernel_rfl
theorem sz_36 : szOf Try.prog 36 = some 1 := by kernel_rfl
theorem sb_36 : sbOf Try.prog 36 = some (1, 24) := by kernel_rfl
theorem zr_36 : zeroOf Try.prog 36 = some [.slice none 0 0] := by kernel_rfl
theorem sz_38 : szOf Try.prog 38 = some 3 := by kernel_rfl
theorem sb_38 : sbOf Try.prog 38 = some (3, 40) := by kernel_rfl
theorem zr_38 : zeroOf Try.prog 38 = some [.int .i64 0, .slice none 0 0, .int .i64 0] := by kernel_rfl
theorem pl_38 : placesOf Try.prog 38 = some [(0, 1), (1, 1), (2, 1)] := by kernel_rfl
theorem sz_40 : szOf Try.prog 40 = some 1 := by kernel_rfl
theorem sb_40 : sbOf Try.prog 40 = some (1, 24) := by kernel_rfl
theorem zr_40 : zeroOf Try.prog 40 = some [.slice none 0 0] := by kernel_rfl
theorem sz_42 : szOf Try.prog 42 = some 3 := by kernel_rfl
theorem sb_42 : sbOf Try.prog 42 = some (3, 40) := by kernel_rfl
theorem zr_42 : zeroOf Try.prog 42 = some [.int .i64 0, .slice none 0 0, .int .i64 0] := by kernel_rfl
theorem pl_42 : placesOf Try.prog 42 = some [(0, 1), (1, 1), (2, 1)] := by kernel_rfl
theorem sz_68 : szOf Try.prog 68 = some 2 := by kernel_rfl
theorem sb_68 : sbOf Try.prog 68 = some (2, 16) := by kernel_rfl
theorem zr_68 : zeroOf Try.prog 68 = some [.int .i64 0, .int .i64 0] := by kernel_rfl
theorem ew_68 : eqWidth Try.prog 68 = some 2 := by kernel_rfl
theorem pl_68 : placesOf Try.prog 68 = some [(0, 1), (1, 1)] := by kernel_rfl
theorem sz_84 : szOf Try.prog 84 = some 1 := by kernel_rfl
theorem sb_84 : sbOf Try.prog 84 = some (1, 8) := by kernel_rfl
theorem zr_84 : zeroOf Try.prog 84 = some [.int .u64 0] := by kernel_rfl
theorem sz_88 : szOf Try.prog 88 = some 2 := by kernel_rfl
theorem sb_88 : sbOf Try.prog 88 = some (2, 16) := by kernel_rfl
theorem zr_88 : zeroOf Try.prog 88 = some [.int .i64 0, .int .i64 0] := by kernel_rfl
theorem ew_88 : eqWidth Try.prog 88 = some 2 := by kernel_rfl
theorem pl_88 : placesOf Try.prog 88 = some [(0, 1), (1, 1)] := by kernel_rfl
theorem sz_98 : szOf Try.prog 98 = some 1 := by kernel_rfl
theorem sb_98 : sbOf Try.prog 98 = some (1, 4) := by kernel_rfl
theorem zr_98 : zeroOf Try.prog 98 = some [.int .u32 0] := by kernel_rfl
attribute [go_sem] G sz_2 sb_2 zr_2 sz_3 sb_3 zr_3 sz_4 sb_4 zr_4 sz_5 sb_5 zr_5 sz_9 sb_9 zr_9 sz_23 sb_23 zr_23 ew_23 pl_23 sz_24 sb_24 zr_24 sz_26 sb_26 zr_26 pl_26 sz_29 sb_29 zr_29 ew_29 pl_29 sz_30 sb_30 zr_30 sz_32 sb_32 zr_32 pl_32 sz_36 sb_36 zr_36 sz_38 sb_38 zr_38 pl_38 sz_40 sb_40 zr_40 sz_42 sb_42 zr_42 pl_42 sz_68 sb_68 zr_68 ew_68 pl_68 sz_84 sb_84 zr_84 sz_88 sb_88 zr_88 ew_88 pl_88 sz_98 sb_98 zr_98
attribute [go_sem] Try.underlying2 Try.underlying3 Try.underlying4 Try.underlying5 Try.underlying9 Try.underlying23 Try.underlying24 Try.underlying26 Try.underlying29 Try.underlying30 Try.underlying32 Try.underlying36 Try.underlying38 Try.underlying40 Try.underlying42 Try.underlying68 Try.underlying84 Try.underlying88 Try.underlying98
theorem mixed : Try.prog.follows .mixedOrders = true := by kernel_rfl
def T0 : Tab := fun _ => none
theorem T0_ok : TabOk Try.prog T0 := fun f k h => by cases h
end Go.Proofs.Ytpngabaeekjhmaa
