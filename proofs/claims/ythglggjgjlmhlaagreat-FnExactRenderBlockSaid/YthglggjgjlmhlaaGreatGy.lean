/-
  Types of the program: what the logic of trees asks of them.
-/
import Derived.Test.YthglggjgjlmhlaaGreatGp
import Derived.Test.YthglggjgjlmhlaaGreatChecked
import Derived.IntWalk
namespace Go.Proofs.YthglggjgjlmhlaaGreat
open Go.RowKit
set_option linter.unusedSimpArgs false
set_option linter.unusedVariables false

def G : TypeId → Option Ty := fun t =>
  if t = 2 then some (.int .i64)
  else if t = 3 then some (.int .i64)
  else if t = 4 then some (.bool)
  else if t = 5 then some (.int .u8)
  else if t = 9 then some (.str)
  else if t = 22 then some (.row 24 (.row 2 (.int .i64)))
  else if t = 23 then some (.row 71 (.prod (.int .i64) (.prod (.int .i64) (.prod (.int .i64) (.row 2 (.int .i64))))))
  else if t = 24 then some (.row 2 (.int .i64))
  else if t = 26 then some (.prod (.int .i64) (.prod (.row 24 (.row 2 (.int .i64))) (.prod (.row 71 (.prod (.int .i64) (.prod (.int .i64) (.prod (.int .i64) (.row 2 (.int .i64)))))) (.row 2 (.int .i64)))))
  else if t = 28 then some (.row 24 (.row 2 (.int .i64)))
  else if t = 32 then some (.row 24 (.row 2 (.int .i64)))
  else if t = 35 then some (.row 75 (.prod (.int .i64) (.prod (.int .i64) (.prod (.int .i64) (.row 2 (.int .i64))))))
  else if t = 37 then some (.prod (.int .i64) (.prod (.row 24 (.row 2 (.int .i64))) (.prod (.row 75 (.prod (.int .i64) (.prod (.int .i64) (.prod (.int .i64) (.row 2 (.int .i64)))))) (.row 2 (.int .i64)))))
  else if t = 65 then some (.prod (.prod (.int .i64) (.prod (.row 24 (.row 2 (.int .i64))) (.prod (.row 75 (.prod (.int .i64) (.prod (.int .i64) (.prod (.int .i64) (.row 2 (.int .i64)))))) (.row 2 (.int .i64))))) (.prod (.row 2 (.int .i64)) (.prod (.row 2 (.int .i64)) (.row 24 (.row 2 (.int .i64))))))
  else if t = 71 then some (.prod (.int .i64) (.prod (.int .i64) (.prod (.int .i64) (.row 2 (.int .i64)))))
  else if t = 75 then some (.prod (.int .i64) (.prod (.int .i64) (.prod (.int .i64) (.row 2 (.int .i64)))))
  else if t = 97 then some (.row 4 (.bool))
  else if t = 105 then some (.int .u64)
  else if t = 110 then some (.prod (.str) (.prod (.int .i64) (.prod (.int .i64) (.prod (.int .i64) (.prod (.bool) (.bool))))))
  else if t = 111 then some (.row 110 (.prod (.str) (.prod (.int .i64) (.prod (.int .i64) (.prod (.int .i64) (.prod (.bool) (.bool)))))))
  else if t = 114 then some (.int .u32)
  else none
theorem sz_2 : szOf Tryz.prog 2 = some 1 := by kernel_rfl
theorem sb_2 : sbOf Tryz.prog 2 = some (1, 8) := by kernel_rfl
theorem zr_2 : zeroOf Tryz.prog 2 = some [.int .i64 0] := by kernel_rfl
theorem sz_3 : szOf Tryz.prog 3 = some 1 := by kernel_rfl
theorem sb_3 : sbOf Tryz.prog 3 = some (1, 8) := by kernel_rfl
theorem zr_3 : zeroOf Tryz.prog 3 = some [.int .i64 0] := by kernel_rfl
theorem sz_4 : szOf Tryz.prog 4 = some 1 := by kernel_rfl
theorem sb_4 : sbOf Tryz.prog 4 = some (1, 1) := by kernel_rfl
theorem zr_4 : zeroOf Tryz.prog 4 = some [.bool false] := by kernel_rfl
theorem sz_5 : szOf Tryz.prog 5 = some 1 := by kernel_rfl
theorem sb_5 : sbOf Tryz.prog 5 = some (1, 1) := by kernel_rfl
theorem zr_5 : zeroOf Tryz.prog 5 = some [.int .u8 0] := by kernel_rfl
theorem sz_9 : szOf Tryz.prog 9 = some 1 := by kernel_rfl
theorem sb_9 : sbOf Tryz.prog 9 = some (1, 16) := by kernel_rfl
theorem zr_9 : zeroOf Tryz.prog 9 = some [.string ByteArray.empty] := by kernel_rfl
theorem sz_22 : szOf Tryz.prog 22 = some 1 := by kernel_rfl
theorem sb_22 : sbOf Tryz.prog 22 = some (1, 24) := by kernel_rfl
theorem zr_22 : zeroOf Tryz.prog 22 = some [.slice none 0 0] := by kernel_rfl
theorem sz_23 : szOf Tryz.prog 23 = some 1 := by kernel_rfl
theorem sb_23 : sbOf Tryz.prog 23 = some (1, 24) := by kernel_rfl
theorem zr_23 : zeroOf Tryz.prog 23 = some [.slice none 0 0] := by kernel_rfl
theorem sz_24 : szOf Tryz.prog 24 = some 1 := by kernel_rfl
theorem sb_24 : sbOf Tryz.prog 24 = some (1, 24) := by kernel_rfl
theorem zr_24 : zeroOf Tryz.prog 24 = some [.slice none 0 0] := by kernel_rfl
theorem sz_26 : szOf Tryz.prog 26 = some 4 := by kernel_rfl
theorem sb_26 : sbOf Tryz.prog 26 = some (4, 80) := by kernel_rfl
theorem zr_26 : zeroOf Tryz.prog 26 = some [.int .i64 0, .slice none 0 0, .slice none 0 0, .slice none 0 0] := by kernel_rfl
theorem pl_26 : placesOf Tryz.prog 26 = some [(0, 1), (1, 1), (2, 1), (3, 1)] := by kernel_rfl
theorem sz_28 : szOf Tryz.prog 28 = some 1 := by kernel_rfl
theorem sb_28 : sbOf Tryz.prog 28 = some (1, 24) := by kernel_rfl
theorem zr_28 : zeroOf Tryz.prog 28 = some [.slice none 0 0] := by kernel_rfl
theorem pl_28 : placesOf Tryz.prog 28 = some [(0, 1)] := by kernel_rfl
theorem sz_32 : szOf Tryz.prog 32 = some 1 := by kernel_rfl
theorem sb_32 : sbOf Tryz.prog 32 = some (1, 24) := by kernel_rfl
theorem zr_32 : zeroOf Tryz.prog 32 = some [.slice none 0 0] := by kernel_rfl
theorem pl_32 : placesOf Tryz.prog 32 = some [(0, 1)] := by kernel_rfl
theorem sz_35 : szOf Tryz.prog 35 = some 1 := by kernel_rfl
theorem sb_35 : sbOf Tryz.prog 35 = some (1, 24) := by kernel_rfl
theorem zr_35 : zeroOf Tryz.prog 35 = some [.slice none 0 0] := by kernel_rfl
theorem sz_37 : szOf Tryz.prog 37 = some 4 := by kernel_rfl
theorem sb_37 : sbOf Tryz.prog 37 = some (4, 80) := by kernel_rfl
theorem zr_37 : zeroOf Tryz.prog 37 = some [.int .i64 0, .slice none 0 0, .slice none 0 0, .slice none 0 0] := by kernel_rfl
theorem pl_37 : placesOf Tryz.prog 37 = some [(0, 1), (1, 1), (2, 1), (3, 1)] := by kernel_rfl
theorem sz_65 : szOf Tryz.prog 65 = some 7 := by kernel_rfl
theorem sb_65 : sbOf Tryz.prog 65 = some (7, 152) := by kernel_rfl
theorem zr_65 : zeroOf Tryz.prog 65 = some [.int .i64 0, .slice none 0 0, .slice none 0 0, .slice none 0 0, .slice none 0 0, .slice none 0 0, .slice none 0 0] := by kernel_rfl
theorem pl_65 : placesOf Tryz.prog 65 = some [(0, 4), (4, 1), (5, 1), (6, 1)] := by kernel_rfl
theorem sz_71 : szOf Tryz.prog 71 = some 4 := by kernel_rfl
theorem sb_71 : sbOf Tryz.prog 71 = some (4, 48) := by kernel_rfl
theorem zr_71 : zeroOf Tryz.prog 71 = some [.int .i64 0, .int .i64 0, .int .i64 0, .slice none 0 0] := by kernel_rfl
theorem pl_71 : placesOf Tryz.prog 71 = some [(0, 1), (1, 1), (2, 1), (3, 1)] := by kernel_rfl
theorem sz_75 : szOf Tryz.prog 75 = some 4 := by kernel_rfl
theorem sb_75 : sbOf Tryz.prog 75 = some (4, 48) := by kernel_rfl
theorem zr_75 : zeroOf Tryz.prog 75 = some [.int .i64 0, .int .i64 0, .int .i64 0, .slice none 0 0] := by kernel_rfl
theorem pl_75 : placesOf Tryz.prog 75 = some [(0, 1), (1, 1), (2, 1), (3, 1)] := by kernel_rfl
theorem sz_97 : szOf Tryz.prog 97 = some 1 := by kernel_rfl
theorem sb_97 : sbOf Tryz.prog 97 = some (1, 24) := by kernel_rfl
theorem zr_97 : zeroOf Tryz.prog 97 = some [.slice none 0 0] := by kernel_rfl
theorem sz_105 : szOf Tryz.prog 105 = some 1 := by kernel_rfl
theorem sb_105 : sbOf Tryz.prog 105 = some (1, 8) := by kernel_rfl
theorem zr_105 : zeroOf Tryz.prog 105 = some [.int .u64 0] := by kernel_rfl
theorem sz_110 : szOf Tryz.prog 110 = some 6 := by kernel_rfl
theorem sb_110 : sbOf Tryz.prog 110 = some (6, 48) := by kernel_rfl
theorem zr_110 : zeroOf Tryz.prog 110 = some [.string ByteArray.empty, .int .i64 0, .int .i64 0, .int .i64 0, .bool false, .bool false] := by kernel_rfl
theorem pl_110 : placesOf Tryz.prog 110 = some [(0, 1), (1, 1), (2, 1), (3, 1), (4, 1), (5, 1)] := by kernel_rfl
theorem sz_111 : szOf Tryz.prog 111 = some 1 := by kernel_rfl
theorem sb_111 : sbOf Tryz.prog 111 = some (1, 24) := by kernel_rfl
theorem zr_111 : zeroOf Tryz.prog 111 = some [.slice none 0 0] := by kernel_rfl
theorem sz_114 : szOf Tryz.prog 114 = some 1 := by kernel_rfl
theorem sb_114 : sbOf Tryz.prog 114 = some (1, 4) := by kernel_rfl
theorem zr_114 : zeroOf Tryz.prog 114 = some [.int .u32 0] := by kernel_rfl
theorem sz_1 : szOf Tryz.prog 1 = some 1 := by kernel_rfl
theorem sz_29 : szOf Tryz.prog 29 = some 1 := by kernel_rfl
theorem sz_30 : szOf Tryz.prog 30 = some 1 := by kernel_rfl
theorem sz_31 : szOf Tryz.prog 31 = some 1 := by kernel_rfl
theorem sz_34 : szOf Tryz.prog 34 = some 1 := by kernel_rfl
theorem sz_38 : szOf Tryz.prog 38 = some 1 := by kernel_rfl
theorem sz_39 : szOf Tryz.prog 39 = some 1 := by kernel_rfl
theorem sz_40 : szOf Tryz.prog 40 = some 1 := by kernel_rfl
theorem sz_41 : szOf Tryz.prog 41 = some 1 := by kernel_rfl
theorem sz_42 : szOf Tryz.prog 42 = some 1 := by kernel_rfl
theorem sz_43 : szOf Tryz.prog 43 = some 1 := by kernel_rfl
theorem sz_44 : szOf Tryz.prog 44 = some 1 := by kernel_rfl
theorem sz_45 : szOf Tryz.prog 45 = some 1 := by kernel_rfl
theorem sz_46 : szOf Tryz.prog 46 = some 1 := by kernel_rfl
theorem sz_47 : szOf Tryz.prog 47 = some 1 := by kernel_rfl
theorem sz_48 : szOf Tryz.prog 48 = some 1 := by kernel_rfl
theorem sz_49 : szOf Tryz.prog 49 = some 1 := by kernel_rfl
theorem sz_52 : szOf Tryz.prog 52 = some 1 := by kernel_rfl
theorem sz_53 : szOf Tryz.prog 53 = some 1 := by kernel_rfl
theorem sz_54 : szOf Tryz.prog 54 = some 1 := by kernel_rfl
theorem sz_55 : szOf Tryz.prog 55 = some 1 := by kernel_rfl
theorem sz_56 : szOf Tryz.prog 56 = some 1 := by kernel_rfl
theorem sz_57 : szOf Tryz.prog 57 = some 1 := by kernel_rfl
theorem sz_58 : szOf Tryz.prog 58 = some 1 := by kernel_rfl
theorem sz_59 : szOf Tryz.prog 59 = some 1 := by kernel_rfl
theorem sz_60 : szOf Tryz.prog 60 = some 1 := by kernel_rfl
theorem sz_62 : szOf Tryz.prog 62 = some 1 := by kernel_rfl
theorem sz_63 : szOf Tryz.prog 63 = some 1 := by kernel_rfl
theorem sz_66 : szOf Tryz.prog 66 = some 1 := by kernel_rfl
theorem sz_67 : szOf Tryz.prog 67 = some 1 := by kernel_rfl
theorem sz_68 : szOf Tryz.prog 68 = some 1 := by kernel_rfl
theorem sz_69 : szOf Tryz.prog 69 = some 1 := by kernel_rfl
theorem sz_72 : szOf Tryz.prog 72 = some 1 := by kernel_rfl
theorem sz_73 : szOf Tryz.prog 73 = some 1 := by kernel_rfl
theorem sz_76 : szOf Tryz.prog 76 = some 1 := by kernel_rfl
theorem sz_78 : szOf Tryz.prog 78 = some 1 := by kernel_rfl
theorem sz_79 : szOf Tryz.prog 79 = some 1 := by kernel_rfl
theorem sz_80 : szOf Tryz.prog 80 = some 1 := by kernel_rfl
theorem sz_81 : szOf Tryz.prog 81 = some 1 := by kernel_rfl
theorem sz_82 : szOf Tryz.prog 82 = some 1 := by kernel_rfl
theorem sz_83 : szOf Tryz.prog 83 = some 1 := by kernel_rfl
theorem sz_84 : szOf Tryz.prog 84 = some 1 := by kernel_rfl
theorem sz_85 : szOf Tryz.prog 85 = some 1 := by kernel_rfl
theorem sz_86 : szOf Tryz.prog 86 = some 1 := by kernel_rfl
theorem sz_87 : szOf Tryz.prog 87 = some 1 := by kernel_rfl
theorem sz_88 : szOf Tryz.prog 88 = some 1 := by kernel_rfl
theorem sz_89 : szOf Tryz.prog 89 = some 1 := by kernel_rfl
theorem sz_90 : szOf Tryz.prog 90 = some 1 := by kernel_rfl
theorem sz_91 : szOf Tryz.prog 91 = some 1 := by kernel_rfl
theorem sz_92 : szOf Tryz.prog 92 = some 1 := by kernel_rfl
theorem sz_93 : szOf Tryz.prog 93 = some 1 := by kernel_rfl
theorem sz_94 : szOf Tryz.prog 94 = some 1 := by kernel_rfl
theorem sz_95 : szOf Tryz.prog 95 = some 1 := by kernel_rfl
theorem sz_96 : szOf Tryz.prog 96 = some 1 := by kernel_rfl
theorem sz_98 : szOf Tryz.prog 98 = some 1 := by kernel_rfl
theorem sz_100 : szOf Tryz.prog 100 = some 1 := by kernel_rfl
theorem sz_101 : szOf Tryz.prog 101 = some 1 := by kernel_rfl
theorem sz_102 : szOf Tryz.prog 102 = some 1 := by kernel_rfl
theorem sz_103 : szOf Tryz.prog 103 = some 1 := by kernel_rfl
theorem sz_104 : szOf Tryz.prog 104 = some 1 := by kernel_rfl
theorem sz_106 : szOf Tryz.prog 106 = some 1 := by kernel_rfl
theorem sz_107 : szOf Tryz.prog 107 = some 1 := by kernel_rfl
theorem sz_108 : szOf Tryz.prog 108 = some 1 := by kernel_rfl
theorem sz_112 : szOf Tryz.prog 112 = some 1 := by kernel_rfl
theorem sz_113 : szOf Tryz.prog 113 = some 1 := by kernel_rfl
theorem sz_115 : szOf Tryz.prog 115 = some 1 := by kernel_rfl
theorem sz_121 : szOf Tryz.prog 121 = some 1 := by kernel_rfl
theorem sz_124 : szOf Tryz.prog 124 = some 1 := by kernel_rfl
attribute [go_sem] G sz_2 sb_2 zr_2 sz_3 sb_3 zr_3 sz_4 sb_4 zr_4 sz_5 sb_5 zr_5 sz_9 sb_9 zr_9 sz_22 sb_22 zr_22 sz_23 sb_23 zr_23 sz_24 sb_24 zr_24 sz_26 sb_26 zr_26 pl_26 sz_28 sb_28 zr_28 pl_28 sz_32 sb_32 zr_32 pl_32 sz_35 sb_35 zr_35 sz_37 sb_37 zr_37 pl_37 sz_65 sb_65 zr_65 pl_65 sz_71 sb_71 zr_71 pl_71 sz_75 sb_75 zr_75 pl_75 sz_97 sb_97 zr_97 sz_105 sb_105 zr_105 sz_110 sb_110 zr_110 pl_110 sz_111 sb_111 zr_111 sz_114 sb_114 zr_114 sz_1 sz_29 sz_30 sz_31 sz_34 sz_38 sz_39 sz_40 sz_41 sz_42 sz_43 sz_44 sz_45 sz_46 sz_47 sz_48 sz_49 sz_52 sz_53 sz_54 sz_55 sz_56 sz_57 sz_58 sz_59 sz_60 sz_62 sz_63 sz_66 sz_67 sz_68 sz_69 sz_72 sz_73 sz_76 sz_78 sz_79 sz_80 sz_81 sz_82 sz_83 sz_84 sz_85 sz_86 sz_87 sz_88 sz_89 sz_90 sz_91 sz_92 sz_93 sz_94 sz_95 sz_96 sz_98 sz_100 sz_101 sz_102 sz_103 sz_104 sz_106 sz_107 sz_108 sz_112 sz_113 sz_115 sz_121 sz_124
attribute [go_sem] Tryz.underlying2 Tryz.underlying3 Tryz.underlying4 Tryz.underlying5 Tryz.underlying9 Tryz.underlying22 Tryz.underlying23 Tryz.underlying24 Tryz.underlying26 Tryz.underlying28 Tryz.underlying32 Tryz.underlying35 Tryz.underlying37 Tryz.underlying65 Tryz.underlying71 Tryz.underlying75 Tryz.underlying97 Tryz.underlying105 Tryz.underlying110 Tryz.underlying111 Tryz.underlying114
theorem mixed : Tryz.prog.follows .mixedOrders = true := by kernel_rfl
def T0 : Tab := fun _ => none
theorem T0_ok : TabOk Tryz.prog T0 := fun f k h => by cases h
end Go.Proofs.YthglggjgjlmhlaaGreat
