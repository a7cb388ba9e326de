/-
  Types of the program: what the logic of trees asks of them.
-/
import Derived.Test.YthfopaimihmgiaaGp
import Derived.Test.YthfopaimihmgiaaChecked
import Derived.IntWalk
namespace Go.Proofs.Ythfopaimihmgiaa
open Go.RowKit
set_option linter.unusedSimpArgs false
set_option linter.unusedVariables false

def G : TypeId → Option Ty := fun t =>
  if t = 2 then some (.int .i64)
  else if t = 3 then some (.int .i64)
  else if t = 4 then some (.bool)
  else if t = 5 then some (.int .u8)
  else if t = 9 then some (.str)
  else if t = 22 then some (.row 24 (.row 2 (.int .i64)))
  else if t = 23 then some (.row 76 (.prod (.int .i64) (.prod (.int .i64) (.prod (.int .i64) (.row 2 (.int .i64))))))
  else if t = 24 then some (.row 2 (.int .i64))
  else if t = 26 then some (.prod (.int .i64) (.prod (.row 24 (.row 2 (.int .i64))) (.prod (.row 76 (.prod (.int .i64) (.prod (.int .i64) (.prod (.int .i64) (.row 2 (.int .i64)))))) (.row 2 (.int .i64)))))
  else if t = 29 then some (.row 56 (.prod (.int .i64) (.prod (.int .i64) (.prod (.int .i64) (.row 2 (.int .i64))))))
  else if t = 31 then some (.prod (.int .i64) (.prod (.row 24 (.row 2 (.int .i64))) (.prod (.row 56 (.prod (.int .i64) (.prod (.int .i64) (.prod (.int .i64) (.row 2 (.int .i64)))))) (.row 2 (.int .i64)))))
  else if t = 56 then some (.prod (.int .i64) (.prod (.int .i64) (.prod (.int .i64) (.row 2 (.int .i64)))))
  else if t = 61 then some (.prod (.row 24 (.row 2 (.int .i64))) (.prod (.row 56 (.prod (.int .i64) (.prod (.int .i64) (.prod (.int .i64) (.row 2 (.int .i64)))))) (.row 2 (.int .i64))))
  else if t = 76 then some (.prod (.int .i64) (.prod (.int .i64) (.prod (.int .i64) (.row 2 (.int .i64)))))
  else if t = 82 then some (.row 31 (.prod (.int .i64) (.prod (.row 24 (.row 2 (.int .i64))) (.prod (.row 56 (.prod (.int .i64) (.prod (.int .i64) (.prod (.int .i64) (.row 2 (.int .i64)))))) (.row 2 (.int .i64))))))
  else if t = 95 then some (.row 4 (.bool))
  else if t = 99 then some (.row 3 (.int .i64))
  else if t = 106 then some (.prod (.str) (.prod (.int .i64) (.prod (.int .i64) (.prod (.int .i64) (.prod (.bool) (.bool))))))
  else if t = 107 then some (.row 106 (.prod (.str) (.prod (.int .i64) (.prod (.int .i64) (.prod (.int .i64) (.prod (.bool) (.bool)))))))
  else if t = 112 then some (.int .u64)
  else if t = 124 then some (.int .u32)
  else if t = 126 then some (.int .u64)
  else none
theorem sz_2 : szOf Try.prog 2 = some 1 := by kernel_rfl
theorem sb_2 : sbOf Try.prog 2 = some (1, 8) := by kernel_rfl
theorem zr_2 : zeroOf Try.prog 2 = some [.int .i64 0] := by kernel_rfl
theorem sz_3 : szOf Try.prog 3 = some 1 := by kernel_rfl
theorem sb_3 : sbOf Try.prog 3 = some (1, 8) := by kernel_rfl
theorem zr_3 : zeroOf Try.prog 3 = some [.int .i64 0] := by kernel_rfl
theorem sz_4 : szOf Try.prog 4 = some 1 := by kernel_rfl
theorem sb_4 : sbOf Try.prog 4 = some (1, 1) := by kernel_rfl
theorem zr_4 : zeroOf Try.prog 4 = some [.bool false] := by kernel_rfl
theorem sz_5 : szOf Try.prog 5 = some 1 := by kernel_rfl
theorem sb_5 : sbOf Try.prog 5 = some (1, 1) := by kernel_rfl
theorem zr_5 : zeroOf Try.prog 5 = some [.int .u8 0] := by kernel_rfl
theorem sz_9 : szOf Try.prog 9 = some 1 := by kernel_rfl
theorem sb_9 : sbOf Try.prog 9 = some (1, 16) := by kernel_rfl
theorem zr_9 : zeroOf Try.prog 9 = some [.string ByteArray.empty] := by kernel_rfl
theorem sz_22 : szOf Try.prog 22 = some 1 := by kernel_rfl
theorem sb_22 : sbOf Try.prog 22 = some (1, 24) := by kernel_rfl
theorem zr_22 : zeroOf Try.prog 22 = some [.slice none 0 0] := by kernel_rfl
theorem sz_23 : szOf Try.prog 23 = some 1 := by kernel_rfl
theorem sb_23 : sbOf Try.prog 23 = some (1, 24) := by kernel_rfl
theorem zr_23 : zeroOf Try.prog 23 = some [.slice none 0 0] := by kernel_rfl
theorem sz_24 : szOf Try.prog 24 = some 1 := by kernel_rfl
theorem sb_24 : sbOf Try.prog 24 = some (1, 24) := by kernel_rfl
theorem zr_24 : zeroOf Try.prog 24 = some [.slice none 0 0] := by kernel_rfl
theorem sz_26 : szOf Try.prog 26 = some 4 := by kernel_rfl
theorem sb_26 : sbOf Try.prog 26 = some (4, 80) := by kernel_rfl
theorem zr_26 : zeroOf Try.prog 26 = some [.int .i64 0, .slice none 0 0, .slice none 0 0, .slice none 0 0] := by kernel_rfl
theorem pl_26 : placesOf Try.prog 26 = some [(0, 1), (1, 1), (2, 1), (3, 1)] := by kernel_rfl
theorem sz_29 : szOf Try.prog 29 = some 1 := by kernel_rfl
theorem sb_29 : sbOf Try.prog 29 = some (1, 24) := by kernel_rfl
theorem zr_29 : zeroOf Try.prog 29 = some [.slice none 0 0] := by kernel_rfl
theorem sz_31 : szOf Try.prog 31 = some 4 := by kernel_rfl
theorem sb_31 : sbOf Try.prog 31 = some (4, 80) := by kernel_rfl
theorem zr_31 : zeroOf Try.prog 31 = some [.int .i64 0, .slice none 0 0, .slice none 0 0, .slice none 0 0] := by kernel_rfl
theorem pl_31 : placesOf Try.prog 31 = some [(0, 1), (1, 1), (2, 1), (3, 1)] := by kernel_rfl
theorem sz_56 : szOf Try.prog 56 = some 4 := by kernel_rfl
theorem sb_56 : sbOf Try.prog 56 = some (4, 48) := by kernel_rfl
theorem zr_56 : zeroOf Try.prog 56 = some [.int .i64 0, .int .i64 0, .int .i64 0, .slice none 0 0] := by kernel_rfl
theorem pl_56 : placesOf Try.prog 56 = some [(0, 1), (1, 1), (2, 1), (3, 1)] := by kernel_rfl
theorem sz_61 : szOf Try.prog 61 = some 3 := by kernel_rfl
theorem sb_61 : sbOf Try.prog 61 = some (3, 72) := by kernel_rfl
theorem zr_61 : zeroOf Try.prog 61 = some [.slice none 0 0, .slice none 0 0, .slice none 0 0] := by kernel_rfl
theorem pl_61 : placesOf Try.prog 61 = some [(0, 1), (1, 1), (2, 1)] := by kernel_rfl
theorem sz_76 : szOf Try.prog 76 = some 4 := by kernel_rfl
theorem sb_76 : sbOf Try.prog 76 = some (4, 48) := by kernel_rfl
theorem zr_76 : zeroOf Try.prog 76 = some [.int .i64 0, .int .i64 0, .int .i64 0, .slice none 0 0] := by kernel_rfl
theorem pl_76 : placesOf Try.prog 76 = some [(0, 1), (1, 1), (2, 1), (3, 1)] := by kernel_rfl
theorem sz_82 : szOf Try.prog 82 = some 1 := by kernel_rfl
theorem sb_82 : sbOf Try.prog 82 = some (1, 24) := by kernel_rfl
theorem zr_82 : zeroOf Try.prog 82 = some [.slice none 0 0] := by kernel_rfl
theorem sz_95 : szOf Try.prog 95 = some 1 := by kernel_rfl
theorem sb_95 : sbOf Try.prog 95 = some (1, 24) := by kernel_rfl
theorem zr_95 : zeroOf Try.prog 95 = some [.slice none 0 0] := by kernel_rfl
theorem sz_99 : szOf Try.prog 99 = some 1 := by kernel_rfl
theorem sb_99 : sbOf Try.prog 99 = some (1, 24) := by kernel_rfl
theorem zr_99 : zeroOf Try.prog 99 = some [.slice none 0 0] := by kernel_rfl
theorem sz_106 : szOf Try.prog 106 = some 6 := by kernel_rfl
theorem sb_106 : sbOf Try.prog 106 = some (6, 48) := by kernel_rfl
theorem zr_106 : zeroOf Try.prog 106 = some [.string ByteArray.empty, .int .i64 0, .int .i64 0, .int .i64 0, .bool false, .bool false] := by kernel_rfl
theorem pl_106 : placesOf Try.prog 106 = some [(0, 1), (1, 1), (2, 1), (3, 1), (4, 1), (5, 1)] := by kernel_rfl
theorem sz_107 : szOf Try.prog 107 = some 1 := by kernel_rfl
theorem sb_107 : sbOf Try.prog 107 = some (1, 24) := by kernel_rfl
theorem zr_107 : zeroOf Try.prog 107 = some [.slice none 0 0] := by kernel_rfl
theorem sz_112 : szOf Try.prog 112 = some 1 := by kernel_rfl
theorem sb_112 : sbOf Try.prog 112 = some (1, 8) := by kernel_rfl
theorem zr_112 : zeroOf Try.prog 112 = some [.int .u64 0] := by kernel_rfl
theorem sz_124 : szOf Try.prog 124 = some 1 := by kernel_rfl
theorem sb_124 : sbOf Try.prog 124 = some (1, 4) := by kernel_rfl
theorem zr_124 : zeroOf Try.prog 124 = some [.int .u32 0] := by kernel_rfl
theorem sz_126 : szOf Try.prog 126 = some 1 := by kernel_rfl
theorem sb_126 : sbOf Try.prog 126 = some (1, 8) := by kernel_rfl
theorem zr_126 : zeroOf Try.prog 126 = some [.int .u64 0] := by kernel_rfl
theorem sz_1 : szOf Try.prog 1 = some 1 := by kernel_rfl
theorem sz_27 : szOf Try.prog 27 = some 1 := by kernel_rfl
theorem sz_28 : szOf Try.prog 28 = some 1 := by kernel_rfl
theorem sz_32 : szOf Try.prog 32 = some 1 := by kernel_rfl
theorem sz_33 : szOf Try.prog 33 = some 1 := by kernel_rfl
theorem sz_34 : szOf Try.prog 34 = some 1 := by kernel_rfl
theorem sz_35 : szOf Try.prog 35 = some 1 := by kernel_rfl
theorem sz_36 : szOf Try.prog 36 = some 1 := by kernel_rfl
theorem sz_38 : szOf Try.prog 38 = some 1 := by kernel_rfl
theorem sz_39 : szOf Try.prog 39 = some 1 := by kernel_rfl
theorem sz_40 : szOf Try.prog 40 = some 1 := by kernel_rfl
theorem sz_41 : szOf Try.prog 41 = some 1 := by kernel_rfl
theorem sz_43 : szOf Try.prog 43 = some 1 := by kernel_rfl
theorem sz_44 : szOf Try.prog 44 = some 1 := by kernel_rfl
theorem sz_46 : szOf Try.prog 46 = some 1 := by kernel_rfl
theorem sz_47 : szOf Try.prog 47 = some 1 := by kernel_rfl
theorem sz_48 : szOf Try.prog 48 = some 1 := by kernel_rfl
theorem sz_49 : szOf Try.prog 49 = some 1 := by kernel_rfl
theorem sz_50 : szOf Try.prog 50 = some 1 := by kernel_rfl
theorem sz_52 : szOf Try.prog 52 = some 1 := by kernel_rfl
theorem sz_53 : szOf Try.prog 53 = some 1 := by kernel_rfl
theorem sz_57 : szOf Try.prog 57 = some 1 := by kernel_rfl
theorem sz_58 : szOf Try.prog 58 = some 1 := by kernel_rfl
theorem sz_59 : szOf Try.prog 59 = some 1 := by kernel_rfl
theorem sz_62 : szOf Try.prog 62 = some 1 := by kernel_rfl
theorem sz_63 : szOf Try.prog 63 = some 1 := by kernel_rfl
theorem sz_64 : szOf Try.prog 64 = some 1 := by kernel_rfl
theorem sz_65 : szOf Try.prog 65 = some 1 := by kernel_rfl
theorem sz_66 : szOf Try.prog 66 = some 1 := by kernel_rfl
theorem sz_67 : szOf Try.prog 67 = some 1 := by kernel_rfl
theorem sz_68 : szOf Try.prog 68 = some 1 := by kernel_rfl
theorem sz_69 : szOf Try.prog 69 = some 1 := by kernel_rfl
theorem sz_70 : szOf Try.prog 70 = some 1 := by kernel_rfl
theorem sz_71 : szOf Try.prog 71 = some 1 := by kernel_rfl
theorem sz_72 : szOf Try.prog 72 = some 1 := by kernel_rfl
theorem sz_73 : szOf Try.prog 73 = some 1 := by kernel_rfl
theorem sz_74 : szOf Try.prog 74 = some 1 := by kernel_rfl
theorem sz_75 : szOf Try.prog 75 = some 1 := by kernel_rfl
theorem sz_78 : szOf Try.prog 78 = some 1 := by kernel_rfl
theorem sz_79 : szOf Try.prog 79 = some 1 := by kernel_rfl
theorem sz_80 : szOf Try.prog 80 = some 1 := by kernel_rfl
theorem sz_81 : szOf Try.prog 81 = some 1 := by kernel_rfl
theorem sz_83 : szOf Try.prog 83 = some 1 := by kernel_rfl
theorem sz_84 : szOf Try.prog 84 = some 1 := by kernel_rfl
theorem sz_85 : szOf Try.prog 85 = some 1 := by kernel_rfl
theorem sz_86 : szOf Try.prog 86 = some 1 := by kernel_rfl
theorem sz_87 : szOf Try.prog 87 = some 1 := by kernel_rfl
theorem sz_88 : szOf Try.prog 88 = some 1 := by kernel_rfl
theorem sz_89 : szOf Try.prog 89 = some 1 := by kernel_rfl
theorem sz_90 : szOf Try.prog 90 = some 1 := by kernel_rfl
theorem sz_91 : szOf Try.prog 91 = some 1 := by kernel_rfl
theorem sz_92 : szOf Try.prog 92 = some 1 := by kernel_rfl
theorem sz_93 : szOf Try.prog 93 = some 1 := by kernel_rfl
theorem sz_94 : szOf Try.prog 94 = some 1 := by kernel_rfl
theorem sz_96 : szOf Try.prog 96 = some 1 := by kernel_rfl
theorem sz_97 : szOf Try.prog 97 = some 1 := by kernel_rfl
theorem sz_98 : szOf Try.prog 98 = some 1 := by kernel_rfl
theorem sz_100 : szOf Try.prog 100 = some 1 := by kernel_rfl
theorem sz_101 : szOf Try.prog 101 = some 1 := by kernel_rfl
theorem sz_102 : szOf Try.prog 102 = some 1 := by kernel_rfl
theorem sz_103 : szOf Try.prog 103 = some 1 := by kernel_rfl
theorem sz_104 : szOf Try.prog 104 = some 1 := by kernel_rfl
theorem sz_108 : szOf Try.prog 108 = some 1 := by kernel_rfl
theorem sz_109 : szOf Try.prog 109 = some 1 := by kernel_rfl
theorem sz_110 : szOf Try.prog 110 = some 1 := by kernel_rfl
theorem sz_111 : szOf Try.prog 111 = some 1 := by kernel_rfl
theorem sz_113 : szOf Try.prog 113 = some 1 := by kernel_rfl
theorem sz_114 : szOf Try.prog 114 = some 1 := by kernel_rfl
theorem sz_117 : szOf Try.prog 117 = some 1 := by kernel_rfl
theorem sz_118 : szOf Try.prog 118 = some 1 := by kernel_rfl
theorem sz_119 : szOf Try.prog 119 = some 1 := by kernel_rfl
theorem sz_120 : szOf Try.prog 120 = some 1 := by kernel_rfl
theorem sz_122 : szOf Try.prog 122 = some 1 := by kernel_rfl
theorem sz_123 : szOf Try.prog 123 = some 1 := by kernel_rfl
theorem sz_125 : szOf Try.prog 125 = some 1 := by kernel_rfl
theorem sz_128 : szOf Try.prog 128 = some 1 := by kernel_rfl
theorem sz_129 : szOf Try.prog 129 = some 1 := by kernel_rfl
theorem sz_130 : szOf Try.prog 130 = some 1 := by kernel_rfl
theorem sz_132 : szOf Try.prog 132 = some 1 := by kernel_rfl
theorem sz_135 : szOf Try.prog 135 = some 1 := by kernel_rfl
theorem sz_136 : szOf Try.prog 136 = some 1 := by kernel_rfl
theorem sz_142 : szOf Try.prog 142 = some 1 := by kernel_rfl
theorem sz_145 : szOf Try.prog 145 = some 1 := by kernel_rfl
attribute [go_sem] G sz_2 sb_2 zr_2 sz_3 sb_3 zr_3 sz_4 sb_4 zr_4 sz_5 sb_5 zr_5 sz_9 sb_9 zr_9 sz_22 sb_22 zr_22 sz_23 sb_23 zr_23 sz_24 sb_24 zr_24 sz_26 sb_26 zr_26 pl_26 sz_29 sb_29 zr_29 sz_31 sb_31 zr_31 pl_31 sz_56 sb_56 zr_56 pl_56 sz_61 sb_61 zr_61 pl_61 sz_76 sb_76 zr_76 pl_76 sz_82 sb_82 zr_82 sz_95 sb_95 zr_95 sz_99 sb_99 zr_99 sz_106 sb_106 zr_106 pl_106 sz_107 sb_107 zr_107 sz_112 sb_112 zr_112 sz_124 sb_124 zr_124 sz_126 sb_126 zr_126 sz_1 sz_27 sz_28 sz_32 sz_33 sz_34 sz_35 sz_36 sz_38 sz_39 sz_40 sz_41 sz_43 sz_44 sz_46 sz_47 sz_48 sz_49 sz_50 sz_52 sz_53 sz_57 sz_58 sz_59 sz_62 sz_63 sz_64 sz_65 sz_66 sz_67 sz_68 sz_69 sz_70 sz_71 sz_72 sz_73 sz_74 sz_75 sz_78 sz_79 sz_80 sz_81 sz_83 sz_84 sz_85 sz_86 sz_87 sz_88 sz_89 sz_90 sz_91 sz_92 sz_93 sz_94 sz_96 sz_97 sz_98 sz_100 sz_101 sz_102 sz_103 sz_104 sz_108 sz_109 sz_110 sz_111 sz_113 sz_114 sz_117 sz_118 sz_119 sz_120 sz_122 sz_123 sz_125 sz_128 sz_129 sz_130 sz_132 sz_135 sz_136 sz_142 sz_145
attribute [go_sem] Try.underlying2 Try.underlying3 Try.underlying4 Try.underlying5 Try.underlying9 Try.underlying22 Try.underlying23 Try.underlying24 Try.underlying26 Try.underlying29 Try.underlying31 Try.underlying56 Try.underlying61 Try.underlying76 Try.underlying82 Try.underlying95 Try.underlying99 Try.underlying106 Try.underlying107 Try.underlying112 Try.underlying124 Try.underlying126
theorem mixed : Try.prog.follows .mixedOrders = true := by kernel_rfl
def T0 : Tab := fun _ => none
theorem T0_ok : TabOk Try.prog T0 := fun f k h => by cases h
end Go.Proofs.Ythfopaimihmgiaa
