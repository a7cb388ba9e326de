/-
  Types of the program: what the logic of trees asks of them.
-/
import Derived.Test.YthglggjgjlmhlaaGp
import Derived.Test.YthglggjgjlmhlaaChecked
import Derived.IntWalk
namespace Go.Proofs.Ythglggjgjlmhlaa
open Go.RowKit
set_option linter.unusedSimpArgs false
set_option linter.unusedVariables false

def G : TypeId → Option Ty := fun t =>
  if t = 2 then some (.int .i64)
  else if t = 3 then some (.int .i64)
  else if t = 4 then some (.bool)
  else if t = 5 then some (.int .u8)
  else if t = 9 then some (.str)
  else if t = 22 then some (.row 24 (.row 2 (.int .i64)))
  else if t = 23 then some (.row 136 (.prod (.int .i64) (.prod (.int .i64) (.prod (.int .i64) (.row 2 (.int .i64))))))
  else if t = 24 then some (.row 2 (.int .i64))
  else if t = 26 then some (.prod (.int .i64) (.prod (.row 24 (.row 2 (.int .i64))) (.prod (.row 136 (.prod (.int .i64) (.prod (.int .i64) (.prod (.int .i64) (.row 2 (.int .i64)))))) (.row 2 (.int .i64)))))
  else if t = 28 then some (.row 24 (.row 2 (.int .i64)))
  else if t = 31 then some (.row 24 (.row 2 (.int .i64)))
  else if t = 34 then some (.row 140 (.prod (.int .i64) (.prod (.int .i64) (.prod (.int .i64) (.row 2 (.int .i64))))))
  else if t = 36 then some (.prod (.int .i64) (.prod (.row 24 (.row 2 (.int .i64))) (.prod (.row 140 (.prod (.int .i64) (.prod (.int .i64) (.prod (.int .i64) (.row 2 (.int .i64)))))) (.row 2 (.int .i64)))))
  else if t = 61 then some (.row 5 (.int .u8))
  else if t = 74 then some (.row 174 (.prod (.int .i64) (.prod (.int .i64) (.prod (.int .i64) (.prod (.int .i64) (.prod (.row 2 (.int .i64)) (.int .i64)))))))
  else if t = 76 then some (.prod (.int .i64) (.prod (.int .i64) (.prod (.row 24 (.row 2 (.int .i64))) (.prod (.row 174 (.prod (.int .i64) (.prod (.int .i64) (.prod (.int .i64) (.prod (.int .i64) (.prod (.row 2 (.int .i64)) (.int .i64))))))) (.row 2 (.int .i64))))))
  else if t = 98 then some (.prod (.prod (.int .i64) (.prod (.row 24 (.row 2 (.int .i64))) (.prod (.row 140 (.prod (.int .i64) (.prod (.int .i64) (.prod (.int .i64) (.row 2 (.int .i64)))))) (.row 2 (.int .i64))))) (.prod (.row 2 (.int .i64)) (.prod (.row 2 (.int .i64)) (.row 24 (.row 2 (.int .i64))))))
  else if t = 117 then some (.prod (.row 24 (.row 2 (.int .i64))) (.prod (.row 140 (.prod (.int .i64) (.prod (.int .i64) (.prod (.int .i64) (.row 2 (.int .i64)))))) (.row 2 (.int .i64))))
  else if t = 136 then some (.prod (.int .i64) (.prod (.int .i64) (.prod (.int .i64) (.row 2 (.int .i64)))))
  else if t = 140 then some (.prod (.int .i64) (.prod (.int .i64) (.prod (.int .i64) (.row 2 (.int .i64)))))
  else if t = 156 then some (.row 36 (.prod (.int .i64) (.prod (.row 24 (.row 2 (.int .i64))) (.prod (.row 140 (.prod (.int .i64) (.prod (.int .i64) (.prod (.int .i64) (.row 2 (.int .i64)))))) (.row 2 (.int .i64))))))
  else if t = 158 then some (.int .u64)
  else if t = 160 then some (.prod (.row 5 (.int .u8)) (.prod (.int .i64) (.int .u64)))
  else if t = 174 then some (.prod (.int .i64) (.prod (.int .i64) (.prod (.int .i64) (.prod (.int .i64) (.prod (.row 2 (.int .i64)) (.int .i64))))))
  else if t = 178 then some (.int .u64)
  else if t = 179 then some (.row 4 (.bool))
  else if t = 187 then some (.prod (.str) (.prod (.int .i64) (.prod (.int .i64) (.prod (.int .i64) (.prod (.bool) (.bool))))))
  else if t = 188 then some (.row 187 (.prod (.str) (.prod (.int .i64) (.prod (.int .i64) (.prod (.int .i64) (.prod (.bool) (.bool)))))))
  else if t = 191 then some (.int .u32)
  else none
theorem sz_2 : szOf Try.prog 2 = some 1 := by kernel_rfl
theorem sb_2 : sbOf Try.prog 2 = some (1, 8) := by kernel_rfl
theorem zr_2 : zeroOf Try.prog 2 = some [.int .i64 0] := by kernel_rfl
theorem sz_3 : szOf Try.prog 3 = some 1 := by kernel_rfl
theorem sb_3 : sbOf Try.prog 3 = some (1, 8) := by kernel_rfl
theorem zr_3 : zeroOf Try.prog 3 = some [.int .i64 0] := by kernel_rfl
theorem sz_4 : szOf Try.prog 4 = some 1 := by kernel_rfl
theorem sb_4 : sbOf Try.prog 4 = some (1, 1) := by kernel_rfl
theorem zr_4 : zeroOf Try.prog 4 = some [.bool false] := by kernel_rfl
theorem sz_5 : szOf Try.prog 5 = some 1 := by kernel_rfl
theorem sb_5 : sbOf Try.prog 5 = some (1, 1) := by kernel_rfl
theorem zr_5 : zeroOf Try.prog 5 = some [.int .u8 0] := by kernel_rfl
theorem sz_9 : szOf Try.prog 9 = some 1 := by kernel_rfl
theorem sb_9 : sbOf Try.prog 9 = some (1, 16) := by kernel_rfl
theorem zr_9 : zeroOf Try.prog 9 = some [.string ByteArray.empty] := by kernel_rfl
theorem sz_22 : szOf Try.prog 22 = some 1 := by kernel_rfl
theorem sb_22 : sbOf Try.prog 22 = some (1, 24) := by kernel_rfl
theorem zr_22 : zeroOf Try.prog 22 = some [.slice none 0 0] := by kernel_rfl
theorem sz_23 : szOf Try.prog 23 = some 1 := by kernel_rfl
theorem sb_23 : sbOf Try.prog 23 = some (1, 24) := by kernel_rfl
theorem zr_23 : zeroOf Try.prog 23 = some [.slice none 0 0] := by kernel_rfl
theorem sz_24 : szOf Try.prog 24 = some 1 := by kernel_rfl
theorem sb_24 : sbOf Try.prog 24 = some (1, 24) := by kernel_rfl
theorem zr_24 : zeroOf Try.prog 24 = some [.slice none 0 0] := by kernel_rfl
theorem sz_26 : szOf Try.prog 26 = some 4 := by kernel_rfl
theorem sb_26 : sbOf Try.prog 26 = some (4, 80) := by kernel_rfl
theorem zr_26 : zeroOf Try.prog 26 = some [.int .i64 0, .slice none 0 0, .slice none 0 0, .slice none 0 0] := by kernel_rfl
theorem pl_26 : placesOf Try.prog 26 = some [(0, 1), (1, 1), (2, 1), (3, 1)] := by kernel_rfl
theorem sz_28 : szOf Try.prog 28 = some 1 := by kernel_rfl
theorem sb_28 : sbOf Try.prog 28 = some (1, 24) := by kernel_rfl
theorem zr_28 : zeroOf Try.prog 28 = some [.slice none 0 0] := by kernel_rfl
theorem pl_28 : placesOf Try.prog 28 = some [(0, 1)] := by kernel_rfl
theorem sz_31 : szOf Try.prog 31 = some 1 := by kernel_rfl
theorem sb_31 : sbOf Try.prog 31 = some (1, 24) := by kernel_rfl
theorem zr_31 : zeroOf Try.prog 31 = some [.slice none 0 0] := by kernel_rfl
theorem pl_31 : placesOf Try.prog 31 = some [(0, 1)] := by kernel_rfl
theorem sz_34 : szOf Try.prog 34 = some 1 := by kernel_rfl
theorem sb_34 : sbOf Try.prog 34 = some (1, 24) := by kernel_rfl
theorem zr_34 : zeroOf Try.prog 34 = some [.slice none 0 0] := by kernel_rfl
theorem sz_36 : szOf Try.prog 36 = some 4 := by kernel_rfl
theorem sb_36 : sbOf Try.prog 36 = some (4, 80) := by kernel_rfl
theorem zr_36 : zeroOf Try.prog 36 = some [.int .i64 0, .slice none 0 0, .slice none 0 0, .slice none 0 0] := by kernel_rfl
theorem pl_36 : placesOf Try.prog 36 = some [(0, 1), (1, 1), (2, 1), (3, 1)] := by kernel_rfl
theorem sz_61 : szOf Try.prog 61 = some 1 := by kernel_rfl
theorem sb_61 : sbOf Try.prog 61 = some (1, 24) := by kernel_rfl
theorem zr_61 : zeroOf Try.prog 61 = some [.slice none 0 0] := by kernel_rfl
theorem sz_74 : szOf Try.prog 74 = some 1 := by kernel_rfl
theorem sb_74 : sbOf Try.prog 74 = some (1, 24) := by kernel_rfl
theorem zr_74 : zeroOf Try.prog 74 = some [.slice none 0 0] := by kernel_rfl
theorem sz_76 : szOf Try.prog 76 = some 5 := by kernel_rfl
theorem sb_76 : sbOf Try.prog 76 = some (5, 88) := by kernel_rfl
theorem zr_76 : zeroOf Try.prog 76 = some [.int .i64 0, .int .i64 0, .slice none 0 0, .slice none 0 0, .slice none 0 0] := by kernel_rfl
theorem pl_76 : placesOf Try.prog 76 = some [(0, 1), (1, 1), (2, 1), (3, 1), (4, 1)] := by kernel_rfl
theorem sz_98 : szOf Try.prog 98 = some 7 := by kernel_rfl
theorem sb_98 : sbOf Try.prog 98 = some (7, 152) := by kernel_rfl
theorem zr_98 : zeroOf Try.prog 98 = some [.int .i64 0, .slice none 0 0, .slice none 0 0, .slice none 0 0, .slice none 0 0, .slice none 0 0, .slice none 0 0] := by kernel_rfl
theorem pl_98 : placesOf Try.prog 98 = some [(0, 4), (4, 1), (5, 1), (6, 1)] := by kernel_rfl
theorem sz_117 : szOf Try.prog 117 = some 3 := by kernel_rfl
theorem sb_117 : sbOf Try.prog 117 = some (3, 72) := by kernel_rfl
theorem zr_117 : zeroOf Try.prog 117 = some [.slice none 0 0, .slice none 0 0, .slice none 0 0] := by kernel_rfl
theorem pl_117 : placesOf Try.prog 117 = some [(0, 1), (1, 1), (2, 1)] := by kernel_rfl
theorem sz_136 : szOf Try.prog 136 = some 4 := by kernel_rfl
theorem sb_136 : sbOf Try.prog 136 = some (4, 48) := by kernel_rfl
theorem zr_136 : zeroOf Try.prog 136 = some [.int .i64 0, .int .i64 0, .int .i64 0, .slice none 0 0] := by kernel_rfl
theorem pl_136 : placesOf Try.prog 136 = some [(0, 1), (1, 1), (2, 1), (3, 1)] := by kernel_rfl
theorem sz_140 : szOf Try.prog 140 = some 4 := by kernel_rfl
theorem sb_140 : sbOf Try.prog 140 = some (4, 48) := by kernel_rfl
theorem zr_140 : zeroOf Try.prog 140 = some [.int .i64 0, .int .i64 0, .int .i64 0, .slice none 0 0] := by kernel_rfl
theorem pl_140 : placesOf Try.prog 140 = some [(0, 1), (1, 1), (2, 1), (3, 1)] := by kernel_rfl
theorem sz_156 : szOf Try.prog 156 = some 1 := by kernel_rfl
theorem sb_156 : sbOf Try.prog 156 = some (1, 24) := by kernel_rfl
theorem zr_156 : zeroOf Try.prog 156 = some [.slice none 0 0] := by kernel_rfl
theorem sz_158 : szOf Try.prog 158 = some 1 := by kernel_rfl
theorem sb_158 : sbOf Try.prog 158 = some (1, 8) := by kernel_rfl
theorem zr_158 : zeroOf Try.prog 158 = some [.int .u64 0] := by kernel_rfl
theorem sz_160 : szOf Try.prog 160 = some 3 := by kernel_rfl
theorem sb_160 : sbOf Try.prog 160 = some (3, 40) := by kernel_rfl
theorem zr_160 : zeroOf Try.prog 160 = some [.slice none 0 0, .int .i64 0, .int .u64 0] := by kernel_rfl
theorem pl_160 : placesOf Try.prog 160 = some [(0, 1), (1, 1), (2, 1)] := by kernel_rfl
theorem sz_174 : szOf Try.prog 174 = some 6 := by kernel_rfl
theorem sb_174 : sbOf Try.prog 174 = some (6, 64) := by kernel_rfl
theorem zr_174 : zeroOf Try.prog 174 = some [.int .i64 0, .int .i64 0, .int .i64 0, .int .i64 0, .slice none 0 0, .int .i64 0] := by kernel_rfl
theorem pl_174 : placesOf Try.prog 174 = some [(0, 1), (1, 1), (2, 1), (3, 1), (4, 1), (5, 1)] := by kernel_rfl
theorem sz_178 : szOf Try.prog 178 = some 1 := by kernel_rfl
theorem sb_178 : sbOf Try.prog 178 = some (1, 8) := by kernel_rfl
theorem zr_178 : zeroOf Try.prog 178 = some [.int .u64 0] := by kernel_rfl
theorem sz_179 : szOf Try.prog 179 = some 1 := by kernel_rfl
theorem sb_179 : sbOf Try.prog 179 = some (1, 24) := by kernel_rfl
theorem zr_179 : zeroOf Try.prog 179 = some [.slice none 0 0] := by kernel_rfl
theorem sz_187 : szOf Try.prog 187 = some 6 := by kernel_rfl
theorem sb_187 : sbOf Try.prog 187 = some (6, 48) := by kernel_rfl
theorem zr_187 : zeroOf Try.prog 187 = some [.string ByteArray.empty, .int .i64 0, .int .i64 0, .int .i64 0, .bool false, .bool false] := by kernel_rfl
theorem pl_187 : placesOf Try.prog 187 = some [(0, 1), (1, 1), (2, 1), (3, 1), (4, 1), (5, 1)] := by kernel_rfl
theorem sz_188 : szOf Try.prog 188 = some 1 := by kernel_rfl
theorem sb_188 : sbOf Try.prog 188 = some (1, 24) := by kernel_rfl
theorem zr_188 : zeroOf Try.prog 188 = some [.slice none 0 0] := by kernel_rfl
theorem sz_191 : szOf Try.prog 191 = some 1 := by kernel_rfl
theorem sb_191 : sbOf Try.prog 191 = some (1, 4) := by kernel_rfl
theorem zr_191 : zeroOf Try.prog 191 = some [.int .u32 0] := by kernel_rfl
theorem sz_1 : szOf Try.prog 1 = some 1 := by kernel_rfl
theorem sz_29 : szOf Try.prog 29 = some 1 := by kernel_rfl
theorem sz_30 : szOf Try.prog 30 = some 1 := by kernel_rfl
theorem sz_33 : szOf Try.prog 33 = some 1 := by kernel_rfl
theorem sz_37 : szOf Try.prog 37 = some 1 := by kernel_rfl
theorem sz_38 : szOf Try.prog 38 = some 1 := by kernel_rfl
theorem sz_39 : szOf Try.prog 39 = some 1 := by kernel_rfl
theorem sz_40 : szOf Try.prog 40 = some 1 := by kernel_rfl
theorem sz_41 : szOf Try.prog 41 = some 1 := by kernel_rfl
theorem sz_42 : szOf Try.prog 42 = some 1 := by kernel_rfl
theorem sz_43 : szOf Try.prog 43 = some 1 := by kernel_rfl
theorem sz_44 : szOf Try.prog 44 = some 1 := by kernel_rfl
theorem sz_45 : szOf Try.prog 45 = some 1 := by kernel_rfl
theorem sz_46 : szOf Try.prog 46 = some 1 := by kernel_rfl
theorem sz_47 : szOf Try.prog 47 = some 1 := by kernel_rfl
theorem sz_49 : szOf Try.prog 49 = some 1 := by kernel_rfl
theorem sz_50 : szOf Try.prog 50 = some 1 := by kernel_rfl
theorem sz_51 : szOf Try.prog 51 = some 1 := by kernel_rfl
theorem sz_52 : szOf Try.prog 52 = some 1 := by kernel_rfl
theorem sz_54 : szOf Try.prog 54 = some 1 := by kernel_rfl
theorem sz_55 : szOf Try.prog 55 = some 1 := by kernel_rfl
theorem sz_56 : szOf Try.prog 56 = some 1 := by kernel_rfl
theorem sz_57 : szOf Try.prog 57 = some 1 := by kernel_rfl
theorem sz_59 : szOf Try.prog 59 = some 1 := by kernel_rfl
theorem sz_60 : szOf Try.prog 60 = some 1 := by kernel_rfl
theorem sz_62 : szOf Try.prog 62 = some 1 := by kernel_rfl
theorem sz_64 : szOf Try.prog 64 = some 1 := by kernel_rfl
theorem sz_66 : szOf Try.prog 66 = some 1 := by kernel_rfl
theorem sz_67 : szOf Try.prog 67 = some 1 := by kernel_rfl
theorem sz_68 : szOf Try.prog 68 = some 1 := by kernel_rfl
theorem sz_69 : szOf Try.prog 69 = some 1 := by kernel_rfl
theorem sz_70 : szOf Try.prog 70 = some 1 := by kernel_rfl
theorem sz_71 : szOf Try.prog 71 = some 1 := by kernel_rfl
theorem sz_72 : szOf Try.prog 72 = some 1 := by kernel_rfl
theorem sz_73 : szOf Try.prog 73 = some 1 := by kernel_rfl
theorem sz_78 : szOf Try.prog 78 = some 1 := by kernel_rfl
theorem sz_79 : szOf Try.prog 79 = some 1 := by kernel_rfl
theorem sz_80 : szOf Try.prog 80 = some 1 := by kernel_rfl
theorem sz_81 : szOf Try.prog 81 = some 1 := by kernel_rfl
theorem sz_82 : szOf Try.prog 82 = some 1 := by kernel_rfl
theorem sz_83 : szOf Try.prog 83 = some 1 := by kernel_rfl
theorem sz_87 : szOf Try.prog 87 = some 1 := by kernel_rfl
theorem sz_88 : szOf Try.prog 88 = some 1 := by kernel_rfl
theorem sz_89 : szOf Try.prog 89 = some 1 := by kernel_rfl
theorem sz_90 : szOf Try.prog 90 = some 1 := by kernel_rfl
theorem sz_91 : szOf Try.prog 91 = some 1 := by kernel_rfl
theorem sz_92 : szOf Try.prog 92 = some 1 := by kernel_rfl
theorem sz_94 : szOf Try.prog 94 = some 1 := by kernel_rfl
theorem sz_95 : szOf Try.prog 95 = some 1 := by kernel_rfl
theorem sz_96 : szOf Try.prog 96 = some 1 := by kernel_rfl
theorem sz_99 : szOf Try.prog 99 = some 1 := by kernel_rfl
theorem sz_100 : szOf Try.prog 100 = some 1 := by kernel_rfl
theorem sz_101 : szOf Try.prog 101 = some 1 := by kernel_rfl
theorem sz_102 : szOf Try.prog 102 = some 1 := by kernel_rfl
theorem sz_103 : szOf Try.prog 103 = some 1 := by kernel_rfl
theorem sz_104 : szOf Try.prog 104 = some 1 := by kernel_rfl
theorem sz_105 : szOf Try.prog 105 = some 1 := by kernel_rfl
theorem sz_106 : szOf Try.prog 106 = some 1 := by kernel_rfl
theorem sz_107 : szOf Try.prog 107 = some 1 := by kernel_rfl
theorem sz_108 : szOf Try.prog 108 = some 1 := by kernel_rfl
theorem sz_109 : szOf Try.prog 109 = some 1 := by kernel_rfl
theorem sz_110 : szOf Try.prog 110 = some 1 := by kernel_rfl
theorem sz_111 : szOf Try.prog 111 = some 1 := by kernel_rfl
theorem sz_112 : szOf Try.prog 112 = some 1 := by kernel_rfl
theorem sz_113 : szOf Try.prog 113 = some 1 := by kernel_rfl
theorem sz_114 : szOf Try.prog 114 = some 1 := by kernel_rfl
theorem sz_115 : szOf Try.prog 115 = some 1 := by kernel_rfl
theorem sz_118 : szOf Try.prog 118 = some 1 := by kernel_rfl
theorem sz_120 : szOf Try.prog 120 = some 1 := by kernel_rfl
theorem sz_121 : szOf Try.prog 121 = some 1 := by kernel_rfl
theorem sz_122 : szOf Try.prog 122 = some 1 := by kernel_rfl
theorem sz_123 : szOf Try.prog 123 = some 1 := by kernel_rfl
theorem sz_124 : szOf Try.prog 124 = some 1 := by kernel_rfl
theorem sz_125 : szOf Try.prog 125 = some 1 := by kernel_rfl
theorem sz_126 : szOf Try.prog 126 = some 1 := by kernel_rfl
theorem sz_127 : szOf Try.prog 127 = some 1 := by kernel_rfl
theorem sz_128 : szOf Try.prog 128 = some 1 := by kernel_rfl
theorem sz_129 : szOf Try.prog 129 = some 1 := by kernel_rfl
theorem sz_130 : szOf Try.prog 130 = some 1 := by kernel_rfl
theorem sz_131 : szOf Try.prog 131 = some 1 := by kernel_rfl
theorem sz_132 : szOf Try.prog 132 = some 1 := by kernel_rfl
theorem sz_133 : szOf Try.prog 133 = some 1 := by kernel_rfl
theorem sz_134 : szOf Try.prog 134 = some 1 := by kernel_rfl
theorem sz_137 : szOf Try.prog 137 = some 1 := by kernel_rfl
theorem sz_138 : szOf Try.prog 138 = some 1 := by kernel_rfl
theorem sz_141 : szOf Try.prog 141 = some 1 := by kernel_rfl
theorem sz_142 : szOf Try.prog 142 = some 1 := by kernel_rfl
theorem sz_143 : szOf Try.prog 143 = some 1 := by kernel_rfl
theorem sz_144 : szOf Try.prog 144 = some 1 := by kernel_rfl
theorem sz_145 : szOf Try.prog 145 = some 1 := by kernel_rfl
theorem sz_146 : szOf Try.prog 146 = some 1 := by kernel_rfl
theorem sz_148 : szOf Try.prog 148 = some 1 := by kernel_rfl
theorem sz_149 : szOf Try.prog 149 = some 1 := by kernel_rfl
theorem sz_150 : szOf Try.prog 150 = some 1 := by kernel_rfl
theorem sz_151 : szOf Try.prog 151 = some 1 := by kernel_rfl
theorem sz_152 : szOf Try.prog 152 = some 1 := by kernel_rfl
theorem sz_153 : szOf Try.prog 153 = some 1 := by kernel_rfl
theorem sz_154 : szOf Try.prog 154 = some 1 := by kernel_rfl
theorem sz_155 : szOf Try.prog 155 = some 1 := by kernel_rfl
theorem sz_157 : szOf Try.prog 157 = some 1 := by kernel_rfl
theorem sz_161 : szOf Try.prog 161 = some 1 := by kernel_rfl
theorem sz_162 : szOf Try.prog 162 = some 1 := by kernel_rfl
theorem sz_163 : szOf Try.prog 163 = some 1 := by kernel_rfl
theorem sz_164 : szOf Try.prog 164 = some 1 := by kernel_rfl
theorem sz_165 : szOf Try.prog 165 = some 1 := by kernel_rfl
theorem sz_166 : szOf Try.prog 166 = some 1 := by kernel_rfl
theorem sz_167 : szOf Try.prog 167 = some 1 := by kernel_rfl
theorem sz_168 : szOf Try.prog 168 = some 1 := by kernel_rfl
theorem sz_169 : szOf Try.prog 169 = some 1 := by kernel_rfl
theorem sz_170 : szOf Try.prog 170 = some 1 := by kernel_rfl
theorem sz_171 : szOf Try.prog 171 = some 1 := by kernel_rfl
theorem sz_172 : szOf Try.prog 172 = some 1 := by kernel_rfl
theorem sz_175 : szOf Try.prog 175 = some 1 := by kernel_rfl
theorem sz_176 : szOf Try.prog 176 = some 1 := by kernel_rfl
theorem sz_177 : szOf Try.prog 177 = some 1 := by kernel_rfl
theorem sz_180 : szOf Try.prog 180 = some 1 := by kernel_rfl
theorem sz_181 : szOf Try.prog 181 = some 1 := by kernel_rfl
theorem sz_182 : szOf Try.prog 182 = some 1 := by kernel_rfl
theorem sz_183 : szOf Try.prog 183 = some 1 := by kernel_rfl
theorem sz_184 : szOf Try.prog 184 = some 1 := by kernel_rfl
theorem sz_185 : szOf Try.prog 185 = some 1 := by kernel_rfl
theorem sz_189 : szOf Try.prog 189 = some 1 := by kernel_rfl
theorem sz_190 : szOf Try.prog 190 = some 1 := by kernel_rfl
theorem sz_192 : szOf Try.prog 192 = some 1 := by kernel_rfl
theorem sz_198 : szOf Try.prog 198 = some 1 := by kernel_rfl
theorem sz_201 : szOf Try.prog 201 = some 1 := by kernel_rfl
theorem sz_207 : szOf Try.prog 207 = some 1 := by kernel_rfl
attribute [go_sem] G sz_2 sb_2 zr_2 sz_3 sb_3 zr_3 sz_4 sb_4 zr_4 sz_5 sb_5 zr_5 sz_9 sb_9 zr_9 sz_22 sb_22 zr_22 sz_23 sb_23 zr_23 sz_24 sb_24 zr_24 sz_26 sb_26 zr_26 pl_26 sz_28 sb_28 zr_28 pl_28 sz_31 sb_31 zr_31 pl_31 sz_34 sb_34 zr_34 sz_36 sb_36 zr_36 pl_36 sz_61 sb_61 zr_61 sz_74 sb_74 zr_74 sz_76 sb_76 zr_76 pl_76 sz_98 sb_98 zr_98 pl_98 sz_117 sb_117 zr_117 pl_117 sz_136 sb_136 zr_136 pl_136 sz_140 sb_140 zr_140 pl_140 sz_156 sb_156 zr_156 sz_158 sb_158 zr_158 sz_160 sb_160 zr_160 pl_160 sz_174 sb_174 zr_174 pl_174 sz_178 sb_178 zr_178 sz_179 sb_179 zr_179 sz_187 sb_187 zr_187 pl_187 sz_188 sb_188 zr_188 sz_191 sb_191 zr_191 sz_1 sz_29 sz_30 sz_33 sz_37 sz_38 sz_39 sz_40 sz_41 sz_42 sz_43 sz_44 sz_45 sz_46 sz_47 sz_49 sz_50 sz_51 sz_52 sz_54 sz_55 sz_56 sz_57 sz_59 sz_60 sz_62 sz_64 sz_66 sz_67 sz_68 sz_69 sz_70 sz_71 sz_72 sz_73 sz_78 sz_79 sz_80 sz_81 sz_82 sz_83 sz_87 sz_88 sz_89 sz_90 sz_91 sz_92 sz_94 sz_95 sz_96 sz_99 sz_100 sz_101 sz_102 sz_103 sz_104 sz_105 sz_106 sz_107 sz_108 sz_109 sz_110 sz_111 sz_112 sz_113 sz_114 sz_115 sz_118 sz_120 sz_121 sz_122 sz_123 sz_124 sz_125 sz_126 sz_127 sz_128 sz_129 sz_130 sz_131 sz_132 sz_133 sz_134 sz_137 sz_138 sz_141 sz_142 sz_143 sz_144 sz_145 sz_146 sz_148 sz_149 sz_150 sz_151 sz_152 sz_153 sz_154 sz_155 sz_157 sz_161 sz_162 sz_163 sz_164 sz_165 sz_166 sz_167 sz_168 sz_169 sz_170 sz_171 sz_172 sz_175 sz_176 sz_177 sz_180 sz_181 sz_182 sz_183 sz_184 sz_185 sz_189 sz_190 sz_192 sz_198 sz_201 sz_207
attribute [go_sem] Try.underlying2 Try.underlying3 Try.underlying4 Try.underlying5 Try.underlying9 Try.underlying22 Try.underlying23 Try.underlying24 Try.underlying26 Try.underlying28 Try.underlying31 Try.underlying34 Try.underlying36 Try.underlying61 Try.underlying74 Try.underlying76 Try.underlying98 Try.underlying117 Try.underlying136 Try.underlying140 Try.underlying156 Try.underlying158 Try.underlying160 Try.underlying174 Try.underlying178 Try.underlying179 Try.underlying187 Try.underlying188 Try.underlying191
theorem mixed : Try.prog.follows .mixedOrders = true := by kernel_rfl
def T0 : Tab := fun _ => none
theorem T0_ok : TabOk Try.prog T0 := fun f k h => by cases h
end Go.Proofs.Ythglggjgjlmhlaa
