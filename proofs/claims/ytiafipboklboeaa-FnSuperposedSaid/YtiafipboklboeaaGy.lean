/-
  Types of the program: what the logic of trees asks of them.
-/
import Derived.Test.YtiafipboklboeaaGp
import Derived.Test.YtiafipboklboeaaChecked
import Derived.IntWalk
namespace Go.Proofs.Ytiafipboklboeaa
open Go.RowKit
set_option linter.unusedSimpArgs false
set_option linter.unusedVariables false

def G : TypeId → Option Ty := fun t =>
  if t = 2 then some (.int .i64)
  else if t = 3 then some (.int .i64)
  else if t = 4 then some (.bool)
  else if t = 5 then some (.int .u8)
  else if t = 9 then some (.str)
  else if t = 22 then some (.row 5 (.int .u8))
  else if t = 24 then some (.row 26 (.row 2 (.int .i64)))
  else if t = 25 then some (.row 83 (.prod (.int .i64) (.prod (.int .i64) (.prod (.int .i64) (.row 2 (.int .i64))))))
  else if t = 26 then some (.row 2 (.int .i64))
  else if t = 28 then some (.prod (.int .i64) (.prod (.row 26 (.row 2 (.int .i64))) (.prod (.row 83 (.prod (.int .i64) (.prod (.int .i64) (.prod (.int .i64) (.row 2 (.int .i64)))))) (.row 2 (.int .i64)))))
  else if t = 35 then some (.row 26 (.row 2 (.int .i64)))
  else if t = 68 then some (.prod (.prod (.int .i64) (.prod (.row 26 (.row 2 (.int .i64))) (.prod (.row 83 (.prod (.int .i64) (.prod (.int .i64) (.prod (.int .i64) (.row 2 (.int .i64)))))) (.row 2 (.int .i64))))) (.prod (.row 2 (.int .i64)) (.prod (.row 2 (.int .i64)) (.row 26 (.row 2 (.int .i64))))))
  else if t = 79 then some (.int .u64)
  else if t = 81 then some (.prod (.row 5 (.int .u8)) (.prod (.int .i64) (.int .u64)))
  else if t = 83 then some (.prod (.int .i64) (.prod (.int .i64) (.prod (.int .i64) (.row 2 (.int .i64)))))
  else if t = 111 then some (.int .u64)
  else if t = 114 then some (.row 4 (.bool))
  else if t = 123 then some (.prod (.str) (.prod (.int .i64) (.prod (.int .i64) (.prod (.int .i64) (.prod (.bool) (.bool))))))
  else if t = 124 then some (.row 123 (.prod (.str) (.prod (.int .i64) (.prod (.int .i64) (.prod (.int .i64) (.prod (.bool) (.bool)))))))
  else if t = 130 then some (.int .u32)
  else none
theorem sz_2 : szOf Try.prog 2 = some 1 := by kernel_rfl
theorem sb_2 : sbOf Try.prog 2 = some (1, 8) := by kernel_rfl
theorem zr_2 : zeroOf Try.prog 2 = some [.int .i64 0] := by kernel_rfl
theorem sz_3 : szOf Try.prog 3 = some 1 := by kernel_rfl
theorem sb_3 : sbOf Try.prog 3 = some (1, 8) := by kernel_rfl
theorem zr_3 : zeroOf Try.prog 3 = some [.int .i64 0] := by kernel_rfl
theorem sz_4 : szOf Try.prog 4 = some 1 := by kernel_rfl
theorem sb_4 : sbOf Try.prog 4 = some (1, 1) := by kernel_rfl
theorem zr_4 : zeroOf Try.prog 4 = some [.bool false] := by kernel_rfl
theorem sz_5 : szOf Try.prog 5 = some 1 := by kernel_rfl
theorem sb_5 : sbOf Try.prog 5 = some (1, 1) := by kernel_rfl
theorem zr_5 : zeroOf Try.prog 5 = some [.int .u8 0] := by kernel_rfl
theorem sz_9 : szOf Try.prog 9 = some 1 := by kernel_rfl
theorem sb_9 : sbOf Try.prog 9 = some (1, 16) := by kernel_rfl
theorem zr_9 : zeroOf Try.prog 9 = some [.string ByteArray.empty] := by kernel_rfl
theorem sz_22 : szOf Try.prog 22 = some 1 := by kernel_rfl
theorem sb_22 : sbOf Try.prog 22 = some (1, 24) := by kernel_rfl
theorem zr_22 : zeroOf Try.prog 22 = some [.slice none 0 0] := by kernel_rfl
theorem sz_24 : szOf Try.prog 24 = some 1 := by kernel_rfl
theorem sb_24 : sbOf Try.prog 24 = some (1, 24) := by kernel_rfl
theorem zr_24 : zeroOf Try.prog 24 = some [.slice none 0 0] := by kernel_rfl
theorem sz_25 : szOf Try.prog 25 = some 1 := by kernel_rfl
theorem sb_25 : sbOf Try.prog 25 = some (1, 24) := by kernel_rfl
theorem zr_25 : zeroOf Try.prog 25 = some [.slice none 0 0] := by kernel_rfl
theorem sz_26 : szOf Try.prog 26 = some 1 := by kernel_rfl
theorem sb_26 : sbOf Try.prog 26 = some (1, 24) := by kernel_rfl
theorem zr_26 : zeroOf Try.prog 26 = some [.slice none 0 0] := by kernel_rfl
theorem sz_28 : szOf Try.prog 28 = some 4 := by kernel_rfl
theorem sb_28 : sbOf Try.prog 28 = some (4, 80) := by kernel_rfl
theorem zr_28 : zeroOf Try.prog 28 = some [.int .i64 0, .slice none 0 0, .slice none 0 0, .slice none 0 0] := by kernel_rfl
theorem pl_28 : placesOf Try.prog 28 = some [(0, 1), (1, 1), (2, 1), (3, 1)] := by kernel_rfl
theorem sz_35 : szOf Try.prog 35 = some 1 := by kernel_rfl
theorem sb_35 : sbOf Try.prog 35 = some (1, 24) := by kernel_rfl
theorem zr_35 : zeroOf Try.prog 35 = some [.slice none 0 0] := by kernel_rfl
theorem pl_35 : placesOf Try.prog 35 = some [(0, 1)] := by kernel_rfl
theorem sz_68 : szOf Try.prog 68 = some 7 := by kernel_rfl
theorem sb_68 : sbOf Try.prog 68 = some (7, 152) := by kernel_rfl
theorem zr_68 : zeroOf Try.prog 68 = some [.int .i64 0, .slice none 0 0, .slice none 0 0, .slice none 0 0, .slice none 0 0, .slice none 0 0, .slice none 0 0] := by kernel_rfl
theorem pl_68 : placesOf Try.prog 68 = some [(0, 4), (4, 1), (5, 1), (6, 1)] := by kernel_rfl
theorem sz_79 : szOf Try.prog 79 = some 1 := by kernel_rfl
theorem sb_79 : sbOf Try.prog 79 = some (1, 8) := by kernel_rfl
theorem zr_79 : zeroOf Try.prog 79 = some [.int .u64 0] := by kernel_rfl
theorem sz_81 : szOf Try.prog 81 = some 3 := by kernel_rfl
theorem sb_81 : sbOf Try.prog 81 = some (3, 40) := by kernel_rfl
theorem zr_81 : zeroOf Try.prog 81 = some [.slice none 0 0, .int .i64 0, .int .u64 0] := by kernel_rfl
theorem pl_81 : placesOf Try.prog 81 = some [(0, 1), (1, 1), (2, 1)] := by kernel_rfl
theorem sz_83 : szOf Try.prog 83 = some 4 := by kernel_rfl
theorem sb_83 : sbOf Try.prog 83 = some (4, 48) := by kernel_rfl
theorem zr_83 : zeroOf Try.prog 83 = some [.int .i64 0, .int .i64 0, .int .i64 0, .slice none 0 0] := by kernel_rfl
theorem pl_83 : placesOf Try.prog 83 = some [(0, 1), (1, 1), (2, 1), (3, 1)] := by kernel_rfl
theorem sz_111 : szOf Try.prog 111 = some 1 := by kernel_rfl
theorem sb_111 : sbOf Try.prog 111 = some (1, 8) := by kernel_rfl
theorem zr_111 : zeroOf Try.prog 111 = some [.int .u64 0] := by kernel_rfl
theorem sz_114 : szOf Try.prog 114 = some 1 := by kernel_rfl
theorem sb_114 : sbOf Try.prog 114 = some (1, 24) := by kernel_rfl
theorem zr_114 : zeroOf Try.prog 114 = some [.slice none 0 0] := by kernel_rfl
theorem sz_123 : szOf Try.prog 123 = some 6 := by kernel_rfl
theorem sb_123 : sbOf Try.prog 123 = some (6, 48) := by kernel_rfl
theorem zr_123 : zeroOf Try.prog 123 = some [.string ByteArray.empty, .int .i64 0, .int .i64 0, .int .i64 0, .bool false, .bool false] := by kernel_rfl
theorem pl_123 : placesOf Try.prog 123 = some [(0, 1), (1, 1), (2, 1), (3, 1), (4, 1), (5, 1)] := by kernel_rfl
theorem sz_124 : szOf Try.prog 124 = some 1 := by kernel_rfl
theorem sb_124 : sbOf Try.prog 124 = some (1, 24) := by kernel_rfl
theorem zr_124 : zeroOf Try.prog 124 = some [.slice none 0 0] := by kernel_rfl
theorem sz_130 : szOf Try.prog 130 = some 1 := by kernel_rfl
theorem sb_130 : sbOf Try.prog 130 = some (1, 4) := by kernel_rfl
theorem zr_130 : zeroOf Try.prog 130 = some [.int .u32 0] := by kernel_rfl
theorem sz_1 : szOf Try.prog 1 = some 1 := by kernel_rfl
theorem sz_23 : szOf Try.prog 23 = some 1 := by kernel_rfl
theorem sz_30 : szOf Try.prog 30 = some 1 := by kernel_rfl
theorem sz_32 : szOf Try.prog 32 = some 1 := by kernel_rfl
theorem sz_33 : szOf Try.prog 33 = some 1 := by kernel_rfl
theorem sz_37 : szOf Try.prog 37 = some 1 := by kernel_rfl
theorem sz_38 : szOf Try.prog 38 = some 1 := by kernel_rfl
theorem sz_39 : szOf Try.prog 39 = some 1 := by kernel_rfl
theorem sz_41 : szOf Try.prog 41 = some 1 := by kernel_rfl
theorem sz_42 : szOf Try.prog 42 = some 1 := by kernel_rfl
theorem sz_43 : szOf Try.prog 43 = some 1 := by kernel_rfl
theorem sz_44 : szOf Try.prog 44 = some 1 := by kernel_rfl
theorem sz_46 : szOf Try.prog 46 = some 1 := by kernel_rfl
theorem sz_47 : szOf Try.prog 47 = some 1 := by kernel_rfl
theorem sz_48 : szOf Try.prog 48 = some 1 := by kernel_rfl
theorem sz_49 : szOf Try.prog 49 = some 1 := by kernel_rfl
theorem sz_51 : szOf Try.prog 51 = some 1 := by kernel_rfl
theorem sz_52 : szOf Try.prog 52 = some 1 := by kernel_rfl
theorem sz_53 : szOf Try.prog 53 = some 1 := by kernel_rfl
theorem sz_55 : szOf Try.prog 55 = some 1 := by kernel_rfl
theorem sz_56 : szOf Try.prog 56 = some 1 := by kernel_rfl
theorem sz_57 : szOf Try.prog 57 = some 1 := by kernel_rfl
theorem sz_58 : szOf Try.prog 58 = some 1 := by kernel_rfl
theorem sz_59 : szOf Try.prog 59 = some 1 := by kernel_rfl
theorem sz_60 : szOf Try.prog 60 = some 1 := by kernel_rfl
theorem sz_61 : szOf Try.prog 61 = some 1 := by kernel_rfl
theorem sz_62 : szOf Try.prog 62 = some 1 := by kernel_rfl
theorem sz_64 : szOf Try.prog 64 = some 1 := by kernel_rfl
theorem sz_65 : szOf Try.prog 65 = some 1 := by kernel_rfl
theorem sz_66 : szOf Try.prog 66 = some 1 := by kernel_rfl
theorem sz_69 : szOf Try.prog 69 = some 1 := by kernel_rfl
theorem sz_71 : szOf Try.prog 71 = some 1 := by kernel_rfl
theorem sz_72 : szOf Try.prog 72 = some 1 := by kernel_rfl
theorem sz_73 : szOf Try.prog 73 = some 1 := by kernel_rfl
theorem sz_74 : szOf Try.prog 74 = some 1 := by kernel_rfl
theorem sz_75 : szOf Try.prog 75 = some 1 := by kernel_rfl
theorem sz_76 : szOf Try.prog 76 = some 1 := by kernel_rfl
theorem sz_77 : szOf Try.prog 77 = some 1 := by kernel_rfl
theorem sz_78 : szOf Try.prog 78 = some 1 := by kernel_rfl
theorem sz_84 : szOf Try.prog 84 = some 1 := by kernel_rfl
theorem sz_85 : szOf Try.prog 85 = some 1 := by kernel_rfl
theorem sz_86 : szOf Try.prog 86 = some 1 := by kernel_rfl
theorem sz_87 : szOf Try.prog 87 = some 1 := by kernel_rfl
theorem sz_88 : szOf Try.prog 88 = some 1 := by kernel_rfl
theorem sz_89 : szOf Try.prog 89 = some 1 := by kernel_rfl
theorem sz_90 : szOf Try.prog 90 = some 1 := by kernel_rfl
theorem sz_91 : szOf Try.prog 91 = some 1 := by kernel_rfl
theorem sz_92 : szOf Try.prog 92 = some 1 := by kernel_rfl
theorem sz_93 : szOf Try.prog 93 = some 1 := by kernel_rfl
theorem sz_94 : szOf Try.prog 94 = some 1 := by kernel_rfl
theorem sz_95 : szOf Try.prog 95 = some 1 := by kernel_rfl
theorem sz_97 : szOf Try.prog 97 = some 1 := by kernel_rfl
theorem sz_98 : szOf Try.prog 98 = some 1 := by kernel_rfl
theorem sz_99 : szOf Try.prog 99 = some 1 := by kernel_rfl
theorem sz_100 : szOf Try.prog 100 = some 1 := by kernel_rfl
theorem sz_102 : szOf Try.prog 102 = some 1 := by kernel_rfl
theorem sz_103 : szOf Try.prog 103 = some 1 := by kernel_rfl
theorem sz_104 : szOf Try.prog 104 = some 1 := by kernel_rfl
theorem sz_105 : szOf Try.prog 105 = some 1 := by kernel_rfl
theorem sz_107 : szOf Try.prog 107 = some 1 := by kernel_rfl
theorem sz_108 : szOf Try.prog 108 = some 1 := by kernel_rfl
theorem sz_109 : szOf Try.prog 109 = some 1 := by kernel_rfl
theorem sz_110 : szOf Try.prog 110 = some 1 := by kernel_rfl
theorem sz_112 : szOf Try.prog 112 = some 1 := by kernel_rfl
theorem sz_113 : szOf Try.prog 113 = some 1 := by kernel_rfl
theorem sz_115 : szOf Try.prog 115 = some 1 := by kernel_rfl
theorem sz_116 : szOf Try.prog 116 = some 1 := by kernel_rfl
theorem sz_117 : szOf Try.prog 117 = some 1 := by kernel_rfl
theorem sz_118 : szOf Try.prog 118 = some 1 := by kernel_rfl
theorem sz_119 : szOf Try.prog 119 = some 1 := by kernel_rfl
theorem sz_120 : szOf Try.prog 120 = some 1 := by kernel_rfl
theorem sz_121 : szOf Try.prog 121 = some 1 := by kernel_rfl
theorem sz_125 : szOf Try.prog 125 = some 1 := by kernel_rfl
theorem sz_126 : szOf Try.prog 126 = some 1 := by kernel_rfl
theorem sz_127 : szOf Try.prog 127 = some 1 := by kernel_rfl
theorem sz_128 : szOf Try.prog 128 = some 1 := by kernel_rfl
theorem sz_129 : szOf Try.prog 129 = some 1 := by kernel_rfl
theorem sz_131 : szOf Try.prog 131 = some 1 := by kernel_rfl
theorem sz_137 : szOf Try.prog 137 = some 1 := by kernel_rfl
theorem sz_140 : szOf Try.prog 140 = some 1 := by kernel_rfl
attribute [go_sem] G sz_2 sb_2 zr_2 sz_3 sb_3 zr_3 sz_4 sb_4 zr_4 sz_5 sb_5 zr_5 sz_9 sb_9 zr_9 sz_22 sb_22 zr_22 sz_24 sb_24 zr_24 sz_25 sb_25 zr_25 sz_26 sb_26 zr_26 sz_28 sb_28 zr_28 pl_28 sz_35 sb_35 zr_35 pl_35 sz_68 sb_68 zr_68 pl_68 sz_79 sb_79 zr_79 sz_81 sb_81 zr_81 pl_81 sz_83 sb_83 zr_83 pl_83 sz_111 sb_111 zr_111 sz_114 sb_114 zr_114 sz_123 sb_123 zr_123 pl_123 sz_124 sb_124 zr_124 sz_130 sb_130 zr_130 sz_1 sz_23 sz_30 sz_32 sz_33 sz_37 sz_38 sz_39 sz_41 sz_42 sz_43 sz_44 sz_46 sz_47 sz_48 sz_49 sz_51 sz_52 sz_53 sz_55 sz_56 sz_57 sz_58 sz_59 sz_60 sz_61 sz_62 sz_64 sz_65 sz_66 sz_69 sz_71 sz_72 sz_73 sz_74 sz_75 sz_76 sz_77 sz_78 sz_84 sz_85 sz_86 sz_87 sz_88 sz_89 sz_90 sz_91 sz_92 sz_93 sz_94 sz_95 sz_97 sz_98 sz_99 sz_100 sz_102 sz_103 sz_104 sz_105 sz_107 sz_108 sz_109 sz_110 sz_112 sz_113 sz_115 sz_116 sz_117 sz_118 sz_119 sz_120 sz_121 sz_125 sz_126 sz_127 sz_128 sz_129 sz_131 sz_137 sz_140
attribute [go_sem] Try.underlying2 Try.underlying3 Try.underlying4 Try.underlying5 Try.underlying9 Try.underlying22 Try.underlying24 Try.underlying25 Try.underlying26 Try.underlying28 Try.underlying35 Try.underlying68 Try.underlying79 Try.underlying81 Try.underlying83 Try.underlying111 Try.underlying114 Try.underlying123 Try.underlying124 Try.underlying130
theorem mixed : Try.prog.follows .mixedOrders = true := by kernel_rfl
theorem oR {σ : St} {Q : Exit → St → Prop} {id : Nat} {ops : Array Oper} {T : Tab} (hT : TabOk Try.prog T) (bf dn dc : List (List Nat)) (hS : chkS ops.toList bf dn dc = true) (hb : decide (bf.length ≤ ops.toList.length) = true) (h : adraw Try.prog G T dn ops.toList ops.toList 0 σ [] (fun σ' rs => chkA ops.toList.length bf dc 0 rs = true ∧ Q .normal σ')) : AWP Try.prog (.region id ops true) σ Q := AWP_draw hT mixed bf dn dc hS hb h
theorem oW {σ : St} {Q : Exit → St → Prop} {id : Nat} {ops : Array Oper} {T : Tab} (hT : TabOk Try.prog T) (h : aseq Try.prog G T ops.toList ops.toList σ (Q .normal)) : AWP Try.prog (.region id ops false) σ Q := AWP_region hT h
def T0 : Tab := fun _ => none
theorem T0_ok : TabOk Try.prog T0 := fun f k h => by cases h
end Go.Proofs.Ytiafipboklboeaa
