/-
  Texts of this claim, joined (part 3). No condition beyond those of the theorems.
-/
import Derived.Test.YtflaacndokbddaaGreatVd02
import Derived.Test.YtflaacndokbddaaGreatChecked
import Derived.IntWalk
namespace Go.Proofs.YtflaacndokbddaaGreat
open Go.RowKit
set_option linter.unusedSimpArgs false
set_option linter.unusedVariables false
def G:TypeId→Option Ty:=fun t =>
  if t=2 then some (.int .i64)
  else if t=3 then some (.int .i64)
  else if t=4 then some (.bool)
  else if t=5 then some (.int .u8)
  else if t=9 then some (.str)
  else if t=22 then some (.row 5 (.int .u8))
  else if t=24 then some (.row 26 (.row 2 (.int .i64)))
  else if t=25 then some (.row 90 (.prod (.int .i64) (.prod (.int .i64) (.prod (.int .i64) (.row 2 (.int .i64))))))
  else if t=26 then some (.row 2 (.int .i64))
  else if t=28 then some (.prod (.int .i64) (.prod (.row 26 (.row 2 (.int .i64))) (.prod (.row 90 (.prod (.int .i64) (.prod (.int .i64) (.prod (.int .i64) (.row 2 (.int .i64)))))) (.row 2 (.int .i64)))))
  else if t=39 then some (.row 26 (.row 2 (.int .i64)))
  else if t=50 then some (.row 147 (.prod (.int .i64) (.prod (.int .i64) (.prod (.int .i64) (.row 2 (.int .i64))))))
  else if t=52 then some (.prod (.int .i64) (.prod (.row 26 (.row 2 (.int .i64))) (.prod (.row 147 (.prod (.int .i64) (.prod (.int .i64) (.prod (.int .i64) (.row 2 (.int .i64)))))) (.row 2 (.int .i64)))))
  else if t=55 then some (.prod (.int .i64) (.prod (.row 26 (.row 2 (.int .i64))) (.prod (.row 26 (.row 2 (.int .i64))) (.prod (.row 26 (.row 2 (.int .i64))) (.row 26 (.row 2 (.int .i64)))))))
  else if t=69 then some (.prod (.row 2 (.int .i64)) (.row 2 (.int .i64)))
  else if t=82 then some (.prod (.row 26 (.row 2 (.int .i64))) (.prod (.row 90 (.prod (.int .i64) (.prod (.int .i64) (.prod (.int .i64) (.row 2 (.int .i64)))))) (.row 2 (.int .i64))))
  else if t=90 then some (.prod (.int .i64) (.prod (.int .i64) (.prod (.int .i64) (.row 2 (.int .i64)))))
  else if t=126 then some (.int .u64)
  else if t=128 then some (.prod (.row 5 (.int .u8)) (.prod (.int .i64) (.int .u64)))
  else if t=132 then some (.row 28 (.prod (.int .i64) (.prod (.row 26 (.row 2 (.int .i64))) (.prod (.row 90 (.prod (.int .i64) (.prod (.int .i64) (.prod (.int .i64) (.row 2 (.int .i64)))))) (.row 2 (.int .i64))))))
  else if t=147 then some (.prod (.int .i64) (.prod (.int .i64) (.prod (.int .i64) (.row 2 (.int .i64)))))
  else if t=159 then some (.prod (.prod (.int .i64) (.prod (.row 26 (.row 2 (.int .i64))) (.prod (.row 90 (.prod (.int .i64) (.prod (.int .i64) (.prod (.int .i64) (.row 2 (.int .i64)))))) (.row 2 (.int .i64))))) (.prod (.row 2 (.int .i64)) (.prod (.row 2 (.int .i64)) (.row 26 (.row 2 (.int .i64))))))
  else if t=178 then some (.row 4 (.bool))
  else if t=179 then some (.row 3 (.int .i64))
  else if t=184 then some (.int .u64)
  else if t=200 then some (.prod (.str) (.prod (.int .i64) (.prod (.int .i64) (.prod (.int .i64) (.prod (.bool) (.bool))))))
  else if t=201 then some (.row 200 (.prod (.str) (.prod (.int .i64) (.prod (.int .i64) (.prod (.int .i64) (.prod (.bool) (.bool)))))))
  else if t=207 then some (.row 69 (.prod (.row 2 (.int .i64)) (.row 2 (.int .i64))))
  else if t=228 then some (.int .u32)
  else none
theorem sz_2:szOf Tryz.prog 2=some 1:=by kernel_rfl
theorem sb_2:sbOf Tryz.prog 2=some (1,8):=by kernel_rfl
theorem zr_2:zeroOf Tryz.prog 2=some [.int .i64 0]:=by kernel_rfl
theorem sz_3:szOf Tryz.prog 3=some 1:=by kernel_rfl
theorem sb_3:sbOf Tryz.prog 3=some (1,8):=by kernel_rfl
theorem zr_3:zeroOf Tryz.prog 3=some [.int .i64 0]:=by kernel_rfl
theorem sz_4:szOf Tryz.prog 4=some 1:=by kernel_rfl
theorem sb_4:sbOf Tryz.prog 4=some (1,1):=by kernel_rfl
theorem zr_4:zeroOf Tryz.prog 4=some [.bool false]:=by kernel_rfl
theorem sz_5:szOf Tryz.prog 5=some 1:=by kernel_rfl
theorem sb_5:sbOf Tryz.prog 5=some (1,1):=by kernel_rfl
theorem zr_5:zeroOf Tryz.prog 5=some [.int .u8 0]:=by kernel_rfl
theorem sz_9:szOf Tryz.prog 9=some 1:=by kernel_rfl
theorem sb_9:sbOf Tryz.prog 9=some (1,16):=by kernel_rfl
theorem zr_9:zeroOf Tryz.prog 9=some [.string ByteArray.empty]:=by kernel_rfl
theorem sz_22:szOf Tryz.prog 22=some 1:=by kernel_rfl
theorem sb_22:sbOf Tryz.prog 22=some (1,24):=by kernel_rfl
theorem zr_22:zeroOf Tryz.prog 22=some [.slice none 0 0]:=by kernel_rfl
theorem sz_24:szOf Tryz.prog 24=some 1:=by kernel_rfl
theorem sb_24:sbOf Tryz.prog 24=some (1,24):=by kernel_rfl
theorem zr_24:zeroOf Tryz.prog 24=some [.slice none 0 0]:=by kernel_rfl
theorem sz_25:szOf Tryz.prog 25=some 1:=by kernel_rfl
theorem sb_25:sbOf Tryz.prog 25=some (1,24):=by kernel_rfl
theorem zr_25:zeroOf Tryz.prog 25=some [.slice none 0 0]:=by kernel_rfl
theorem sz_26:szOf Tryz.prog 26=some 1:=by kernel_rfl
theorem sb_26:sbOf Tryz.prog 26=some (1,24):=by kernel_rfl
theorem zr_26:zeroOf Tryz.prog 26=some [.slice none 0 0]:=by kernel_rfl
theorem sz_28:szOf Tryz.prog 28=some 4:=by kernel_rfl
theorem sb_28:sbOf Tryz.prog 28=some (4,80):=by kernel_rfl
theorem zr_28:zeroOf Tryz.prog 28=some [.int .i64 0,.slice none 0 0,.slice none 0 0,.slice none 0 0]:=by kernel_rfl
theorem pl_28:placesOf Tryz.prog 28=some [(0,1),(1,1),(2,1),(3,1)]:=by kernel_rfl
theorem sz_39:szOf Tryz.prog 39=some 1:=by kernel_rfl
theorem sb_39:sbOf Tryz.prog 39=some (1,24):=by kernel_rfl
theorem zr_39:zeroOf Tryz.prog 39=some [.slice none 0 0]:=by kernel_rfl
theorem pl_39:placesOf Tryz.prog 39=some [(0,1)]:=by kernel_rfl
theorem sz_50:szOf Tryz.prog 50=some 1:=by kernel_rfl
theorem sb_50:sbOf Tryz.prog 50=some (1,24):=by kernel_rfl
theorem zr_50:zeroOf Tryz.prog 50=some [.slice none 0 0]:=by kernel_rfl
theorem sz_52:szOf Tryz.prog 52=some 4:=by kernel_rfl
theorem sb_52:sbOf Tryz.prog 52=some (4,80):=by kernel_rfl
theorem zr_52:zeroOf Tryz.prog 52=some [.int .i64 0,.slice none 0 0,.slice none 0 0,.slice none 0 0]:=by kernel_rfl
theorem pl_52:placesOf Tryz.prog 52=some [(0,1),(1,1),(2,1),(3,1)]:=by kernel_rfl
theorem sz_55:szOf Tryz.prog 55=some 5:=by kernel_rfl
theorem sb_55:sbOf Tryz.prog 55=some (5,104):=by kernel_rfl
theorem zr_55:zeroOf Tryz.prog 55=some [.int .i64 0,.slice none 0 0,.slice none 0 0,.slice none 0 0,.slice none 0 0]:=by kernel_rfl
theorem pl_55:placesOf Tryz.prog 55=some [(0,1),(1,1),(2,1),(3,1),(4,1)]:=by kernel_rfl
theorem sz_69:szOf Tryz.prog 69=some 2:=by kernel_rfl
theorem sb_69:sbOf Tryz.prog 69=some (2,48):=by kernel_rfl
theorem zr_69:zeroOf Tryz.prog 69=some [.slice none 0 0,.slice none 0 0]:=by kernel_rfl
theorem pl_69:placesOf Tryz.prog 69=some [(0,1),(1,1)]:=by kernel_rfl
theorem sz_82:szOf Tryz.prog 82=some 3:=by kernel_rfl
theorem sb_82:sbOf Tryz.prog 82=some (3,72):=by kernel_rfl
theorem zr_82:zeroOf Tryz.prog 82=some [.slice none 0 0,.slice none 0 0,.slice none 0 0]:=by kernel_rfl
theorem pl_82:placesOf Tryz.prog 82=some [(0,1),(1,1),(2,1)]:=by kernel_rfl
theorem sz_90:szOf Tryz.prog 90=some 4:=by kernel_rfl
theorem sb_90:sbOf Tryz.prog 90=some (4,48):=by kernel_rfl
theorem zr_90:zeroOf Tryz.prog 90=some [.int .i64 0,.int .i64 0,.int .i64 0,.slice none 0 0]:=by kernel_rfl
theorem pl_90:placesOf Tryz.prog 90=some [(0,1),(1,1),(2,1),(3,1)]:=by kernel_rfl
theorem sz_126:szOf Tryz.prog 126=some 1:=by kernel_rfl
theorem sb_126:sbOf Tryz.prog 126=some (1,8):=by kernel_rfl
theorem zr_126:zeroOf Tryz.prog 126=some [.int .u64 0]:=by kernel_rfl
theorem sz_128:szOf Tryz.prog 128=some 3:=by kernel_rfl
theorem sb_128:sbOf Tryz.prog 128=some (3,40):=by kernel_rfl
theorem zr_128:zeroOf Tryz.prog 128=some [.slice none 0 0,.int .i64 0,.int .u64 0]:=by kernel_rfl
theorem pl_128:placesOf Tryz.prog 128=some [(0,1),(1,1),(2,1)]:=by kernel_rfl
theorem sz_132:szOf Tryz.prog 132=some 1:=by kernel_rfl
theorem sb_132:sbOf Tryz.prog 132=some (1,24):=by kernel_rfl
theorem zr_132:zeroOf Tryz.prog 132=some [.slice none 0 0]:=by kernel_rfl
theorem sz_147:szOf Tryz.prog 147=some 4:=by kernel_rfl
theorem sb_147:sbOf Tryz.prog 147=some (4,48):=by kernel_rfl
theorem zr_147:zeroOf Tryz.prog 147=some [.int .i64 0,.int .i64 0,.int .i64 0,.slice none 0 0]:=by kernel_rfl
theorem pl_147:placesOf Tryz.prog 147=some [(0,1),(1,1),(2,1),(3,1)]:=by kernel_rfl
theorem sz_159:szOf Tryz.prog 159=some 7:=by kernel_rfl
theorem sb_159:sbOf Tryz.prog 159=some (7,152):=by kernel_rfl
theorem zr_159:zeroOf Tryz.prog 159=some [.int .i64 0,.slice none 0 0,.slice none 0 0,.slice none 0 0,.slice none 0 0,.slice none 0 0,.slice none 0 0]:=by kernel_rfl
theorem pl_159:placesOf Tryz.prog 159=some [(0,4),(4,1),(5,1),(6,1)]:=by kernel_rfl
theorem sz_178:szOf Tryz.prog 178=some 1:=by kernel_rfl
theorem sb_178:sbOf Tryz.prog 178=some (1,24):=by kernel_rfl
theorem zr_178:zeroOf Tryz.prog 178=some [.slice none 0 0]:=by kernel_rfl
theorem sz_179:szOf Tryz.prog 179=some 1:=by kernel_rfl
theorem sb_179:sbOf Tryz.prog 179=some (1,24):=by kernel_rfl
theorem zr_179:zeroOf Tryz.prog 179=some [.slice none 0 0]:=by kernel_rfl
theorem sz_184:szOf Tryz.prog 184=some 1:=by kernel_rfl
theorem sb_184:sbOf Tryz.prog 184=some (1,8):=by kernel_rfl
theorem zr_184:zeroOf Tryz.prog 184=some [.int .u64 0]:=by kernel_rfl
theorem sz_200:szOf Tryz.prog 200=some 6:=by kernel_rfl
theorem sb_200:sbOf Tryz.prog 200=some (6,48):=by kernel_rfl
theorem zr_200:zeroOf Tryz.prog 200=some [.string ByteArray.empty,.int .i64 0,.int .i64 0,.int .i64 0,.bool false,.bool false]:=by kernel_rfl
theorem pl_200:placesOf Tryz.prog 200=some [(0,1),(1,1),(2,1),(3,1),(4,1),(5,1)]:=by kernel_rfl
theorem sz_201:szOf Tryz.prog 201=some 1:=by kernel_rfl
theorem sb_201:sbOf Tryz.prog 201=some (1,24):=by kernel_rfl
theorem zr_201:zeroOf Tryz.prog 201=some [.slice none 0 0]:=by kernel_rfl
theorem sz_207:szOf Tryz.prog 207=some 1:=by kernel_rfl
theorem sb_207:sbOf Tryz.prog 207=some (1,24):=by kernel_rfl
theorem zr_207:zeroOf Tryz.prog 207=some [.slice none 0 0]:=by kernel_rfl
theorem sz_228:szOf Tryz.prog 228=some 1:=by kernel_rfl
theorem sb_228:sbOf Tryz.prog 228=some (1,4):=by kernel_rfl
theorem zr_228:zeroOf Tryz.prog 228=some [.int .u32 0]:=by kernel_rfl
theorem sz_1:szOf Tryz.prog 1=some 1:=by kernel_rfl
theorem sz_23:szOf Tryz.prog 23=some 1:=by kernel_rfl
theorem sz_29:szOf Tryz.prog 29=some 1:=by kernel_rfl
theorem sz_31:szOf Tryz.prog 31=some 1:=by kernel_rfl
theorem sz_32:szOf Tryz.prog 32=some 1:=by kernel_rfl
theorem sz_34:szOf Tryz.prog 34=some 1:=by kernel_rfl
theorem sz_36:szOf Tryz.prog 36=some 1:=by kernel_rfl
theorem sz_37:szOf Tryz.prog 37=some 1:=by kernel_rfl
theorem sz_41:szOf Tryz.prog 41=some 1:=by kernel_rfl
theorem sz_42:szOf Tryz.prog 42=some 1:=by kernel_rfl
theorem sz_43:szOf Tryz.prog 43=some 1:=by kernel_rfl
theorem sz_45:szOf Tryz.prog 45=some 1:=by kernel_rfl
theorem sz_47:szOf Tryz.prog 47=some 1:=by kernel_rfl
theorem sz_48:szOf Tryz.prog 48=some 1:=by kernel_rfl
theorem sz_49:szOf Tryz.prog 49=some 1:=by kernel_rfl
theorem sz_53:szOf Tryz.prog 53=some 1:=by kernel_rfl
theorem sz_57:szOf Tryz.prog 57=some 1:=by kernel_rfl
theorem sz_58:szOf Tryz.prog 58=some 1:=by kernel_rfl
theorem sz_59:szOf Tryz.prog 59=some 1:=by kernel_rfl
theorem sz_60:szOf Tryz.prog 60=some 1:=by kernel_rfl
theorem sz_61:szOf Tryz.prog 61=some 1:=by kernel_rfl
theorem sz_62:szOf Tryz.prog 62=some 1:=by kernel_rfl
theorem sz_63:szOf Tryz.prog 63=some 1:=by kernel_rfl
theorem sz_64:szOf Tryz.prog 64=some 1:=by kernel_rfl
theorem sz_65:szOf Tryz.prog 65=some 1:=by kernel_rfl
theorem sz_67:szOf Tryz.prog 67=some 1:=by kernel_rfl
theorem sz_71:szOf Tryz.prog 71=some 1:=by kernel_rfl
theorem sz_72:szOf Tryz.prog 72=some 1:=by kernel_rfl
theorem sz_73:szOf Tryz.prog 73=some 1:=by kernel_rfl
theorem sz_74:szOf Tryz.prog 74=some 1:=by kernel_rfl
theorem sz_76:szOf Tryz.prog 76=some 1:=by kernel_rfl
theorem sz_77:szOf Tryz.prog 77=some 1:=by kernel_rfl
theorem sz_79:szOf Tryz.prog 79=some 1:=by kernel_rfl
theorem sz_80:szOf Tryz.prog 80=some 1:=by kernel_rfl
theorem sz_83:szOf Tryz.prog 83=some 1:=by kernel_rfl
theorem sz_84:szOf Tryz.prog 84=some 1:=by kernel_rfl
theorem sz_85:szOf Tryz.prog 85=some 1:=by kernel_rfl
theorem sz_87:szOf Tryz.prog 87=some 1:=by kernel_rfl
theorem sz_88:szOf Tryz.prog 88=some 1:=by kernel_rfl
theorem sz_91:szOf Tryz.prog 91=some 1:=by kernel_rfl
theorem sz_92:szOf Tryz.prog 92=some 1:=by kernel_rfl
theorem sz_93:szOf Tryz.prog 93=some 1:=by kernel_rfl
theorem sz_94:szOf Tryz.prog 94=some 1:=by kernel_rfl
theorem sz_95:szOf Tryz.prog 95=some 1:=by kernel_rfl
theorem sz_96:szOf Tryz.prog 96=some 1:=by kernel_rfl
theorem sz_99:szOf Tryz.prog 99=some 1:=by kernel_rfl
theorem sz_100:szOf Tryz.prog 100=some 1:=by kernel_rfl
theorem sz_101:szOf Tryz.prog 101=some 1:=by kernel_rfl
theorem sz_102:szOf Tryz.prog 102=some 1:=by kernel_rfl
theorem sz_103:szOf Tryz.prog 103=some 1:=by kernel_rfl
theorem sz_104:szOf Tryz.prog 104=some 1:=by kernel_rfl
theorem sz_105:szOf Tryz.prog 105=some 1:=by kernel_rfl
theorem sz_106:szOf Tryz.prog 106=some 1:=by kernel_rfl
theorem sz_107:szOf Tryz.prog 107=some 1:=by kernel_rfl
theorem sz_108:szOf Tryz.prog 108=some 1:=by kernel_rfl
theorem sz_109:szOf Tryz.prog 109=some 1:=by kernel_rfl
theorem sz_110:szOf Tryz.prog 110=some 1:=by kernel_rfl
theorem sz_111:szOf Tryz.prog 111=some 1:=by kernel_rfl
theorem sz_112:szOf Tryz.prog 112=some 1:=by kernel_rfl
theorem sz_113:szOf Tryz.prog 113=some 1:=by kernel_rfl
theorem sz_114:szOf Tryz.prog 114=some 1:=by kernel_rfl
theorem sz_115:szOf Tryz.prog 115=some 1:=by kernel_rfl
theorem sz_116:szOf Tryz.prog 116=some 1:=by kernel_rfl
theorem sz_117:szOf Tryz.prog 117=some 1:=by kernel_rfl
theorem sz_119:szOf Tryz.prog 119=some 1:=by kernel_rfl
theorem sz_120:szOf Tryz.prog 120=some 1:=by kernel_rfl
theorem sz_121:szOf Tryz.prog 121=some 1:=by kernel_rfl
theorem sz_122:szOf Tryz.prog 122=some 1:=by kernel_rfl
theorem sz_123:szOf Tryz.prog 123=some 1:=by kernel_rfl
theorem sz_124:szOf Tryz.prog 124=some 1:=by kernel_rfl
theorem sz_129:szOf Tryz.prog 129=some 1:=by kernel_rfl
theorem sz_130:szOf Tryz.prog 130=some 1:=by kernel_rfl
theorem sz_131:szOf Tryz.prog 131=some 1:=by kernel_rfl
theorem sz_133:szOf Tryz.prog 133=some 1:=by kernel_rfl
theorem sz_134:szOf Tryz.prog 134=some 1:=by kernel_rfl
theorem sz_135:szOf Tryz.prog 135=some 1:=by kernel_rfl
theorem sz_136:szOf Tryz.prog 136=some 1:=by kernel_rfl
theorem sz_137:szOf Tryz.prog 137=some 1:=by kernel_rfl
theorem sz_138:szOf Tryz.prog 138=some 1:=by kernel_rfl
theorem sz_139:szOf Tryz.prog 139=some 1:=by kernel_rfl
theorem sz_141:szOf Tryz.prog 141=some 1:=by kernel_rfl
theorem sz_142:szOf Tryz.prog 142=some 1:=by kernel_rfl
theorem sz_143:szOf Tryz.prog 143=some 1:=by kernel_rfl
theorem sz_144:szOf Tryz.prog 144=some 1:=by kernel_rfl
theorem sz_145:szOf Tryz.prog 145=some 1:=by kernel_rfl
theorem sz_146:szOf Tryz.prog 146=some 1:=by kernel_rfl
theorem sz_148:szOf Tryz.prog 148=some 1:=by kernel_rfl
theorem sz_149:szOf Tryz.prog 149=some 1:=by kernel_rfl
theorem sz_150:szOf Tryz.prog 150=some 1:=by kernel_rfl
theorem sz_151:szOf Tryz.prog 151=some 1:=by kernel_rfl
theorem sz_152:szOf Tryz.prog 152=some 1:=by kernel_rfl
theorem sz_154:szOf Tryz.prog 154=some 1:=by kernel_rfl
theorem sz_155:szOf Tryz.prog 155=some 1:=by kernel_rfl
theorem sz_156:szOf Tryz.prog 156=some 1:=by kernel_rfl
theorem sz_157:szOf Tryz.prog 157=some 1:=by kernel_rfl
theorem sz_160:szOf Tryz.prog 160=some 1:=by kernel_rfl
theorem sz_162:szOf Tryz.prog 162=some 1:=by kernel_rfl
theorem sz_163:szOf Tryz.prog 163=some 1:=by kernel_rfl
theorem sz_164:szOf Tryz.prog 164=some 1:=by kernel_rfl
theorem sz_165:szOf Tryz.prog 165=some 1:=by kernel_rfl
theorem sz_166:szOf Tryz.prog 166=some 1:=by kernel_rfl
theorem sz_167:szOf Tryz.prog 167=some 1:=by kernel_rfl
theorem sz_168:szOf Tryz.prog 168=some 1:=by kernel_rfl
theorem sz_169:szOf Tryz.prog 169=some 1:=by kernel_rfl
theorem sz_170:szOf Tryz.prog 170=some 1:=by kernel_rfl
theorem sz_171:szOf Tryz.prog 171=some 1:=by kernel_rfl
theorem sz_172:szOf Tryz.prog 172=some 1:=by kernel_rfl
theorem sz_173:szOf Tryz.prog 173=some 1:=by kernel_rfl
theorem sz_174:szOf Tryz.prog 174=some 1:=by kernel_rfl
theorem sz_175:szOf Tryz.prog 175=some 1:=by kernel_rfl
theorem sz_176:szOf Tryz.prog 176=some 1:=by kernel_rfl
theorem sz_177:szOf Tryz.prog 177=some 1:=by kernel_rfl
theorem sz_180:szOf Tryz.prog 180=some 1:=by kernel_rfl
theorem sz_181:szOf Tryz.prog 181=some 1:=by kernel_rfl
theorem sz_182:szOf Tryz.prog 182=some 1:=by kernel_rfl
theorem sz_183:szOf Tryz.prog 183=some 1:=by kernel_rfl
theorem sz_185:szOf Tryz.prog 185=some 1:=by kernel_rfl
theorem sz_186:szOf Tryz.prog 186=some 1:=by kernel_rfl
theorem sz_187:szOf Tryz.prog 187=some 1:=by kernel_rfl
theorem sz_188:szOf Tryz.prog 188=some 1:=by kernel_rfl
theorem sz_189:szOf Tryz.prog 189=some 1:=by kernel_rfl
theorem sz_190:szOf Tryz.prog 190=some 1:=by kernel_rfl
theorem sz_191:szOf Tryz.prog 191=some 1:=by kernel_rfl
theorem sz_193:szOf Tryz.prog 193=some 1:=by kernel_rfl
theorem sz_194:szOf Tryz.prog 194=some 1:=by kernel_rfl
theorem sz_195:szOf Tryz.prog 195=some 1:=by kernel_rfl
theorem sz_196:szOf Tryz.prog 196=some 1:=by kernel_rfl
theorem sz_197:szOf Tryz.prog 197=some 1:=by kernel_rfl
theorem sz_198:szOf Tryz.prog 198=some 1:=by kernel_rfl
theorem sz_202:szOf Tryz.prog 202=some 1:=by kernel_rfl
theorem sz_203:szOf Tryz.prog 203=some 1:=by kernel_rfl
theorem sz_204:szOf Tryz.prog 204=some 1:=by kernel_rfl
theorem sz_205:szOf Tryz.prog 205=some 1:=by kernel_rfl
theorem sz_206:szOf Tryz.prog 206=some 1:=by kernel_rfl
theorem sz_208:szOf Tryz.prog 208=some 1:=by kernel_rfl
theorem sz_209:szOf Tryz.prog 209=some 1:=by kernel_rfl
theorem sz_210:szOf Tryz.prog 210=some 1:=by kernel_rfl
theorem sz_211:szOf Tryz.prog 211=some 1:=by kernel_rfl
theorem sz_212:szOf Tryz.prog 212=some 1:=by kernel_rfl
theorem sz_213:szOf Tryz.prog 213=some 1:=by kernel_rfl
theorem sz_214:szOf Tryz.prog 214=some 1:=by kernel_rfl
theorem sz_215:szOf Tryz.prog 215=some 1:=by kernel_rfl
theorem sz_216:szOf Tryz.prog 216=some 1:=by kernel_rfl
theorem sz_217:szOf Tryz.prog 217=some 1:=by kernel_rfl
theorem sz_218:szOf Tryz.prog 218=some 1:=by kernel_rfl
theorem sz_221:szOf Tryz.prog 221=some 1:=by kernel_rfl
theorem sz_222:szOf Tryz.prog 222=some 1:=by kernel_rfl
theorem sz_223:szOf Tryz.prog 223=some 1:=by kernel_rfl
theorem sz_224:szOf Tryz.prog 224=some 1:=by kernel_rfl
theorem sz_226:szOf Tryz.prog 226=some 1:=by kernel_rfl
theorem sz_227:szOf Tryz.prog 227=some 1:=by kernel_rfl
theorem sz_229:szOf Tryz.prog 229=some 1:=by kernel_rfl
theorem sz_231:szOf Tryz.prog 231=some 1:=by kernel_rfl
theorem sz_232:szOf Tryz.prog 232=some 1:=by kernel_rfl
theorem sz_233:szOf Tryz.prog 233=some 1:=by kernel_rfl
theorem sz_235:szOf Tryz.prog 235=some 1:=by kernel_rfl
theorem sz_238:szOf Tryz.prog 238=some 1:=by kernel_rfl
theorem sz_239:szOf Tryz.prog 239=some 1:=by kernel_rfl
theorem sz_245:szOf Tryz.prog 245=some 1:=by kernel_rfl
theorem sz_248:szOf Tryz.prog 248=some 1:=by kernel_rfl
attribute [go_sem] G sz_2 sb_2 zr_2 sz_3 sb_3 zr_3 sz_4 sb_4 zr_4 sz_5 sb_5 zr_5 sz_9 sb_9 zr_9 sz_22 sb_22 zr_22 sz_24 sb_24 zr_24 sz_25 sb_25 zr_25 sz_26 sb_26 zr_26 sz_28 sb_28 zr_28 pl_28 sz_39 sb_39 zr_39 pl_39 sz_50 sb_50 zr_50 sz_52 sb_52 zr_52 pl_52 sz_55 sb_55 zr_55 pl_55 sz_69 sb_69 zr_69 pl_69 sz_82 sb_82 zr_82 pl_82 sz_90 sb_90 zr_90 pl_90 sz_126 sb_126 zr_126 sz_128 sb_128 zr_128 pl_128 sz_132 sb_132 zr_132 sz_147 sb_147 zr_147 pl_147 sz_159 sb_159 zr_159 pl_159 sz_178 sb_178 zr_178 sz_179 sb_179 zr_179 sz_184 sb_184 zr_184 sz_200 sb_200 zr_200 pl_200 sz_201 sb_201 zr_201 sz_207 sb_207 zr_207 sz_228 sb_228 zr_228 sz_1 sz_23 sz_29 sz_31 sz_32 sz_34 sz_36 sz_37 sz_41 sz_42 sz_43 sz_45 sz_47 sz_48 sz_49 sz_53 sz_57 sz_58 sz_59 sz_60 sz_61 sz_62 sz_63 sz_64 sz_65 sz_67 sz_71 sz_72 sz_73 sz_74 sz_76 sz_77 sz_79 sz_80 sz_83 sz_84 sz_85 sz_87 sz_88 sz_91 sz_92 sz_93 sz_94 sz_95 sz_96 sz_99 sz_100 sz_101 sz_102 sz_103 sz_104 sz_105 sz_106 sz_107 sz_108 sz_109 sz_110 sz_111 sz_112 sz_113 sz_114 sz_115 sz_116 sz_117 sz_119 sz_120 sz_121 sz_122 sz_123 sz_124 sz_129 sz_130 sz_131 sz_133 sz_134 sz_135 sz_136 sz_137 sz_138 sz_139 sz_141 sz_142 sz_143 sz_144 sz_145 sz_146 sz_148 sz_149 sz_150 sz_151 sz_152 sz_154 sz_155 sz_156 sz_157 sz_160 sz_162 sz_163 sz_164 sz_165 sz_166 sz_167 sz_168 sz_169 sz_170 sz_171 sz_172 sz_173 sz_174 sz_175 sz_176 sz_177 sz_180 sz_181 sz_182 sz_183 sz_185 sz_186 sz_187 sz_188 sz_189 sz_190 sz_191 sz_193 sz_194 sz_195 sz_196 sz_197 sz_198 sz_202 sz_203 sz_204 sz_205 sz_206 sz_208 sz_209 sz_210 sz_211 sz_212 sz_213 sz_214 sz_215 sz_216 sz_217 sz_218 sz_221 sz_222 sz_223 sz_224 sz_226 sz_227 sz_229 sz_231 sz_232 sz_233 sz_235 sz_238 sz_239 sz_245 sz_248
attribute [go_sem] Tryz.underlying2 Tryz.underlying3 Tryz.underlying4 Tryz.underlying5 Tryz.underlying9 Tryz.underlying22 Tryz.underlying24 Tryz.underlying25 Tryz.underlying26 Tryz.underlying28 Tryz.underlying39 Tryz.underlying50 Tryz.underlying52 Tryz.underlying55 Tryz.underlying69 Tryz.underlying82 Tryz.underlying90 Tryz.underlying126 Tryz.underlying128 Tryz.underlying132 Tryz.underlying147 Tryz.underlying159 Tryz.underlying178 Tryz.underlying179 Tryz.underlying184 Tryz.underlying200 Tryz.underlying201 Tryz.underlying207 Tryz.underlying228
theorem mixed:Tryz.prog.follows .mixedOrders=true:=by kernel_rfl
theorem oR {σ:St} {Q:Exit→St→Prop} {id:Nat} {ops:Array Oper} {T:Tab} (hT:TabOk Tryz.prog T) (bf dn dc:List (List Nat)) (hS:chkS ops.toList bf dn dc=true) (hb:decide (bf.length≤ops.toList.length)=true) (h:adraw Tryz.prog G T dn ops.toList ops.toList 0 σ [] (fun σ' rs=>chkA ops.toList.length bf dc 0 rs=true∧Q .normal σ')):AWP Tryz.prog (.region id ops true) σ Q:=AWP_draw hT mixed bf dn dc hS hb h
theorem oW {σ:St} {Q:Exit→St→Prop} {id:Nat} {ops:Array Oper} {T:Tab} (hT:TabOk Tryz.prog T) (h:aseq Tryz.prog G T ops.toList ops.toList σ (Q .normal)):AWP Tryz.prog (.region id ops false) σ Q:=AWP_region hT h
def T0:Tab:=fun _=>none
theorem T0_ok:TabOk Tryz.prog T0:=fun f k h=>by cases h
end Go.Proofs.YtflaacndokbddaaGreat
