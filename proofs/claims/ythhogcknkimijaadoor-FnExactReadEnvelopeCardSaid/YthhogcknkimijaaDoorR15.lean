/-
  Texts of this claim, joined (part 15). No condition beyond those of the theorems.
-/
import Derived.Shelf.Small.Wraps
import Derived.Shelf.Strconv.Itoa0
import Derived.Shelf.Strconv.Itoa1
import Derived.Shelf.LaysM
import Derived.Shelf.Strconv.Itoa2
import Derived.Shelf.Strconv.Itoa3
import Derived.Shelf.Strconv.Itoa4
import Derived.Shelf.Strconv.ParseIntEmpty
import Derived.Shelf.Strconv.Clone
import Derived.Shelf.Strconv.SyntaxError
import Derived.Shelf.LaysC
import Derived.Shelf.Strconv.ToError
import Derived.Shelf.Strconv.Lower
import Derived.Shelf.Strconv.ParseUint10
import Derived.Shelf.Strconv.ParseUint10Empty
import Derived.Shelf.Strconv.ParseUint10Any
import Derived.Shelf.Strconv.ParseInt10
import Derived.Shelf.Strconv.RangeError
import Derived.Shelf.Strconv.ToErrorRange
import Derived.Shelf.Strconv.ParseUintEmpty
import Derived.Shelf.Strconv.ParseUint10b64
import Derived.Shelf.Strconv.ParseUint10b32
import Derived.Shelf.Strconv.ParseUint10b16
import Derived.Shelf.Strconv.ParseUint10b8
import Derived.Shelf.Strconv.ParseUint10At
import Derived.Shelf.Strconv.ParseInt10At64
import Derived.Shelf.Strconv.ParseInt10At32
import Derived.Shelf.Strconv.ParseInt10At16
import Derived.Shelf.Strconv.ParseInt10At8
import Derived.Shelf.Strconv.ParseInt10All
import Derived.Shelf.Strconv.ParseIntPublic10
import Derived.Shelf.Strconv.ErrVarParseInt
import Derived.Shelf.Strings.Search1
import Derived.Shelf.Strings.Search2
import Derived.Shelf.Strings.Search3
import Derived.Shelf.Strings.Cut
import Derived.Shelf.Strings.Count
import Derived.Shelf.Strings.Shaped
import Derived.Shelf.Strings.Prefix
import Derived.Shelf.Strings.Split
import Derived.Shelf.Strings.SplitShaped
import Derived.Shelf.Unicode.DecodeSlow
import Derived.Test.YthhogcknkimijaaDoorProg
namespace Go.Proofs
open Go.Shelf
def Tryd.lays103_ren:Go.Shelf.Ren:=⟨fun|103=>57|210=>70|206=>69|n=>n,fun|9=>9|4=>4|24=>82|3=>3|n=>n,fun|n=>n⟩
theorem Tryd.lays103:Go.Proofs.Lays.n103 Tryd.prog Tryd.lays103_ren:={
  mixed:=by kernel_rfl
  f103:=Tryd.func57.trans (congrArg some (by kernel_rfl))
  f206:=Tryd.func69.trans (congrArg some (by kernel_rfl))
  f210:=Tryd.func70.trans (congrArg some (by kernel_rfl))
  t3:=Tryd.underlying3
  a3:=Tryd.isAgg3
  z3:=Tryd.sizeOf3
  v3:=Tryd.zeroValue3
  t4:=Tryd.underlying4
  a4:=Tryd.isAgg4
  z4:=Tryd.sizeOf4
  v4:=Tryd.zeroValue4
  t9:=Tryd.underlying9
  a9:=Tryd.isAgg9
  z9:=Tryd.sizeOf9
  v9:=Tryd.zeroValue9
  t24:=Tryd.underlying82
  a24:=Tryd.isAgg82
  z24:=Tryd.sizeOf82
  v24:=Tryd.zeroValue82 }
open Go.RowKit in
theorem Tryd.strings_CutPrefix (s p:ByteArray) (w:World) :
    Calls Tryd.prog 57 #[.string s,.string p] w fun e w'=>e=.returned (.tuple #[.string ⟨(Lib.trimPrefix s.data.toList p.data.toList).toArray⟩,.bool (Lib.hasPrefix s.data.toList p.data.toList)])∧w'=w:=Any.strings_CutPrefix Tryd.lays103 s p w
def Tryd.laysM173_ren:Go.Shelf.Ren:=⟨fun|173=>52|246=>65|283=>74|284=>75|285=>76|286=>77|129=>88|317=>87|318=>89|319=>90|320=>91|337=>104|338=>105|n=>n,fun|2=>2|3=>3|9=>9|4=>4|171=>100|0=>0|53=>88|37=>37|5=>5|173=>103|212=>116|51=>117|20=>20|213=>118|46=>110|232=>137|233=>138|n=>n,fun|17=>0|18=>4|19=>5|n=>n⟩
theorem Tryd.laysM173:Go.Proofs.LaysM.n173 Tryd.prog Tryd.laysM173_ren:={
  mixed:=by kernel_rfl
  f129:=Tryd.func88.trans (congrArg some (by kernel_rfl))
  f173:=Tryd.func52.trans (congrArg some (by kernel_rfl))
  f246:=Tryd.func65.trans (congrArg some (by kernel_rfl))
  f283:=Tryd.func74.trans (congrArg some (by kernel_rfl))
  f284:=Tryd.func75.trans (congrArg some (by kernel_rfl))
  f285:=Tryd.func76.trans (congrArg some (by kernel_rfl))
  f286:=Tryd.func77.trans (congrArg some (by kernel_rfl))
  f317:=Tryd.func87.trans (congrArg some (by kernel_rfl))
  f318:=Tryd.func89.trans (congrArg some (by kernel_rfl))
  f319:=Tryd.func90.trans (congrArg some (by kernel_rfl))
  f320:=Tryd.func91.trans (congrArg some (by kernel_rfl))
  f337:=Tryd.func104.trans (congrArg some (by kernel_rfl))
  f338:=Tryd.func105.trans (congrArg some (by kernel_rfl))
  t0:=Tryd.underlying0
  a0:=Tryd.isAgg0
  z0:=Tryd.sizeOf0
  v0:=Tryd.zeroValue0
  t2:=Tryd.underlying2
  a2:=Tryd.isAgg2
  z2:=Tryd.sizeOf2
  v2:=Tryd.zeroValue2
  t3:=Tryd.underlying3
  a3:=Tryd.isAgg3
  z3:=Tryd.sizeOf3
  v3:=Tryd.zeroValue3
  t4:=Tryd.underlying4
  a4:=Tryd.isAgg4
  z4:=Tryd.sizeOf4
  v4:=Tryd.zeroValue4
  t5:=Tryd.underlying5
  a5:=Tryd.isAgg5
  z5:=Tryd.sizeOf5
  v5:=Tryd.zeroValue5
  t9:=Tryd.underlying9
  a9:=Tryd.isAgg9
  z9:=Tryd.sizeOf9
  v9:=Tryd.zeroValue9
  t20:=Tryd.underlying20
  a20:=Tryd.isAgg20
  z20:=Tryd.sizeOf20
  v20:=Tryd.zeroValue20
  t37:=Tryd.underlying37
  a37:=Tryd.isAgg37
  z37:=Tryd.sizeOf37
  v37:=Tryd.zeroValue37
  t46:=Tryd.underlying110
  a46:=Tryd.isAgg110
  z46:=Tryd.sizeOf110
  v46:=Tryd.zeroValue110
  t51:=Tryd.underlying117
  a51:=Tryd.isAgg117
  z51:=Tryd.sizeOf117
  v51:=Tryd.zeroValue117
  t53:=Tryd.underlying88
  a53:=Tryd.isAgg88
  z53:=Tryd.sizeOf88
  v53:=Tryd.zeroValue88
  t171:=Tryd.underlying100
  a171:=Tryd.isAgg100
  z171:=Tryd.sizeOf100
  v171:=Tryd.zeroValue100
  t173:=Tryd.underlying103
  a173:=Tryd.isAgg103
  z173:=Tryd.sizeOf103
  v173:=Tryd.zeroValue103
  t212:=Tryd.underlying116
  a212:=Tryd.isAgg116
  z212:=Tryd.sizeOf116
  v212:=Tryd.zeroValue116
  t213:=Tryd.underlying118
  a213:=Tryd.isAgg118
  z213:=Tryd.sizeOf118
  t232:=Tryd.underlying137
  a232:=Tryd.isAgg137
  z232:=Tryd.sizeOf137
  v232:=Tryd.zeroValue137
  t233:=Tryd.underlying138
  a233:=Tryd.isAgg138
  z233:=Tryd.sizeOf138
  v233:=Tryd.zeroValue138
  g17:=by kernel_rfl
  g18:=by kernel_rfl
  g19:=by kernel_rfl
  i0:=by kernel_rfl
  i2:=by kernel_rfl
  i3:=by kernel_rfl
  i4:=by kernel_rfl
  i5:=by kernel_rfl
  i9:=by kernel_rfl
  i20:=by kernel_rfl
  i37:=by kernel_rfl
  i46:=by kernel_rfl
  i51:=by kernel_rfl
  i53:=by kernel_rfl
  i171:=by kernel_rfl
  i173:=by kernel_rfl
  i212:=by kernel_rfl
  i232:=by kernel_rfl
  i233:=by kernel_rfl
  m17:=by kernel_rfl
  m18:=by kernel_rfl
  m19:=by kernel_rfl }
open Go.RowKit Go.Sort Go.Lib in
theorem Tryd.strconv_FormatInt_10 (n : Int) (h0 : -9223372036854775808 ≤ n) (h1 : n ≤ 9223372036854775807) (w : World) (htab : Lib.TabIs Tryd.prog w "internal/strconv.uint64pow10" .u64 Lib.pow10Tab) :
    Calls Tryd.prog 52 #[.int .i64 n,.int .i64 10] w fun e w'=>e=.returned (.string ⟨(Lib.itoa n).toArray⟩)∧∃k os,w'=grow (w.drewN k) os:=Any.strconv_FormatInt_10 Tryd.laysM173 n h0 h1 w htab
def Tryd.laysC174_ren:Go.Shelf.Ren:=⟨fun|174=>55|247=>67|245=>68|287=>81|279=>82|280=>83|281=>84|282=>85|321=>95|322=>96|316=>97|171=>99|205=>98|243=>107|246=>65|283=>74|284=>75|285=>76|286=>77|129=>88|317=>87|318=>89|319=>90|320=>91|337=>104|338=>105|n=>n,fun|9=>9|3=>3|2=>2|75=>79|85=>80|4=>4|167=>107|5=>5|53=>88|175=>108|46=>110|168=>111|37=>37|0=>0|210=>128|21=>21|127=>131|145=>134|143=>132|171=>100|173=>103|212=>116|51=>117|20=>20|213=>118|232=>137|233=>138|80=>143|n=>n,fun|15=>1|16=>2|17=>0|18=>4|19=>5|n=>n⟩
theorem Tryd.laysC174:Go.Proofs.LaysC.n174 Tryd.prog Tryd.laysC174_ren:={
  mixed:=by kernel_rfl
  f129:=Tryd.func88.trans (congrArg some (by kernel_rfl))
  f171:=Tryd.func99.trans (congrArg some (by kernel_rfl))
  f174:=Tryd.func55.trans (congrArg some (by kernel_rfl))
  f205:=Tryd.func98.trans (congrArg some (by kernel_rfl))
  f243:=Tryd.func107.trans (congrArg some (by kernel_rfl))
  f245:=Tryd.func68.trans (congrArg some (by kernel_rfl))
  f246:=Tryd.func65.trans (congrArg some (by kernel_rfl))
  f247:=Tryd.func67.trans (congrArg some (by kernel_rfl))
  f279:=Tryd.func82.trans (congrArg some (by kernel_rfl))
  f280:=Tryd.func83.trans (congrArg some (by kernel_rfl))
  f281:=Tryd.func84.trans (congrArg some (by kernel_rfl))
  f282:=Tryd.func85.trans (congrArg some (by kernel_rfl))
  f283:=Tryd.func74.trans (congrArg some (by kernel_rfl))
  f284:=Tryd.func75.trans (congrArg some (by kernel_rfl))
  f285:=Tryd.func76.trans (congrArg some (by kernel_rfl))
  f286:=Tryd.func77.trans (congrArg some (by kernel_rfl))
  f287:=Tryd.func81.trans (congrArg some (by kernel_rfl))
  f316:=Tryd.func97.trans (congrArg some (by kernel_rfl))
  f317:=Tryd.func87.trans (congrArg some (by kernel_rfl))
  f318:=Tryd.func89.trans (congrArg some (by kernel_rfl))
  f319:=Tryd.func90.trans (congrArg some (by kernel_rfl))
  f320:=Tryd.func91.trans (congrArg some (by kernel_rfl))
  f321:=Tryd.func95.trans (congrArg some (by kernel_rfl))
  f322:=Tryd.func96.trans (congrArg some (by kernel_rfl))
  f337:=Tryd.func104.trans (congrArg some (by kernel_rfl))
  f338:=Tryd.func105.trans (congrArg some (by kernel_rfl))
  t0:=Tryd.underlying0
  a0:=Tryd.isAgg0
  z0:=Tryd.sizeOf0
  v0:=Tryd.zeroValue0
  t2:=Tryd.underlying2
  a2:=Tryd.isAgg2
  z2:=Tryd.sizeOf2
  v2:=Tryd.zeroValue2
  t3:=Tryd.underlying3
  a3:=Tryd.isAgg3
  z3:=Tryd.sizeOf3
  v3:=Tryd.zeroValue3
  t4:=Tryd.underlying4
  a4:=Tryd.isAgg4
  z4:=Tryd.sizeOf4
  v4:=Tryd.zeroValue4
  t5:=Tryd.underlying5
  a5:=Tryd.isAgg5
  z5:=Tryd.sizeOf5
  v5:=Tryd.zeroValue5
  t9:=Tryd.underlying9
  a9:=Tryd.isAgg9
  z9:=Tryd.sizeOf9
  v9:=Tryd.zeroValue9
  t20:=Tryd.underlying20
  a20:=Tryd.isAgg20
  z20:=Tryd.sizeOf20
  v20:=Tryd.zeroValue20
  t21:=Tryd.underlying21
  a21:=Tryd.isAgg21
  z21:=Tryd.sizeOf21
  v21:=Tryd.zeroValue21
  t37:=Tryd.underlying37
  a37:=Tryd.isAgg37
  z37:=Tryd.sizeOf37
  v37:=Tryd.zeroValue37
  t46:=Tryd.underlying110
  a46:=Tryd.isAgg110
  z46:=Tryd.sizeOf110
  v46:=Tryd.zeroValue110
  t51:=Tryd.underlying117
  a51:=Tryd.isAgg117
  z51:=Tryd.sizeOf117
  v51:=Tryd.zeroValue117
  t53:=Tryd.underlying88
  a53:=Tryd.isAgg88
  z53:=Tryd.sizeOf88
  v53:=Tryd.zeroValue88
  t75:=Tryd.underlying79
  a75:=Tryd.isAgg79
  z75:=Tryd.sizeOf79
  v75:=Tryd.zeroValue79
  t85:=Tryd.underlying80
  a85:=Tryd.isAgg80
  z85:=Tryd.sizeOf80
  v85:=Tryd.zeroValue80
  t127:=Tryd.underlying131
  a127:=Tryd.isAgg131
  z127:=Tryd.sizeOf131
  v127:=Tryd.zeroValue131
  t143:=Tryd.underlying132
  a143:=Tryd.isAgg132
  z143:=Tryd.sizeOf132
  v143:=Tryd.zeroValue132
  t145:=Tryd.underlying134
  a145:=Tryd.isAgg134
  z145:=Tryd.sizeOf134
  v145:=Tryd.zeroValue134
  t167:=Tryd.underlying107
  a167:=Tryd.isAgg107
  z167:=Tryd.sizeOf107
  v167:=Tryd.zeroValue107
  t168:=Tryd.underlying111
  a168:=Tryd.isAgg111
  z168:=Tryd.sizeOf111
  v168:=Tryd.zeroValue111
  t171:=Tryd.underlying100
  a171:=Tryd.isAgg100
  z171:=Tryd.sizeOf100
  v171:=Tryd.zeroValue100
  t173:=Tryd.underlying103
  a173:=Tryd.isAgg103
  z173:=Tryd.sizeOf103
  v173:=Tryd.zeroValue103
  t175:=Tryd.underlying108
  a175:=Tryd.isAgg108
  z175:=Tryd.sizeOf108
  v175:=Tryd.zeroValue108
  t210:=Tryd.underlying128
  a210:=Tryd.isAgg128
  z210:=Tryd.sizeOf128
  v210:=Tryd.zeroValue128
  t212:=Tryd.underlying116
  a212:=Tryd.isAgg116
  z212:=Tryd.sizeOf116
  v212:=Tryd.zeroValue116
  t213:=Tryd.underlying118
  a213:=Tryd.isAgg118
  z213:=Tryd.sizeOf118
  t232:=Tryd.underlying137
  a232:=Tryd.isAgg137
  z232:=Tryd.sizeOf137
  v232:=Tryd.zeroValue137
  t233:=Tryd.underlying138
  a233:=Tryd.isAgg138
  z233:=Tryd.sizeOf138
  v233:=Tryd.zeroValue138
  g15:=by kernel_rfl
  g16:=by kernel_rfl
  g17:=by kernel_rfl
  g18:=by kernel_rfl
  g19:=by kernel_rfl
  t80:=Tryd.underlying143
  a80:=Tryd.isAgg143
  z80:=Tryd.sizeOf143
  v80:=Tryd.zeroValue143
  i0:=by kernel_rfl
  i2:=by kernel_rfl
  i3:=by kernel_rfl
  i4:=by kernel_rfl
  i5:=by kernel_rfl
  i9:=by kernel_rfl
  i20:=by kernel_rfl
  i21:=by kernel_rfl
  i37:=by kernel_rfl
  i46:=by kernel_rfl
  i51:=by kernel_rfl
  i53:=by kernel_rfl
  i75:=by kernel_rfl
  i80:=by kernel_rfl
  i85:=by kernel_rfl
  i127:=by kernel_rfl
  i143:=by kernel_rfl
  i145:=by kernel_rfl
  i167:=by kernel_rfl
  i168:=by kernel_rfl
  i171:=by kernel_rfl
  i173:=by kernel_rfl
  i175:=by kernel_rfl
  i210:=by kernel_rfl
  i212:=by kernel_rfl
  i232:=by kernel_rfl
  i233:=by kernel_rfl
  m15:=by kernel_rfl
  m16:=by kernel_rfl
  m17:=by kernel_rfl
  m18:=by kernel_rfl
  m19:=by kernel_rfl
  c0:=by kernel_rfl
  c2:=by kernel_rfl
  c3:=by kernel_rfl
  c4:=by kernel_rfl
  c5:=by kernel_rfl
  c9:=by kernel_rfl
  c20:=by kernel_rfl
  c21:=by kernel_rfl
  c37:=by kernel_rfl
  c46:=by kernel_rfl
  c51:=by kernel_rfl
  c53:=by kernel_rfl
  c75:=by kernel_rfl
  c80:=by kernel_rfl
  c85:=by kernel_rfl
  c127:=by kernel_rfl
  c143:=by kernel_rfl
  c145:=by kernel_rfl
  c167:=by kernel_rfl
  c168:=by kernel_rfl
  c171:=by kernel_rfl
  c173:=by kernel_rfl
  c175:=by kernel_rfl
  c210:=by kernel_rfl
  c212:=by kernel_rfl
  c213:=by kernel_rfl
  c232:=by kernel_rfl
  c233:=by kernel_rfl }
open Go.RowKit in
theorem Tryd.strconv_ParseInt_10_at64_ok (s:ByteArray) (hmax:s.size≤9223372036854775806) (v:Int) (h:Lib.parseIntB 64 s.data.toList=.ok v) (w:World) :
    Calls Tryd.prog 55 #[.string s,.int .i64 10,.int .i64 64] w fun e w'=>e=.returned (.tuple #[.int .i64 v,.nilIface])∧(w'=w∨∃t,w'=Lib.bytesWorld w 5 t):=Any.strconv_ParseInt_10_at64_ok Tryd.laysC174 s hmax v h w
open Go.RowKit in
theorem Tryd.strconv_ParseInt_10_at64_syntax (s:ByteArray) (hlim:s.size≤281474976710656) (h:Lib.parseIntB 64 s.data.toList=Lib.parseIntB 64 []) (ev:Value) (w:World) (hv:w.cell? ⟨1,0,none⟩=some ev) (hev:ev=.nilIface∨∃te pe,ev=.iface te pe) :
    Calls Tryd.prog 55 #[.string s,.int .i64 10,.int .i64 64] w fun e w'=>∃N,e=.returned (.tuple #[.int .i64 (0),.iface 111 (.pointer (some ⟨N,0,none⟩))])∧w.heap.size≤N∧w'.heap[N]?=some (.cells #[.string ⟨#[80,97,114,115,101,73,110,116]⟩,.string s,ev] 128 (0,0))∧Below w.heap.size w w':=Any.strconv_ParseInt_10_at64_syntax Tryd.laysC174 s hlim h ev w hv hev
open Go.RowKit in
theorem Tryd.strconv_ParseInt_10_at64_range (s:ByteArray) (hlim:s.size≤281474976710656) (h:Lib.parseIntB 64 s.data.toList=.range) (ev:Value) (w:World) (hv:w.cell? ⟨2,0,none⟩=some ev) (hev:ev=.nilIface∨∃te pe,ev=.iface te pe) :
    Calls Tryd.prog 55 #[.string s,.int .i64 10,.int .i64 64] w fun e w'=>∃N,e=.returned (.tuple #[.int .i64 (Lib.intSat 64 s.data.toList),.iface 111 (.pointer (some ⟨N,0,none⟩))])∧w.heap.size≤N∧w'.heap[N]?=some (.cells #[.string ⟨#[80,97,114,115,101,73,110,116]⟩,.string s,ev] 128 (0,0))∧Below w.heap.size w w':=Any.strconv_ParseInt_10_at64_range Tryd.laysC174 s hlim h ev w hv hev
def Tryd.lays145_ren:Go.Shelf.Ren:=⟨fun|145=>58|220=>71|219=>86|217=>100|225=>101|224=>102|267=>103|266=>108|314=>109|n=>n,fun|9=>9|4=>4|59=>84|3=>3|5=>5|46=>110|146=>135|51=>117|n=>n,fun|1=>3|n=>n⟩
theorem Tryd.lays145:Go.Proofs.Lays.n145 Tryd.prog Tryd.lays145_ren:={
  mixed:=by kernel_rfl
  f145:=Tryd.func58.trans (congrArg some (by kernel_rfl))
  f217:=Tryd.func100.trans (congrArg some (by kernel_rfl))
  f219:=Tryd.func86.trans (congrArg some (by kernel_rfl))
  f220:=Tryd.func71.trans (congrArg some (by kernel_rfl))
  f224:=Tryd.func102.trans (congrArg some (by kernel_rfl))
  f225:=Tryd.func101.trans (congrArg some (by kernel_rfl))
  f266:=Tryd.func108.trans (congrArg some (by kernel_rfl))
  f267:=Tryd.func103.trans (congrArg some (by kernel_rfl))
  f314:=Tryd.func109.trans (congrArg some (by kernel_rfl))
  t3:=Tryd.underlying3
  a3:=Tryd.isAgg3
  z3:=Tryd.sizeOf3
  v3:=Tryd.zeroValue3
  t4:=Tryd.underlying4
  a4:=Tryd.isAgg4
  z4:=Tryd.sizeOf4
  v4:=Tryd.zeroValue4
  t5:=Tryd.underlying5
  a5:=Tryd.isAgg5
  z5:=Tryd.sizeOf5
  v5:=Tryd.zeroValue5
  t9:=Tryd.underlying9
  a9:=Tryd.isAgg9
  z9:=Tryd.sizeOf9
  v9:=Tryd.zeroValue9
  t46:=Tryd.underlying110
  a46:=Tryd.isAgg110
  z46:=Tryd.sizeOf110
  v46:=Tryd.zeroValue110
  t51:=Tryd.underlying117
  a51:=Tryd.isAgg117
  z51:=Tryd.sizeOf117
  v51:=Tryd.zeroValue117
  t59:=Tryd.underlying84
  a59:=Tryd.isAgg84
  z59:=Tryd.sizeOf84
  v59:=Tryd.zeroValue84
  t146:=Tryd.underlying135
  a146:=Tryd.isAgg135
  z146:=Tryd.sizeOf135
  v146:=Tryd.zeroValue135
  g1:=by kernel_rfl }
open Go.RowKit Go.Lib in
theorem Tryd.strings_Cut (s sep:ByteArray) (m:Int) (w:World) (hs:s.size < 4294967281) (hm:w.cell? ⟨3,0,none⟩=some (.int .i64 m)) :
    Calls Tryd.prog 58 #[.string s,.string sep] w fun e w'=>e=.returned (.tuple #[.string ⟨(Lib.cut s.data.toList sep.data.toList).1.toArray⟩,.string ⟨(Lib.cut s.data.toList sep.data.toList).2.1.toArray⟩,.bool (Lib.cut s.data.toList sep.data.toList).2.2])∧∃n,w'=w.drewN n:=Any.strings_Cut Tryd.lays145 s sep m w hs hm
def Tryd.lays101_ren:Go.Shelf.Ren:=⟨fun|101=>35|208=>56|206=>69|n=>n,fun|9=>9|4=>4|3=>3|n=>n,fun|n=>n⟩
theorem Tryd.lays101:Go.Proofs.Lays.n101 Tryd.prog Tryd.lays101_ren:={
  mixed:=by kernel_rfl
  f101:=Tryd.func35.trans (congrArg some (by kernel_rfl))
  f206:=Tryd.func69.trans (congrArg some (by kernel_rfl))
  f208:=Tryd.func56.trans (congrArg some (by kernel_rfl))
  t3:=Tryd.underlying3
  a3:=Tryd.isAgg3
  z3:=Tryd.sizeOf3
  v3:=Tryd.zeroValue3
  t4:=Tryd.underlying4
  a4:=Tryd.isAgg4
  z4:=Tryd.sizeOf4
  v4:=Tryd.zeroValue4
  t9:=Tryd.underlying9
  a9:=Tryd.isAgg9
  z9:=Tryd.sizeOf9
  v9:=Tryd.zeroValue9 }
open Go.RowKit Go.Lib in
theorem Tryd.strings_TrimPrefix (s p:ByteArray) (w:World) :
    Calls Tryd.prog 35 #[.string s,.string p] w fun e w'=>e=.returned (.string ⟨(Lib.trimPrefix s.data.toList p.data.toList).toArray⟩)∧w'=w:=Any.strings_TrimPrefix Tryd.lays101 s p w
def Tryd.lays146_ren:Go.Shelf.Ren:=⟨fun|146=>54|221=>66|268=>78|138=>79|143=>80|195=>92|197=>93|218=>94|219=>86|260=>106|217=>100|225=>101|224=>102|267=>103|266=>108|314=>109|n=>n,fun|9=>9|31=>57|3=>3|4=>4|0=>0|105=>122|21=>21|5=>5|46=>110|119=>139|139=>142|138=>141|146=>135|51=>117|n=>n,fun|1=>3|3=>6|4=>7|n=>n⟩
theorem Tryd.lays146:Go.Proofs.Lays.n146 Tryd.prog Tryd.lays146_ren:={
  mixed:=by kernel_rfl
  f138:=Tryd.func79.trans (congrArg some (by kernel_rfl))
  f143:=Tryd.func80.trans (congrArg some (by kernel_rfl))
  f146:=Tryd.func54.trans (congrArg some (by kernel_rfl))
  f195:=Tryd.func92.trans (congrArg some (by kernel_rfl))
  f197:=Tryd.func93.trans (congrArg some (by kernel_rfl))
  f217:=Tryd.func100.trans (congrArg some (by kernel_rfl))
  f218:=Tryd.func94.trans (congrArg some (by kernel_rfl))
  f219:=Tryd.func86.trans (congrArg some (by kernel_rfl))
  f221:=Tryd.func66.trans (congrArg some (by kernel_rfl))
  f224:=Tryd.func102.trans (congrArg some (by kernel_rfl))
  f225:=Tryd.func101.trans (congrArg some (by kernel_rfl))
  f260:=Tryd.func106.trans (congrArg some (by kernel_rfl))
  f266:=Tryd.func108.trans (congrArg some (by kernel_rfl))
  f267:=Tryd.func103.trans (congrArg some (by kernel_rfl))
  f268:=Tryd.func78.trans (congrArg some (by kernel_rfl))
  f314:=Tryd.func109.trans (congrArg some (by kernel_rfl))
  t0:=Tryd.underlying0
  a0:=Tryd.isAgg0
  z0:=Tryd.sizeOf0
  v0:=Tryd.zeroValue0
  t3:=Tryd.underlying3
  a3:=Tryd.isAgg3
  z3:=Tryd.sizeOf3
  v3:=Tryd.zeroValue3
  t4:=Tryd.underlying4
  a4:=Tryd.isAgg4
  z4:=Tryd.sizeOf4
  v4:=Tryd.zeroValue4
  t5:=Tryd.underlying5
  a5:=Tryd.isAgg5
  z5:=Tryd.sizeOf5
  v5:=Tryd.zeroValue5
  t9:=Tryd.underlying9
  a9:=Tryd.isAgg9
  z9:=Tryd.sizeOf9
  v9:=Tryd.zeroValue9
  t21:=Tryd.underlying21
  a21:=Tryd.isAgg21
  z21:=Tryd.sizeOf21
  v21:=Tryd.zeroValue21
  t31:=Tryd.underlying57
  a31:=Tryd.isAgg57
  z31:=Tryd.sizeOf57
  v31:=Tryd.zeroValue57
  t46:=Tryd.underlying110
  a46:=Tryd.isAgg110
  z46:=Tryd.sizeOf110
  v46:=Tryd.zeroValue110
  t51:=Tryd.underlying117
  a51:=Tryd.isAgg117
  z51:=Tryd.sizeOf117
  v51:=Tryd.zeroValue117
  t105:=Tryd.underlying122
  a105:=Tryd.isAgg122
  z105:=Tryd.sizeOf122
  v105:=Tryd.zeroValue122
  t119:=Tryd.underlying139
  a119:=Tryd.isAgg139
  z119:=Tryd.sizeOf139
  t138:=Tryd.underlying141
  a138:=Tryd.isAgg141
  z138:=Tryd.sizeOf141
  v138:=Tryd.zeroValue141
  t139:=Tryd.underlying142
  a139:=Tryd.isAgg142
  z139:=Tryd.sizeOf142
  v139:=Tryd.zeroValue142
  t146:=Tryd.underlying135
  a146:=Tryd.isAgg135
  z146:=Tryd.sizeOf135
  v146:=Tryd.zeroValue135
  g1:=by kernel_rfl
  g3:=by kernel_rfl
  g4:=by kernel_rfl }
open Go.RowKit Go.Lib in
theorem Tryd.strings_Split (s sep:ByteArray) (m:Int) (w:World) (hs:s.size < 4294967281) (hm:w.cell? ⟨3,0,none⟩=some (.int .i64 m)) (h1:1≤sep.size) :
    Calls Tryd.prog 54 #[.string s,.string sep] w fun e w' =>
      e=.returned (.slice (some ⟨w.heap.size,0,none⟩) (Lib.countB s sep+1) (Lib.countB s sep+1))∧w'=w.alloc (.cells ((Lib.splitB sep 0 (Lib.countB s sep) s).map Value.string).toArray 9):=Any.strings_Split Tryd.lays146 (by kernel_rfl) s sep m w hs hm h1
end Go.Proofs
