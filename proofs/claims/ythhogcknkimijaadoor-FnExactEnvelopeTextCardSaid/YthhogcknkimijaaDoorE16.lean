/-
  Texts of this claim, joined (part 16). No condition beyond those of the theorems.
-/
import Derived.Shelf.Small.Wraps
import Derived.Shelf.Strconv.Itoa0
import Derived.Shelf.Strconv.Itoa1
import Derived.Shelf.LaysM
import Derived.Shelf.Strconv.Itoa2
import Derived.Shelf.Strconv.Itoa3
import Derived.Shelf.Strconv.Itoa4
import Derived.Shelf.Strconv.ParseIntEmpty
import Derived.Shelf.Strconv.Clone
import Derived.Shelf.Strconv.SyntaxError
import Derived.Shelf.LaysC
import Derived.Shelf.Strconv.ToError
import Derived.Shelf.Strconv.Lower
import Derived.Shelf.Strconv.ParseUint10
import Derived.Shelf.Strconv.ParseUint10Empty
import Derived.Shelf.Strconv.ParseUint10Any
import Derived.Shelf.Strconv.ParseInt10
import Derived.Shelf.Strconv.RangeError
import Derived.Shelf.Strconv.ToErrorRange
import Derived.Shelf.Strconv.ParseUintEmpty
import Derived.Shelf.Strconv.ParseUint10b64
import Derived.Shelf.Strconv.ParseUint10b32
import Derived.Shelf.Strconv.ParseUint10b16
import Derived.Shelf.Strconv.ParseUint10b8
import Derived.Shelf.Strconv.ParseUint10At
import Derived.Shelf.Strconv.ParseInt10At64
import Derived.Shelf.Strconv.ParseInt10At32
import Derived.Shelf.Strconv.ParseInt10At16
import Derived.Shelf.Strconv.ParseInt10At8
import Derived.Shelf.Strconv.ParseInt10All
import Derived.Shelf.Strconv.ParseIntPublic10
import Derived.Shelf.Strconv.ErrVarParseInt
import Derived.Shelf.Strings.Search1
import Derived.Shelf.Strings.Search2
import Derived.Shelf.Strings.Search3
import Derived.Shelf.Strings.Cut
import Derived.Shelf.Strings.Count
import Derived.Shelf.Strings.Shaped
import Derived.Shelf.Strings.Prefix
import Derived.Shelf.Strings.Split
import Derived.Shelf.Strings.SplitShaped
import Derived.Shelf.Unicode.DecodeSlow
import Derived.Test.YthhogcknkimijaaDoorProg
namespace Go.Proofs
open Go.Shelf
def Tryd.laysM173_ren:Go.Shelf.Ren:=⟨fun|173=>52|246=>65|283=>74|284=>75|285=>76|286=>77|129=>88|317=>87|318=>89|319=>90|320=>91|337=>104|338=>105|n=>n,fun|2=>2|3=>3|9=>9|4=>4|171=>100|0=>0|53=>88|37=>37|5=>5|173=>103|212=>116|51=>117|20=>20|213=>118|46=>110|232=>137|233=>138|n=>n,fun|17=>0|18=>4|19=>5|n=>n⟩
theorem Tryd.laysM173:Go.Proofs.LaysM.n173 Tryd.prog Tryd.laysM173_ren:={
  mixed:=by kernel_rfl
  f129:=Tryd.func88.trans (congrArg some (by kernel_rfl))
  f173:=Tryd.func52.trans (congrArg some (by kernel_rfl))
  f246:=Tryd.func65.trans (congrArg some (by kernel_rfl))
  f283:=Tryd.func74.trans (congrArg some (by kernel_rfl))
  f284:=Tryd.func75.trans (congrArg some (by kernel_rfl))
  f285:=Tryd.func76.trans (congrArg some (by kernel_rfl))
  f286:=Tryd.func77.trans (congrArg some (by kernel_rfl))
  f317:=Tryd.func87.trans (congrArg some (by kernel_rfl))
  f318:=Tryd.func89.trans (congrArg some (by kernel_rfl))
  f319:=Tryd.func90.trans (congrArg some (by kernel_rfl))
  f320:=Tryd.func91.trans (congrArg some (by kernel_rfl))
  f337:=Tryd.func104.trans (congrArg some (by kernel_rfl))
  f338:=Tryd.func105.trans (congrArg some (by kernel_rfl))
  t0:=Tryd.underlying0
  a0:=Tryd.isAgg0
  z0:=Tryd.sizeOf0
  v0:=Tryd.zeroValue0
  t2:=Tryd.underlying2
  a2:=Tryd.isAgg2
  z2:=Tryd.sizeOf2
  v2:=Tryd.zeroValue2
  t3:=Tryd.underlying3
  a3:=Tryd.isAgg3
  z3:=Tryd.sizeOf3
  v3:=Tryd.zeroValue3
  t4:=Tryd.underlying4
  a4:=Tryd.isAgg4
  z4:=Tryd.sizeOf4
  v4:=Tryd.zeroValue4
  t5:=Tryd.underlying5
  a5:=Tryd.isAgg5
  z5:=Tryd.sizeOf5
  v5:=Tryd.zeroValue5
  t9:=Tryd.underlying9
  a9:=Tryd.isAgg9
  z9:=Tryd.sizeOf9
  v9:=Tryd.zeroValue9
  t20:=Tryd.underlying20
  a20:=Tryd.isAgg20
  z20:=Tryd.sizeOf20
  v20:=Tryd.zeroValue20
  t37:=Tryd.underlying37
  a37:=Tryd.isAgg37
  z37:=Tryd.sizeOf37
  v37:=Tryd.zeroValue37
  t46:=Tryd.underlying110
  a46:=Tryd.isAgg110
  z46:=Tryd.sizeOf110
  v46:=Tryd.zeroValue110
  t51:=Tryd.underlying117
  a51:=Tryd.isAgg117
  z51:=Tryd.sizeOf117
  v51:=Tryd.zeroValue117
  t53:=Tryd.underlying88
  a53:=Tryd.isAgg88
  z53:=Tryd.sizeOf88
  v53:=Tryd.zeroValue88
  t171:=Tryd.underlying100
  a171:=Tryd.isAgg100
  z171:=Tryd.sizeOf100
  v171:=Tryd.zeroValue100
  t173:=Tryd.underlying103
  a173:=Tryd.isAgg103
  z173:=Tryd.sizeOf103
  v173:=Tryd.zeroValue103
  t212:=Tryd.underlying116
  a212:=Tryd.isAgg116
  z212:=Tryd.sizeOf116
  v212:=Tryd.zeroValue116
  t213:=Tryd.underlying118
  a213:=Tryd.isAgg118
  z213:=Tryd.sizeOf118
  t232:=Tryd.underlying137
  a232:=Tryd.isAgg137
  z232:=Tryd.sizeOf137
  v232:=Tryd.zeroValue137
  t233:=Tryd.underlying138
  a233:=Tryd.isAgg138
  z233:=Tryd.sizeOf138
  v233:=Tryd.zeroValue138
  g17:=by kernel_rfl
  g18:=by kernel_rfl
  g19:=by kernel_rfl
  i0:=by kernel_rfl
  i2:=by kernel_rfl
  i3:=by kernel_rfl
  i4:=by kernel_rfl
  i5:=by kernel_rfl
  i9:=by kernel_rfl
  i20:=by kernel_rfl
  i37:=by kernel_rfl
  i46:=by kernel_rfl
  i51:=by kernel_rfl
  i53:=by kernel_rfl
  i171:=by kernel_rfl
  i173:=by kernel_rfl
  i212:=by kernel_rfl
  i232:=by kernel_rfl
  i233:=by kernel_rfl
  m17:=by kernel_rfl
  m18:=by kernel_rfl
  m19:=by kernel_rfl }
open Go.RowKit Go.Sort Go.Lib in
theorem Tryd.strconv_FormatInt_10 (n : Int) (h0 : -9223372036854775808 ≤ n) (h1 : n ≤ 9223372036854775807) (w : World) (htab : Lib.TabIs Tryd.prog w "internal/strconv.uint64pow10" .u64 Lib.pow10Tab) :
    Calls Tryd.prog 52 #[.int .i64 n,.int .i64 10] w fun e w'=>e=.returned (.string ⟨(Lib.itoa n).toArray⟩)∧∃k os,w'=grow (w.drewN k) os:=Any.strconv_FormatInt_10 Tryd.laysM173 n h0 h1 w htab
end Go.Proofs
