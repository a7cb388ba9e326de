/-
  Texts of this claim, joined (part 19). No condition beyond those of the theorems.
-/
import Derived.Shelf.Strings.Builder1
import Derived.Shelf.Strings.Builder2
import Derived.Shelf.Strings.OnBuilder
import Derived.Shelf.Strconv.Itoa0
import Derived.Shelf.Strconv.Itoa1
import Derived.Shelf.LaysM
import Derived.Shelf.Strconv.Itoa2
import Derived.Shelf.Strconv.Itoa3
import Derived.Shelf.Strconv.Itoa4
import Derived.Test.YtenjbehedcegdaaDoorProg
namespace Go.Proofs
open Go.Shelf
def Tryd.lays156_ren:Go.Shelf.Ren:=⟨fun|156=>56|165=>65|166=>66|169=>67|240=>74|241=>75|276=>81|277=>82|n=>n,fun|31=>75|9=>9|3=>3|4=>4|0=>0|20=>20|72=>93|76=>97|70=>91|37=>74|75=>96|127=>108|164=>117|5=>5|80=>99|n=>n,fun|n=>n⟩
theorem Tryd.lays156:Go.Proofs.Lays.n156 Tryd.prog Tryd.lays156_ren:={
  mixed:=by kernel_rfl
  f156:=Tryd.func56.trans (congrArg some (by kernel_rfl))
  f165:=Tryd.func65.trans (congrArg some (by kernel_rfl))
  f166:=Tryd.func66.trans (congrArg some (by kernel_rfl))
  f169:=Tryd.func67.trans (congrArg some (by kernel_rfl))
  f240:=Tryd.func74.trans (congrArg some (by kernel_rfl))
  f241:=Tryd.func75.trans (congrArg some (by kernel_rfl))
  f276:=Tryd.func81.trans (congrArg some (by kernel_rfl))
  f277:=Tryd.func82.trans (congrArg some (by kernel_rfl))
  t0:=Tryd.underlying0
  a0:=Tryd.isAgg0
  z0:=Tryd.sizeOf0
  v0:=Tryd.zeroValue0
  t3:=Tryd.underlying3
  a3:=Tryd.isAgg3
  z3:=Tryd.sizeOf3
  v3:=Tryd.zeroValue3
  t4:=Tryd.underlying4
  a4:=Tryd.isAgg4
  z4:=Tryd.sizeOf4
  v4:=Tryd.zeroValue4
  t9:=Tryd.underlying9
  a9:=Tryd.isAgg9
  z9:=Tryd.sizeOf9
  v9:=Tryd.zeroValue9
  t20:=Tryd.underlying20
  a20:=Tryd.isAgg20
  z20:=Tryd.sizeOf20
  v20:=Tryd.zeroValue20
  t31:=Tryd.underlying75
  a31:=Tryd.isAgg75
  z31:=Tryd.sizeOf75
  v31:=Tryd.zeroValue75
  t37:=Tryd.underlying74
  a37:=Tryd.isAgg74
  z37:=Tryd.sizeOf74
  v37:=Tryd.zeroValue74
  t70:=Tryd.underlying91
  a70:=Tryd.isAgg91
  z70:=Tryd.sizeOf91
  v70:=Tryd.zeroValue91
  t72:=Tryd.underlying93
  a72:=Tryd.isAgg93
  z72:=Tryd.sizeOf93
  v72:=Tryd.zeroValue93
  t75:=Tryd.underlying96
  a75:=Tryd.isAgg96
  z75:=Tryd.sizeOf96
  v75:=Tryd.zeroValue96
  t76:=Tryd.underlying97
  a76:=Tryd.isAgg97
  z76:=Tryd.sizeOf97
  v76:=Tryd.zeroValue97
  t127:=Tryd.underlying108
  a127:=Tryd.isAgg108
  z127:=Tryd.sizeOf108
  v127:=Tryd.zeroValue108
  t164:=Tryd.underlying117
  a164:=Tryd.isAgg117
  z164:=Tryd.sizeOf117
  v164:=Tryd.zeroValue117 }
theorem Tryd.Builder_Extra_156:Builder.Extra Tryd.prog Tryd.lays156_ren:={
  sizeBuilder:=by kernel_rfl
  liesBuilder:=by kernel_rfl
  t5:=Tryd.underlying5
  a5:=Tryd.isAgg5
  z5:=Tryd.sizeOf5
  v5:=Tryd.zeroValue5
  infoByte:=by kernel_rfl
  cellsByte:=by kernel_rfl
  sizeByte:=by kernel_rfl
  neB5:=by decide }
open Go.RowKit in
theorem Tryd.strings_Join_none (a:Option Addr) (c:Nat) (sep:ByteArray) (w:World) :
    Calls Tryd.prog 56 #[.slice a 0 c,.string sep] w fun e w'=>e=.returned (.string ⟨#[]⟩)∧w'=w:=Any.strings_Join_none Tryd.lays156 Tryd.Builder_Extra_156 a c sep w
open Go.RowKit in
theorem Tryd.strings_Join (bk o c:Nat) (xs:List ByteArray) (sep:ByteArray) (w:World) (hcells:∀(j:Nat) x,xs[j]?=some x→w.cell? ⟨bk,o+j,none⟩=some (.string x)) (hbk:bk < w.heap.size) (hN:xs.length≤140737488355328) (hcap:xs.length≤c) (hlen:(Lib.join (xs.map (·.data.toList)) sep.data.toList).length≤140737488355328) :
    Calls Tryd.prog 56 #[.slice (some ⟨bk,o,none⟩) xs.length c,.string sep] w fun e w'=>e=.returned (.string ⟨(Lib.join (xs.map (·.data.toList)) sep.data.toList).toArray⟩)∧Below w.heap.size w w':=Any.strings_Join Tryd.lays156 Tryd.Builder_Extra_156 bk o c xs sep w hcells hbk hN hcap hlen
def Tryd.laysM173_ren:Go.Shelf.Ren:=⟨fun|173=>52|246=>64|283=>70|284=>71|285=>72|286=>73|129=>77|317=>76|318=>78|319=>79|320=>80|337=>83|338=>84|n=>n,fun|2=>2|3=>3|9=>9|4=>4|171=>102|0=>0|53=>103|37=>74|5=>5|173=>106|212=>111|51=>112|20=>20|213=>113|46=>115|232=>121|233=>122|n=>n,fun|17=>0|18=>2|19=>3|n=>n⟩
theorem Tryd.laysM173:Go.Proofs.LaysM.n173 Tryd.prog Tryd.laysM173_ren:={
  mixed:=by kernel_rfl
  f129:=Tryd.func77.trans (congrArg some (by kernel_rfl))
  f173:=Tryd.func52.trans (congrArg some (by kernel_rfl))
  f246:=Tryd.func64.trans (congrArg some (by kernel_rfl))
  f283:=Tryd.func70.trans (congrArg some (by kernel_rfl))
  f284:=Tryd.func71.trans (congrArg some (by kernel_rfl))
  f285:=Tryd.func72.trans (congrArg some (by kernel_rfl))
  f286:=Tryd.func73.trans (congrArg some (by kernel_rfl))
  f317:=Tryd.func76.trans (congrArg some (by kernel_rfl))
  f318:=Tryd.func78.trans (congrArg some (by kernel_rfl))
  f319:=Tryd.func79.trans (congrArg some (by kernel_rfl))
  f320:=Tryd.func80.trans (congrArg some (by kernel_rfl))
  f337:=Tryd.func83.trans (congrArg some (by kernel_rfl))
  f338:=Tryd.func84.trans (congrArg some (by kernel_rfl))
  t0:=Tryd.underlying0
  a0:=Tryd.isAgg0
  z0:=Tryd.sizeOf0
  v0:=Tryd.zeroValue0
  t2:=Tryd.underlying2
  a2:=Tryd.isAgg2
  z2:=Tryd.sizeOf2
  v2:=Tryd.zeroValue2
  t3:=Tryd.underlying3
  a3:=Tryd.isAgg3
  z3:=Tryd.sizeOf3
  v3:=Tryd.zeroValue3
  t4:=Tryd.underlying4
  a4:=Tryd.isAgg4
  z4:=Tryd.sizeOf4
  v4:=Tryd.zeroValue4
  t5:=Tryd.underlying5
  a5:=Tryd.isAgg5
  z5:=Tryd.sizeOf5
  v5:=Tryd.zeroValue5
  t9:=Tryd.underlying9
  a9:=Tryd.isAgg9
  z9:=Tryd.sizeOf9
  v9:=Tryd.zeroValue9
  t20:=Tryd.underlying20
  a20:=Tryd.isAgg20
  z20:=Tryd.sizeOf20
  v20:=Tryd.zeroValue20
  t37:=Tryd.underlying74
  a37:=Tryd.isAgg74
  z37:=Tryd.sizeOf74
  v37:=Tryd.zeroValue74
  t46:=Tryd.underlying115
  a46:=Tryd.isAgg115
  z46:=Tryd.sizeOf115
  v46:=Tryd.zeroValue115
  t51:=Tryd.underlying112
  a51:=Tryd.isAgg112
  z51:=Tryd.sizeOf112
  v51:=Tryd.zeroValue112
  t53:=Tryd.underlying103
  a53:=Tryd.isAgg103
  z53:=Tryd.sizeOf103
  v53:=Tryd.zeroValue103
  t171:=Tryd.underlying102
  a171:=Tryd.isAgg102
  z171:=Tryd.sizeOf102
  v171:=Tryd.zeroValue102
  t173:=Tryd.underlying106
  a173:=Tryd.isAgg106
  z173:=Tryd.sizeOf106
  v173:=Tryd.zeroValue106
  t212:=Tryd.underlying111
  a212:=Tryd.isAgg111
  z212:=Tryd.sizeOf111
  v212:=Tryd.zeroValue111
  t213:=Tryd.underlying113
  a213:=Tryd.isAgg113
  z213:=Tryd.sizeOf113
  t232:=Tryd.underlying121
  a232:=Tryd.isAgg121
  z232:=Tryd.sizeOf121
  v232:=Tryd.zeroValue121
  t233:=Tryd.underlying122
  a233:=Tryd.isAgg122
  z233:=Tryd.sizeOf122
  v233:=Tryd.zeroValue122
  g17:=by kernel_rfl
  g18:=by kernel_rfl
  g19:=by kernel_rfl
  i0:=by kernel_rfl
  i2:=by kernel_rfl
  i3:=by kernel_rfl
  i4:=by kernel_rfl
  i5:=by kernel_rfl
  i9:=by kernel_rfl
  i20:=by kernel_rfl
  i37:=by kernel_rfl
  i46:=by kernel_rfl
  i51:=by kernel_rfl
  i53:=by kernel_rfl
  i171:=by kernel_rfl
  i173:=by kernel_rfl
  i212:=by kernel_rfl
  i232:=by kernel_rfl
  i233:=by kernel_rfl
  m17:=by kernel_rfl
  m18:=by kernel_rfl
  m19:=by kernel_rfl }
open Go.RowKit Go.Sort Go.Lib in
theorem Tryd.strconv_FormatInt_10 (n : Int) (h0 : -9223372036854775808 ≤ n) (h1 : n ≤ 9223372036854775807) (w : World) (htab : Lib.TabIs Tryd.prog w "internal/strconv.uint64pow10" .u64 Lib.pow10Tab) :
    Calls Tryd.prog 52 #[.int .i64 n,.int .i64 10] w fun e w'=>e=.returned (.string ⟨(Lib.itoa n).toArray⟩)∧∃k os,w'=grow (w.drewN k) os:=Any.strconv_FormatInt_10 Tryd.laysM173 n h0 h1 w htab
end Go.Proofs
