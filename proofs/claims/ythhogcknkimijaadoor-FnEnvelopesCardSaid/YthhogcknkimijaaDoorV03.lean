/-
  Texts of this claim, joined (part 3). No condition beyond those of the theorems.
-/
import Derived.Test.YthhogcknkimijaaDoorV02
import Derived.Test.YthhogcknkimijaaDoorChecked
import Derived.IntWalk
namespace Go.Proofs.YthhogcknkimijaaDoor
open Go.RowKit
set_option linter.unusedSimpArgs false
set_option linter.unusedVariables false
def G:TypeId→Option Ty:=fun t =>
  if t=2 then some (.int .i64)
  else if t=3 then some (.int .i64)
  else if t=4 then some (.bool)
  else if t=5 then some (.int .u8)
  else if t=9 then some (.str)
  else if t=22 then some (.row 74 (.prod (.int .i64) (.int .i64)))
  else if t=24 then some (.prod (.int .i64) (.prod (.row 74 (.prod (.int .i64) (.int .i64))) (.int .i64)))
  else if t=27 then some (.row 48 (.prod (.int .i64) (.int .i64)))
  else if t=29 then some (.prod (.int .i64) (.prod (.row 48 (.prod (.int .i64) (.int .i64))) (.int .i64)))
  else if t=37 then some (.row 5 (.int .u8))
  else if t=41 then some (.row 2 (.int .i64))
  else if t=48 then some (.prod (.int .i64) (.int .i64))
  else if t=57 then some (.row 9 (.str))
  else if t=74 then some (.prod (.int .i64) (.int .i64))
  else if t=88 then some (.int .u64)
  else if t=90 then some (.prod (.row 5 (.int .u8)) (.prod (.int .i64) (.int .u64)))
  else if t=110 then some (.int .u64)
  else if t=117 then some (.int .u32)
  else none
theorem sz_2:szOf Tryd.prog 2=some 1:=by kernel_rfl
theorem sb_2:sbOf Tryd.prog 2=some (1,8):=by kernel_rfl
theorem zr_2:zeroOf Tryd.prog 2=some [.int .i64 0]:=by kernel_rfl
theorem sz_3:szOf Tryd.prog 3=some 1:=by kernel_rfl
theorem sb_3:sbOf Tryd.prog 3=some (1,8):=by kernel_rfl
theorem zr_3:zeroOf Tryd.prog 3=some [.int .i64 0]:=by kernel_rfl
theorem sz_4:szOf Tryd.prog 4=some 1:=by kernel_rfl
theorem sb_4:sbOf Tryd.prog 4=some (1,1):=by kernel_rfl
theorem zr_4:zeroOf Tryd.prog 4=some [.bool false]:=by kernel_rfl
theorem sz_5:szOf Tryd.prog 5=some 1:=by kernel_rfl
theorem sb_5:sbOf Tryd.prog 5=some (1,1):=by kernel_rfl
theorem zr_5:zeroOf Tryd.prog 5=some [.int .u8 0]:=by kernel_rfl
theorem sz_9:szOf Tryd.prog 9=some 1:=by kernel_rfl
theorem sb_9:sbOf Tryd.prog 9=some (1,16):=by kernel_rfl
theorem zr_9:zeroOf Tryd.prog 9=some [.string ByteArray.empty]:=by kernel_rfl
theorem sz_22:szOf Tryd.prog 22=some 1:=by kernel_rfl
theorem sb_22:sbOf Tryd.prog 22=some (1,24):=by kernel_rfl
theorem zr_22:zeroOf Tryd.prog 22=some [.slice none 0 0]:=by kernel_rfl
theorem sz_24:szOf Tryd.prog 24=some 3:=by kernel_rfl
theorem sb_24:sbOf Tryd.prog 24=some (3,40):=by kernel_rfl
theorem zr_24:zeroOf Tryd.prog 24=some [.int .i64 0,.slice none 0 0,.int .i64 0]:=by kernel_rfl
theorem pl_24:placesOf Tryd.prog 24=some [(0,1),(1,1),(2,1)]:=by kernel_rfl
theorem sz_27:szOf Tryd.prog 27=some 1:=by kernel_rfl
theorem sb_27:sbOf Tryd.prog 27=some (1,24):=by kernel_rfl
theorem zr_27:zeroOf Tryd.prog 27=some [.slice none 0 0]:=by kernel_rfl
theorem sz_29:szOf Tryd.prog 29=some 3:=by kernel_rfl
theorem sb_29:sbOf Tryd.prog 29=some (3,40):=by kernel_rfl
theorem zr_29:zeroOf Tryd.prog 29=some [.int .i64 0,.slice none 0 0,.int .i64 0]:=by kernel_rfl
theorem pl_29:placesOf Tryd.prog 29=some [(0,1),(1,1),(2,1)]:=by kernel_rfl
theorem sz_37:szOf Tryd.prog 37=some 1:=by kernel_rfl
theorem sb_37:sbOf Tryd.prog 37=some (1,24):=by kernel_rfl
theorem zr_37:zeroOf Tryd.prog 37=some [.slice none 0 0]:=by kernel_rfl
theorem sz_41:szOf Tryd.prog 41=some 1:=by kernel_rfl
theorem sb_41:sbOf Tryd.prog 41=some (1,24):=by kernel_rfl
theorem zr_41:zeroOf Tryd.prog 41=some [.slice none 0 0]:=by kernel_rfl
theorem sz_48:szOf Tryd.prog 48=some 2:=by kernel_rfl
theorem sb_48:sbOf Tryd.prog 48=some (2,16):=by kernel_rfl
theorem zr_48:zeroOf Tryd.prog 48=some [.int .i64 0,.int .i64 0]:=by kernel_rfl
theorem ew_48:eqWidth Tryd.prog 48=some 2:=by kernel_rfl
theorem pl_48:placesOf Tryd.prog 48=some [(0,1),(1,1)]:=by kernel_rfl
theorem sz_57:szOf Tryd.prog 57=some 1:=by kernel_rfl
theorem sb_57:sbOf Tryd.prog 57=some (1,24):=by kernel_rfl
theorem zr_57:zeroOf Tryd.prog 57=some [.slice none 0 0]:=by kernel_rfl
theorem sz_74:szOf Tryd.prog 74=some 2:=by kernel_rfl
theorem sb_74:sbOf Tryd.prog 74=some (2,16):=by kernel_rfl
theorem zr_74:zeroOf Tryd.prog 74=some [.int .i64 0,.int .i64 0]:=by kernel_rfl
theorem ew_74:eqWidth Tryd.prog 74=some 2:=by kernel_rfl
theorem pl_74:placesOf Tryd.prog 74=some [(0,1),(1,1)]:=by kernel_rfl
theorem sz_88:szOf Tryd.prog 88=some 1:=by kernel_rfl
theorem sb_88:sbOf Tryd.prog 88=some (1,8):=by kernel_rfl
theorem zr_88:zeroOf Tryd.prog 88=some [.int .u64 0]:=by kernel_rfl
theorem sz_90:szOf Tryd.prog 90=some 3:=by kernel_rfl
theorem sb_90:sbOf Tryd.prog 90=some (3,40):=by kernel_rfl
theorem zr_90:zeroOf Tryd.prog 90=some [.slice none 0 0,.int .i64 0,.int .u64 0]:=by kernel_rfl
theorem pl_90:placesOf Tryd.prog 90=some [(0,1),(1,1),(2,1)]:=by kernel_rfl
theorem sz_110:szOf Tryd.prog 110=some 1:=by kernel_rfl
theorem sb_110:sbOf Tryd.prog 110=some (1,8):=by kernel_rfl
theorem zr_110:zeroOf Tryd.prog 110=some [.int .u64 0]:=by kernel_rfl
theorem sz_117:szOf Tryd.prog 117=some 1:=by kernel_rfl
theorem sb_117:sbOf Tryd.prog 117=some (1,4):=by kernel_rfl
theorem zr_117:zeroOf Tryd.prog 117=some [.int .u32 0]:=by kernel_rfl
attribute [go_sem] G sz_2 sb_2 zr_2 sz_3 sb_3 zr_3 sz_4 sb_4 zr_4 sz_5 sb_5 zr_5 sz_9 sb_9 zr_9 sz_22 sb_22 zr_22 sz_24 sb_24 zr_24 pl_24 sz_27 sb_27 zr_27 sz_29 sb_29 zr_29 pl_29 sz_37 sb_37 zr_37 sz_41 sb_41 zr_41 sz_48 sb_48 zr_48 ew_48 pl_48 sz_57 sb_57 zr_57 sz_74 sb_74 zr_74 ew_74 pl_74 sz_88 sb_88 zr_88 sz_90 sb_90 zr_90 pl_90 sz_110 sb_110 zr_110 sz_117 sb_117 zr_117
attribute [go_sem] Tryd.underlying2 Tryd.underlying3 Tryd.underlying4 Tryd.underlying5 Tryd.underlying9 Tryd.underlying22 Tryd.underlying24 Tryd.underlying27 Tryd.underlying29 Tryd.underlying37 Tryd.underlying41 Tryd.underlying48 Tryd.underlying57 Tryd.underlying74 Tryd.underlying88 Tryd.underlying90 Tryd.underlying110 Tryd.underlying117
theorem mixed:Tryd.prog.follows .mixedOrders=true:=by kernel_rfl
theorem oR {σ:St} {Q:Exit→St→Prop} {id:Nat} {ops:Array Oper} {T:Tab} (hT:TabOk Tryd.prog T) (bf dn dc:List (List Nat)) (hS:chkS ops.toList bf dn dc=true) (hb:decide (bf.length≤ops.toList.length)=true) (h:adraw Tryd.prog G T dn ops.toList ops.toList 0 σ [] (fun σ' rs=>chkA ops.toList.length bf dc 0 rs=true∧Q .normal σ')):AWP Tryd.prog (.region id ops true) σ Q:=AWP_draw hT mixed bf dn dc hS hb h
theorem oW {σ:St} {Q:Exit→St→Prop} {id:Nat} {ops:Array Oper} {T:Tab} (hT:TabOk Tryd.prog T) (h:aseq Tryd.prog G T ops.toList ops.toList σ (Q .normal)):AWP Tryd.prog (.region id ops false) σ Q:=AWP_region hT h
def T0:Tab:=fun _=>none
theorem T0_ok:TabOk Tryd.prog T0:=fun f k h=>by cases h
end Go.Proofs.YthhogcknkimijaaDoor
