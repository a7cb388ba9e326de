/-
  Texts of this claim, joined (part 3). No condition beyond those of the theorems.
-/
import Derived.Test.YtenjbehedcegdaaDoorP02
import Derived.Test.YtenjbehedcegdaaDoorChecked
import Derived.IntWalk
namespace Go.Proofs.YtenjbehedcegdaaDoor
open Go.RowKit
set_option linter.unusedSimpArgs false
set_option linter.unusedVariables false
def G:TypeId→Option Ty:=fun t =>
  if t=2 then some (.int .i64)
  else if t=3 then some (.int .i64)
  else if t=4 then some (.bool)
  else if t=5 then some (.int .u8)
  else if t=9 then some (.str)
  else if t=22 then some (.row 24 (.row 2 (.int .i64)))
  else if t=23 then some (.row 53 (.prod (.int .i64) (.prod (.int .i64) (.prod (.int .i64) (.prod (.int .i64) (.prod (.row 2 (.int .i64)) (.int .i64)))))))
  else if t=24 then some (.row 2 (.int .i64))
  else if t=26 then some (.prod (.int .i64) (.prod (.int .i64) (.prod (.row 24 (.row 2 (.int .i64))) (.prod (.row 53 (.prod (.int .i64) (.prod (.int .i64) (.prod (.int .i64) (.prod (.int .i64) (.prod (.row 2 (.int .i64)) (.int .i64))))))) (.row 2 (.int .i64))))))
  else if t=29 then some (.row 43 (.prod (.int .i64) (.prod (.int .i64) (.prod (.int .i64) (.prod (.int .i64) (.prod (.row 2 (.int .i64)) (.int .i64)))))))
  else if t=31 then some (.prod (.int .i64) (.prod (.int .i64) (.prod (.row 24 (.row 2 (.int .i64))) (.prod (.row 43 (.prod (.int .i64) (.prod (.int .i64) (.prod (.int .i64) (.prod (.int .i64) (.prod (.row 2 (.int .i64)) (.int .i64))))))) (.row 2 (.int .i64))))))
  else if t=43 then some (.prod (.int .i64) (.prod (.int .i64) (.prod (.int .i64) (.prod (.int .i64) (.prod (.row 2 (.int .i64)) (.int .i64))))))
  else if t=53 then some (.prod (.int .i64) (.prod (.int .i64) (.prod (.int .i64) (.prod (.int .i64) (.prod (.row 2 (.int .i64)) (.int .i64))))))
  else if t=60 then some (.prod (.int .i64) (.prod (.int .i64) (.prod (.int .i64) (.row 2 (.int .i64)))))
  else if t=74 then some (.row 5 (.int .u8))
  else if t=75 then some (.row 9 (.str))
  else if t=82 then some (.row 4 (.bool))
  else if t=85 then some (.prod (.str) (.prod (.int .i64) (.prod (.int .i64) (.prod (.int .i64) (.prod (.bool) (.bool))))))
  else if t=86 then some (.row 85 (.prod (.str) (.prod (.int .i64) (.prod (.int .i64) (.prod (.int .i64) (.prod (.bool) (.bool)))))))
  else if t=103 then some (.int .u64)
  else if t=112 then some (.int .u32)
  else if t=115 then some (.int .u64)
  else none
theorem sz_2:szOf Tryd.prog 2=some 1:=by kernel_rfl
theorem sb_2:sbOf Tryd.prog 2=some (1,8):=by kernel_rfl
theorem zr_2:zeroOf Tryd.prog 2=some [.int .i64 0]:=by kernel_rfl
theorem sz_3:szOf Tryd.prog 3=some 1:=by kernel_rfl
theorem sb_3:sbOf Tryd.prog 3=some (1,8):=by kernel_rfl
theorem zr_3:zeroOf Tryd.prog 3=some [.int .i64 0]:=by kernel_rfl
theorem sz_4:szOf Tryd.prog 4=some 1:=by kernel_rfl
theorem sb_4:sbOf Tryd.prog 4=some (1,1):=by kernel_rfl
theorem zr_4:zeroOf Tryd.prog 4=some [.bool false]:=by kernel_rfl
theorem sz_5:szOf Tryd.prog 5=some 1:=by kernel_rfl
theorem sb_5:sbOf Tryd.prog 5=some (1,1):=by kernel_rfl
theorem zr_5:zeroOf Tryd.prog 5=some [.int .u8 0]:=by kernel_rfl
theorem sz_9:szOf Tryd.prog 9=some 1:=by kernel_rfl
theorem sb_9:sbOf Tryd.prog 9=some (1,16):=by kernel_rfl
theorem zr_9:zeroOf Tryd.prog 9=some [.string ByteArray.empty]:=by kernel_rfl
theorem sz_22:szOf Tryd.prog 22=some 1:=by kernel_rfl
theorem sb_22:sbOf Tryd.prog 22=some (1,24):=by kernel_rfl
theorem zr_22:zeroOf Tryd.prog 22=some [.slice none 0 0]:=by kernel_rfl
theorem sz_23:szOf Tryd.prog 23=some 1:=by kernel_rfl
theorem sb_23:sbOf Tryd.prog 23=some (1,24):=by kernel_rfl
theorem zr_23:zeroOf Tryd.prog 23=some [.slice none 0 0]:=by kernel_rfl
theorem sz_24:szOf Tryd.prog 24=some 1:=by kernel_rfl
theorem sb_24:sbOf Tryd.prog 24=some (1,24):=by kernel_rfl
theorem zr_24:zeroOf Tryd.prog 24=some [.slice none 0 0]:=by kernel_rfl
theorem sz_26:szOf Tryd.prog 26=some 5:=by kernel_rfl
theorem sb_26:sbOf Tryd.prog 26=some (5,88):=by kernel_rfl
theorem zr_26:zeroOf Tryd.prog 26=some [.int .i64 0,.int .i64 0,.slice none 0 0,.slice none 0 0,.slice none 0 0]:=by kernel_rfl
theorem pl_26:placesOf Tryd.prog 26=some [(0,1),(1,1),(2,1),(3,1),(4,1)]:=by kernel_rfl
theorem sz_29:szOf Tryd.prog 29=some 1:=by kernel_rfl
theorem sb_29:sbOf Tryd.prog 29=some (1,24):=by kernel_rfl
theorem zr_29:zeroOf Tryd.prog 29=some [.slice none 0 0]:=by kernel_rfl
theorem sz_31:szOf Tryd.prog 31=some 5:=by kernel_rfl
theorem sb_31:sbOf Tryd.prog 31=some (5,88):=by kernel_rfl
theorem zr_31:zeroOf Tryd.prog 31=some [.int .i64 0,.int .i64 0,.slice none 0 0,.slice none 0 0,.slice none 0 0]:=by kernel_rfl
theorem pl_31:placesOf Tryd.prog 31=some [(0,1),(1,1),(2,1),(3,1),(4,1)]:=by kernel_rfl
theorem sz_43:szOf Tryd.prog 43=some 6:=by kernel_rfl
theorem sb_43:sbOf Tryd.prog 43=some (6,64):=by kernel_rfl
theorem zr_43:zeroOf Tryd.prog 43=some [.int .i64 0,.int .i64 0,.int .i64 0,.int .i64 0,.slice none 0 0,.int .i64 0]:=by kernel_rfl
theorem pl_43:placesOf Tryd.prog 43=some [(0,1),(1,1),(2,1),(3,1),(4,1),(5,1)]:=by kernel_rfl
theorem sz_53:szOf Tryd.prog 53=some 6:=by kernel_rfl
theorem sb_53:sbOf Tryd.prog 53=some (6,64):=by kernel_rfl
theorem zr_53:zeroOf Tryd.prog 53=some [.int .i64 0,.int .i64 0,.int .i64 0,.int .i64 0,.slice none 0 0,.int .i64 0]:=by kernel_rfl
theorem pl_53:placesOf Tryd.prog 53=some [(0,1),(1,1),(2,1),(3,1),(4,1),(5,1)]:=by kernel_rfl
theorem sz_60:szOf Tryd.prog 60=some 4:=by kernel_rfl
theorem sb_60:sbOf Tryd.prog 60=some (4,48):=by kernel_rfl
theorem zr_60:zeroOf Tryd.prog 60=some [.int .i64 0,.int .i64 0,.int .i64 0,.slice none 0 0]:=by kernel_rfl
theorem pl_60:placesOf Tryd.prog 60=some [(0,1),(1,1),(2,1),(3,1)]:=by kernel_rfl
theorem sz_74:szOf Tryd.prog 74=some 1:=by kernel_rfl
theorem sb_74:sbOf Tryd.prog 74=some (1,24):=by kernel_rfl
theorem zr_74:zeroOf Tryd.prog 74=some [.slice none 0 0]:=by kernel_rfl
theorem sz_75:szOf Tryd.prog 75=some 1:=by kernel_rfl
theorem sb_75:sbOf Tryd.prog 75=some (1,24):=by kernel_rfl
theorem zr_75:zeroOf Tryd.prog 75=some [.slice none 0 0]:=by kernel_rfl
theorem sz_82:szOf Tryd.prog 82=some 1:=by kernel_rfl
theorem sb_82:sbOf Tryd.prog 82=some (1,24):=by kernel_rfl
theorem zr_82:zeroOf Tryd.prog 82=some [.slice none 0 0]:=by kernel_rfl
theorem sz_85:szOf Tryd.prog 85=some 6:=by kernel_rfl
theorem sb_85:sbOf Tryd.prog 85=some (6,48):=by kernel_rfl
theorem zr_85:zeroOf Tryd.prog 85=some [.string ByteArray.empty,.int .i64 0,.int .i64 0,.int .i64 0,.bool false,.bool false]:=by kernel_rfl
theorem pl_85:placesOf Tryd.prog 85=some [(0,1),(1,1),(2,1),(3,1),(4,1),(5,1)]:=by kernel_rfl
theorem sz_86:szOf Tryd.prog 86=some 1:=by kernel_rfl
theorem sb_86:sbOf Tryd.prog 86=some (1,24):=by kernel_rfl
theorem zr_86:zeroOf Tryd.prog 86=some [.slice none 0 0]:=by kernel_rfl
theorem sz_103:szOf Tryd.prog 103=some 1:=by kernel_rfl
theorem sb_103:sbOf Tryd.prog 103=some (1,8):=by kernel_rfl
theorem zr_103:zeroOf Tryd.prog 103=some [.int .u64 0]:=by kernel_rfl
theorem sz_112:szOf Tryd.prog 112=some 1:=by kernel_rfl
theorem sb_112:sbOf Tryd.prog 112=some (1,4):=by kernel_rfl
theorem zr_112:zeroOf Tryd.prog 112=some [.int .u32 0]:=by kernel_rfl
theorem sz_115:szOf Tryd.prog 115=some 1:=by kernel_rfl
theorem sb_115:sbOf Tryd.prog 115=some (1,8):=by kernel_rfl
theorem zr_115:zeroOf Tryd.prog 115=some [.int .u64 0]:=by kernel_rfl
attribute [go_sem] G sz_2 sb_2 zr_2 sz_3 sb_3 zr_3 sz_4 sb_4 zr_4 sz_5 sb_5 zr_5 sz_9 sb_9 zr_9 sz_22 sb_22 zr_22 sz_23 sb_23 zr_23 sz_24 sb_24 zr_24 sz_26 sb_26 zr_26 pl_26 sz_29 sb_29 zr_29 sz_31 sb_31 zr_31 pl_31 sz_43 sb_43 zr_43 pl_43 sz_53 sb_53 zr_53 pl_53 sz_60 sb_60 zr_60 pl_60 sz_74 sb_74 zr_74 sz_75 sb_75 zr_75 sz_82 sb_82 zr_82 sz_85 sb_85 zr_85 pl_85 sz_86 sb_86 zr_86 sz_103 sb_103 zr_103 sz_112 sb_112 zr_112 sz_115 sb_115 zr_115
attribute [go_sem] Tryd.underlying2 Tryd.underlying3 Tryd.underlying4 Tryd.underlying5 Tryd.underlying9 Tryd.underlying22 Tryd.underlying23 Tryd.underlying24 Tryd.underlying26 Tryd.underlying29 Tryd.underlying31 Tryd.underlying43 Tryd.underlying53 Tryd.underlying60 Tryd.underlying74 Tryd.underlying75 Tryd.underlying82 Tryd.underlying85 Tryd.underlying86 Tryd.underlying103 Tryd.underlying112 Tryd.underlying115
theorem mixed:Tryd.prog.follows .mixedOrders=true:=by kernel_rfl
theorem oR {σ:St} {Q:Exit→St→Prop} {id:Nat} {ops:Array Oper} {T:Tab} (hT:TabOk Tryd.prog T) (bf dn dc:List (List Nat)) (hS:chkS ops.toList bf dn dc=true) (hb:decide (bf.length≤ops.toList.length)=true) (h:adraw Tryd.prog G T dn ops.toList ops.toList 0 σ [] (fun σ' rs=>chkA ops.toList.length bf dc 0 rs=true∧Q .normal σ')):AWP Tryd.prog (.region id ops true) σ Q:=AWP_draw hT mixed bf dn dc hS hb h
theorem oW {σ:St} {Q:Exit→St→Prop} {id:Nat} {ops:Array Oper} {T:Tab} (hT:TabOk Tryd.prog T) (h:aseq Tryd.prog G T ops.toList ops.toList σ (Q .normal)):AWP Tryd.prog (.region id ops false) σ Q:=AWP_region hT h
def T0:Tab:=fun _=>none
theorem T0_ok:TabOk Tryd.prog T0:=fun f k h=>by cases h
end Go.Proofs.YtenjbehedcegdaaDoor
