/-
  Texts of this claim, joined (part 3). No condition beyond those of the theorems.
-/
import Derived.Test.YtenjbehedcegdaaR02
import Derived.Test.YtenjbehedcegdaaChecked
import Derived.IntWalk
namespace Go.Proofs.Ytenjbehedcegdaa
open Go.RowKit
set_option linter.unusedSimpArgs false
set_option linter.unusedVariables false
def G:TypeId→Option Ty:=fun t =>
  if t=2 then some (.int .i64)
  else if t=3 then some (.int .i64)
  else if t=4 then some (.bool)
  else if t=5 then some (.int .u8)
  else if t=9 then some (.str)
  else if t=22 then some (.row 24 (.row 2 (.int .i64)))
  else if t=23 then some (.row 73 (.prod (.int .i64) (.prod (.int .i64) (.prod (.int .i64) (.prod (.int .i64) (.prod (.row 2 (.int .i64)) (.int .i64)))))))
  else if t=24 then some (.row 2 (.int .i64))
  else if t=26 then some (.prod (.int .i64) (.prod (.int .i64) (.prod (.row 24 (.row 2 (.int .i64))) (.prod (.row 73 (.prod (.int .i64) (.prod (.int .i64) (.prod (.int .i64) (.prod (.int .i64) (.prod (.row 2 (.int .i64)) (.int .i64))))))) (.row 2 (.int .i64))))))
  else if t=31 then some (.row 49 (.prod (.int .i64) (.prod (.int .i64) (.prod (.int .i64) (.prod (.int .i64) (.prod (.row 2 (.int .i64)) (.int .i64)))))))
  else if t=33 then some (.prod (.int .i64) (.prod (.int .i64) (.prod (.row 24 (.row 2 (.int .i64))) (.prod (.row 49 (.prod (.int .i64) (.prod (.int .i64) (.prod (.int .i64) (.prod (.int .i64) (.prod (.row 2 (.int .i64)) (.int .i64))))))) (.row 2 (.int .i64))))))
  else if t=49 then some (.prod (.int .i64) (.prod (.int .i64) (.prod (.int .i64) (.prod (.int .i64) (.prod (.row 2 (.int .i64)) (.int .i64))))))
  else if t=65 then some (.prod (.int .i64) (.prod (.int .i64) (.prod (.int .i64) (.row 2 (.int .i64)))))
  else if t=73 then some (.prod (.int .i64) (.prod (.int .i64) (.prod (.int .i64) (.prod (.int .i64) (.prod (.row 2 (.int .i64)) (.int .i64))))))
  else if t=92 then some (.int .u64)
  else if t=97 then some (.row 4 (.bool))
  else if t=100 then some (.prod (.str) (.prod (.int .i64) (.prod (.int .i64) (.prod (.int .i64) (.prod (.bool) (.bool))))))
  else if t=101 then some (.row 100 (.prod (.str) (.prod (.int .i64) (.prod (.int .i64) (.prod (.int .i64) (.prod (.bool) (.bool)))))))
  else if t=103 then some (.int .u32)
  else none
theorem sz_2:szOf Try.prog 2=some 1:=by kernel_rfl
theorem sb_2:sbOf Try.prog 2=some (1,8):=by kernel_rfl
theorem zr_2:zeroOf Try.prog 2=some [.int .i64 0]:=by kernel_rfl
theorem sz_3:szOf Try.prog 3=some 1:=by kernel_rfl
theorem sb_3:sbOf Try.prog 3=some (1,8):=by kernel_rfl
theorem zr_3:zeroOf Try.prog 3=some [.int .i64 0]:=by kernel_rfl
theorem sz_4:szOf Try.prog 4=some 1:=by kernel_rfl
theorem sb_4:sbOf Try.prog 4=some (1,1):=by kernel_rfl
theorem zr_4:zeroOf Try.prog 4=some [.bool false]:=by kernel_rfl
theorem sz_5:szOf Try.prog 5=some 1:=by kernel_rfl
theorem sb_5:sbOf Try.prog 5=some (1,1):=by kernel_rfl
theorem zr_5:zeroOf Try.prog 5=some [.int .u8 0]:=by kernel_rfl
theorem sz_9:szOf Try.prog 9=some 1:=by kernel_rfl
theorem sb_9:sbOf Try.prog 9=some (1,16):=by kernel_rfl
theorem zr_9:zeroOf Try.prog 9=some [.string ByteArray.empty]:=by kernel_rfl
theorem sz_22:szOf Try.prog 22=some 1:=by kernel_rfl
theorem sb_22:sbOf Try.prog 22=some (1,24):=by kernel_rfl
theorem zr_22:zeroOf Try.prog 22=some [.slice none 0 0]:=by kernel_rfl
theorem sz_23:szOf Try.prog 23=some 1:=by kernel_rfl
theorem sb_23:sbOf Try.prog 23=some (1,24):=by kernel_rfl
theorem zr_23:zeroOf Try.prog 23=some [.slice none 0 0]:=by kernel_rfl
theorem sz_24:szOf Try.prog 24=some 1:=by kernel_rfl
theorem sb_24:sbOf Try.prog 24=some (1,24):=by kernel_rfl
theorem zr_24:zeroOf Try.prog 24=some [.slice none 0 0]:=by kernel_rfl
theorem sz_26:szOf Try.prog 26=some 5:=by kernel_rfl
theorem sb_26:sbOf Try.prog 26=some (5,88):=by kernel_rfl
theorem zr_26:zeroOf Try.prog 26=some [.int .i64 0,.int .i64 0,.slice none 0 0,.slice none 0 0,.slice none 0 0]:=by kernel_rfl
theorem pl_26:placesOf Try.prog 26=some [(0,1),(1,1),(2,1),(3,1),(4,1)]:=by kernel_rfl
theorem sz_31:szOf Try.prog 31=some 1:=by kernel_rfl
theorem sb_31:sbOf Try.prog 31=some (1,24):=by kernel_rfl
theorem zr_31:zeroOf Try.prog 31=some [.slice none 0 0]:=by kernel_rfl
theorem sz_33:szOf Try.prog 33=some 5:=by kernel_rfl
theorem sb_33:sbOf Try.prog 33=some (5,88):=by kernel_rfl
theorem zr_33:zeroOf Try.prog 33=some [.int .i64 0,.int .i64 0,.slice none 0 0,.slice none 0 0,.slice none 0 0]:=by kernel_rfl
theorem pl_33:placesOf Try.prog 33=some [(0,1),(1,1),(2,1),(3,1),(4,1)]:=by kernel_rfl
theorem sz_49:szOf Try.prog 49=some 6:=by kernel_rfl
theorem sb_49:sbOf Try.prog 49=some (6,64):=by kernel_rfl
theorem zr_49:zeroOf Try.prog 49=some [.int .i64 0,.int .i64 0,.int .i64 0,.int .i64 0,.slice none 0 0,.int .i64 0]:=by kernel_rfl
theorem pl_49:placesOf Try.prog 49=some [(0,1),(1,1),(2,1),(3,1),(4,1),(5,1)]:=by kernel_rfl
theorem sz_60:szOf Try.prog 60=some 1:=by kernel_rfl
theorem sb_60:sbOf Try.prog 60=some (1,8):=by kernel_rfl
theorem zr_60:zeroOf Try.prog 60=some [.map none]:=by kernel_rfl
theorem sz_62:szOf Try.prog 62=some 7:=by kernel_rfl
theorem sb_62:sbOf Try.prog 62=some (7,120):=by kernel_rfl
theorem zr_62:zeroOf Try.prog 62=some [.int .i64 0,.int .i64 0,.slice none 0 0,.slice none 0 0,.slice none 0 0,.slice none 0 0,.map none]:=by kernel_rfl
theorem pl_62:placesOf Try.prog 62=some [(0,5),(5,1),(6,1)]:=by kernel_rfl
theorem sz_65:szOf Try.prog 65=some 4:=by kernel_rfl
theorem sb_65:sbOf Try.prog 65=some (4,48):=by kernel_rfl
theorem zr_65:zeroOf Try.prog 65=some [.int .i64 0,.int .i64 0,.int .i64 0,.slice none 0 0]:=by kernel_rfl
theorem pl_65:placesOf Try.prog 65=some [(0,1),(1,1),(2,1),(3,1)]:=by kernel_rfl
theorem sz_73:szOf Try.prog 73=some 6:=by kernel_rfl
theorem sb_73:sbOf Try.prog 73=some (6,64):=by kernel_rfl
theorem zr_73:zeroOf Try.prog 73=some [.int .i64 0,.int .i64 0,.int .i64 0,.int .i64 0,.slice none 0 0,.int .i64 0]:=by kernel_rfl
theorem pl_73:placesOf Try.prog 73=some [(0,1),(1,1),(2,1),(3,1),(4,1),(5,1)]:=by kernel_rfl
theorem sz_92:szOf Try.prog 92=some 1:=by kernel_rfl
theorem sb_92:sbOf Try.prog 92=some (1,8):=by kernel_rfl
theorem zr_92:zeroOf Try.prog 92=some [.int .u64 0]:=by kernel_rfl
theorem sz_97:szOf Try.prog 97=some 1:=by kernel_rfl
theorem sb_97:sbOf Try.prog 97=some (1,24):=by kernel_rfl
theorem zr_97:zeroOf Try.prog 97=some [.slice none 0 0]:=by kernel_rfl
theorem sz_100:szOf Try.prog 100=some 6:=by kernel_rfl
theorem sb_100:sbOf Try.prog 100=some (6,48):=by kernel_rfl
theorem zr_100:zeroOf Try.prog 100=some [.string ByteArray.empty,.int .i64 0,.int .i64 0,.int .i64 0,.bool false,.bool false]:=by kernel_rfl
theorem pl_100:placesOf Try.prog 100=some [(0,1),(1,1),(2,1),(3,1),(4,1),(5,1)]:=by kernel_rfl
theorem sz_101:szOf Try.prog 101=some 1:=by kernel_rfl
theorem sb_101:sbOf Try.prog 101=some (1,24):=by kernel_rfl
theorem zr_101:zeroOf Try.prog 101=some [.slice none 0 0]:=by kernel_rfl
theorem sz_103:szOf Try.prog 103=some 1:=by kernel_rfl
theorem sb_103:sbOf Try.prog 103=some (1,4):=by kernel_rfl
theorem zr_103:zeroOf Try.prog 103=some [.int .u32 0]:=by kernel_rfl
attribute [go_sem] G sz_2 sb_2 zr_2 sz_3 sb_3 zr_3 sz_4 sb_4 zr_4 sz_5 sb_5 zr_5 sz_9 sb_9 zr_9 sz_22 sb_22 zr_22 sz_23 sb_23 zr_23 sz_24 sb_24 zr_24 sz_26 sb_26 zr_26 pl_26 sz_31 sb_31 zr_31 sz_33 sb_33 zr_33 pl_33 sz_49 sb_49 zr_49 pl_49 sz_60 sb_60 zr_60 sz_62 sb_62 zr_62 pl_62 sz_65 sb_65 zr_65 pl_65 sz_73 sb_73 zr_73 pl_73 sz_92 sb_92 zr_92 sz_97 sb_97 zr_97 sz_100 sb_100 zr_100 pl_100 sz_101 sb_101 zr_101 sz_103 sb_103 zr_103
attribute [go_sem] Try.underlying2 Try.underlying3 Try.underlying4 Try.underlying5 Try.underlying9 Try.underlying22 Try.underlying23 Try.underlying24 Try.underlying26 Try.underlying31 Try.underlying33 Try.underlying49 Try.underlying60 Try.underlying62 Try.underlying65 Try.underlying73 Try.underlying92 Try.underlying97 Try.underlying100 Try.underlying101 Try.underlying103
theorem mixed:Try.prog.follows .mixedOrders=true:=by kernel_rfl
theorem oR {σ:St} {Q:Exit→St→Prop} {id:Nat} {ops:Array Oper} {T:Tab} (hT:TabOk Try.prog T) (bf dn dc:List (List Nat)) (hS:chkS ops.toList bf dn dc=true) (hb:decide (bf.length≤ops.toList.length)=true) (h:adraw Try.prog G T dn ops.toList ops.toList 0 σ [] (fun σ' rs=>chkA ops.toList.length bf dc 0 rs=true∧Q .normal σ')):AWP Try.prog (.region id ops true) σ Q:=AWP_draw hT mixed bf dn dc hS hb h
theorem oW {σ:St} {Q:Exit→St→Prop} {id:Nat} {ops:Array Oper} {T:Tab} (hT:TabOk Try.prog T) (h:aseq Try.prog G T ops.toList ops.toList σ (Q .normal)):AWP Try.prog (.region id ops false) σ Q:=AWP_region hT h
def T0:Tab:=fun _=>none
theorem T0_ok:TabOk Try.prog T0:=fun f k h=>by cases h
end Go.Proofs.Ytenjbehedcegdaa
