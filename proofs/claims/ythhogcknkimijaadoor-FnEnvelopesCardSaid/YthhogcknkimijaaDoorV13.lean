/-
  Texts of this claim, joined (part 13). No condition beyond those of the theorems.
-/
import Derived.Test.YthhogcknkimijaaDoorV11
import Derived.Test.YthhogcknkimijaaDoorV12
import Derived.Test.YthhogcknkimijaaDoorV02
import Derived.Test.YthhogcknkimijaaDoorV08
import Derived.Lib.Strings
import Derived.ShutString
namespace Go.Proofs.YthhogcknkimijaaDoor
open Go.RowKit
set_option linter.unusedSimpArgs false
set_option linter.unusedVariables false
def bs (l:List UInt8):ByteArray:=⟨l.toArray⟩
theorem mk_bs (l:List UInt8):ByteArray.mk (List.toArray l)=bs l:=rfl
theorem em_bs:ByteArray.empty=bs []:=rfl
theorem bs_app (a b:List UInt8):bs a++bs b=bs (a++b):=ByteArray.mk_append_mk a b
theorem bs_size (l:List UInt8):(bs l).size=l.length:=size_of_list l
theorem bs_toList (l:List UInt8):(bs l).toList=l:=by rw[Lib.toList_data];simp[bs]
theorem bs_beq (a b:List UInt8):((bs a).toList == (bs b).toList)=decide (a=b):=by rw[bs_toList,bs_toList];by_cases h:a=b<;>simp[h]
theorem bs_extract (l:List UInt8) (i j:Nat):(bs l).extract i j=bs ((l.drop i).take (j - i)):=by rw[Lib.extract_eq];simp[bs]
theorem bs_at (l:List UInt8) (i:Nat):(bs l).data.getD i 0=l.getD i 0:=by simp[bs,Array.getD_eq_getD_getElem?]
theorem bs_data (l:List UInt8):(bs l).data.toList=l:=by simp[bs]
theorem bs_of (s:ByteArray):bs s.data.toList=s:=Lib.mk_data s
def nB (l:List UInt8):List Int:=l.map fun b=>(b.toNat:Int)
theorem nB_len (l:List UInt8):(nB l).length=l.length:=by simp[nB]
theorem bstr_nB (l:List UInt8):bstr (nB l)=bs l:=by
 have key:∀(l:List UInt8) (s:ByteArray),(nB l).foldl (fun r n=>r.push (UInt8.ofNat n.toNat)) s=s++bs l:=by
  intro l
  induction l with
  | nil=>intro s;apply ByteArray.ext;simp[nB,bs]
  | cons b l ih =>
    intro s
    have h1:=ih (s.push (UInt8.ofNat ((b.toNat:Int)).toNat))
    have e:UInt8.ofNat ((b.toNat:Int)).toNat=b:=by simp
    simp only[nB,List.map_cons,List.foldl_cons] at h1 ⊢
    rw[h1,e]
    apply ByteArray.ext
    simp[bs,ByteArray.data_append,ByteArray.data_push]
 have:=key l ByteArray.empty
 unfold bstr
 rw[this]
 apply ByteArray.ext
 simp[bs]
theorem i64max:IntKind.i64.max=9223372036854775807:=rfl
attribute [go_sem] mk_bs em_bs bs_app bs_size bs_beq bs_extract bs_at bstr_nB nB_len i64max
def DecI (n:Int) (p:Int × List UInt8):Prop:=decD p.1.natAbs++p.2=decD n.natAbs∧(-9223372036854775808≤p.1∧p.1≤9223372036854775807)∧p.2.length≤20
theorem DecI.start {n:Int} (h1:-9223372036854775808≤n) (h2:n≤9223372036854775807):DecI n (n,[]):=⟨by simp,⟨h1,h2⟩,by simp⟩
theorem DecI.next {n m:Int} {l:List UInt8} (h:DecI n (m,l)) (hn1:-9223372036854775808≤n) (hn2:n≤9223372036854775807) (hm:m≠0):DecI n (m.tdiv 10,UInt8.ofNat (48+m.natAbs % 10)::l):=by
 obtain⟨h1,⟨h2,h3⟩,h4⟩:=h
 have e1:decD (m.tdiv 10).natAbs++UInt8.ofNat (48+m.natAbs % 10)::l=decD n.natAbs:=by
  rw[tdiv10,←h1]
  simp only
  rw[decD_step (u:=m.natAbs) (by omega),List.append_assoc]
  rfl
 have e2:=tdiv10 m
 refine⟨e1,⟨by simp only;omega,by simp only;omega⟩,?_⟩
 have e3:=congrArg List.length e1
 rw[List.length_append] at e3
 have e4 := decD_len n.natAbs (by have : n.natAbs ≤ 9223372036854775808 := by omega
                                  omega)
 simp only at e3 ⊢
 omega
theorem itoa_len {n:Int} (h1:0≤n) (h2:n≤65536):(Lib.itoa n).length≤5:=by
 rw[itoa_nn h1];exact dgs_len (by omega) (by omega)
end Go.Proofs.YthhogcknkimijaaDoor
