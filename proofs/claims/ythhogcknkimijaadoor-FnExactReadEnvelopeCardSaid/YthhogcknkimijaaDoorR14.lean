/-
  Texts of this claim, joined (part 14). No condition beyond those of the theorems.
-/
import Derived.Test.YthhogcknkimijaaDoorR12
import Derived.Test.YthhogcknkimijaaDoorR13
import Derived.Test.YthhogcknkimijaaDoorR02
import Derived.Test.YthhogcknkimijaaDoorR08
import Derived.Lib.Strings
import Derived.ShutString
namespace Go.Proofs.YthhogcknkimijaaDoor
open Go.RowKit
set_option linter.unusedSimpArgs false
set_option linter.unusedVariables false
def bs (l:List UInt8):ByteArray:=⟨l.toArray⟩
theorem mk_bs (l:List UInt8):ByteArray.mk (List.toArray l)=bs l:=rfl
theorem em_bs:ByteArray.empty=bs []:=rfl
theorem bs_app (a b:List UInt8):bs a++bs b=bs (a++b):=ByteArray.mk_append_mk a b
theorem bs_size (l:List UInt8):(bs l).size=l.length:=size_of_list l
theorem bs_toList (l:List UInt8):(bs l).toList=l:=by rw[Lib.toList_data];simp[bs]
theorem bs_beq (a b:List UInt8):((bs a).toList == (bs b).toList)=decide (a=b):=by rw[bs_toList,bs_toList];by_cases h:a=b<;>simp[h]
theorem bs_extract (l:List UInt8) (i j:Nat):(bs l).extract i j=bs ((l.drop i).take (j - i)):=by rw[Lib.extract_eq];simp[bs]
theorem bs_at (l:List UInt8) (i:Nat):(bs l).data.getD i 0=l.getD i 0:=by simp[bs,Array.getD_eq_getD_getElem?]
theorem bs_data (l:List UInt8):(bs l).data.toList=l:=by simp[bs]
theorem bs_of (s:ByteArray):bs s.data.toList=s:=Lib.mk_data s
def nB (l:List UInt8):List Int:=l.map fun b=>(b.toNat:Int)
theorem nB_len (l:List UInt8):(nB l).length=l.length:=by simp[nB]
theorem bstr_nB (l:List UInt8):bstr (nB l)=bs l:=by
 have key:∀(l:List UInt8) (s:ByteArray),(nB l).foldl (fun r n=>r.push (UInt8.ofNat n.toNat)) s=s++bs l:=by
  intro l
  induction l with
  | nil=>intro s;apply ByteArray.ext;simp[nB,bs]
  | cons b l ih =>
    intro s
    have h1:=ih (s.push (UInt8.ofNat ((b.toNat:Int)).toNat))
    have e:UInt8.ofNat ((b.toNat:Int)).toNat=b:=by simp
    simp only[nB,List.map_cons,List.foldl_cons] at h1 ⊢
    rw[h1,e]
    apply ByteArray.ext
    simp[bs,ByteArray.data_append,ByteArray.data_push]
 have:=key l ByteArray.empty
 unfold bstr
 rw[this]
 apply ByteArray.ext
 simp[bs]
theorem i64max:IntKind.i64.max=9223372036854775807:=rfl
attribute [go_sem] mk_bs em_bs bs_app bs_size bs_beq bs_extract bs_at bstr_nB nB_len i64max
def DecI (n:Int) (p:Int × List UInt8):Prop:=decD p.1.natAbs++p.2=decD n.natAbs∧(-9223372036854775808≤p.1∧p.1≤9223372036854775807)∧p.2.length≤20
theorem DecI.start {n:Int} (h1:-9223372036854775808≤n) (h2:n≤9223372036854775807):DecI n (n,[]):=⟨by simp,⟨h1,h2⟩,by simp⟩
theorem DecI.next {n m:Int} {l:List UInt8} (h:DecI n (m,l)) (hn1:-9223372036854775808≤n) (hn2:n≤9223372036854775807) (hm:m≠0):DecI n (m.tdiv 10,UInt8.ofNat (48+m.natAbs % 10)::l):=by
 obtain⟨h1,⟨h2,h3⟩,h4⟩:=h
 have e1:decD (m.tdiv 10).natAbs++UInt8.ofNat (48+m.natAbs % 10)::l=decD n.natAbs:=by
  rw[tdiv10,←h1]
  simp only
  rw[decD_step (u:=m.natAbs) (by omega),List.append_assoc]
  rfl
 have e2:=tdiv10 m
 refine⟨e1,⟨by simp only;omega,by simp only;omega⟩,?_⟩
 have e3:=congrArg List.length e1
 rw[List.length_append] at e3
 have e4 := decD_len n.natAbs (by have : n.natAbs ≤ 9223372036854775808 := by omega
                                  omega)
 simp only at e3 ⊢
 omega
theorem DecI.end0 {n:Int} {l:List UInt8} (h:DecI n (0,l)):l=decD n.natAbs:=by
 have:=h.1
 simpa [decD_0] using this
theorem dec_byte (m:Int):IntKind.u8.wrap (IntKind.i64.wrap (48+((m.natAbs % 10:Nat):Int)))=((UInt8.ofNat (48+m.natAbs % 10)).toNat:Int):=by
 have h:m.natAbs % 10 < 10:=Nat.mod_lt _ (by omega)
 rw[dig_nat h]
 generalize m.natAbs % 10=d at h ⊢
 rw[wrapI (by omega)]
 have:d=0∨d=1∨d=2∨d=3∨d=4∨d=5∨d=6∨d=7∨d=8∨d=9:=by omega
 rcases this with rfl|rfl|rfl|rfl|rfl|rfl|rfl|rfl|rfl|rfl<;>decide
theorem dec_neg {m:Int} (h1:-9223372036854775808≤m) (h2:m≤9223372036854775807) (h:m.tmod 10 < 0):IntKind.i64.wrap (0 - m.tmod 10)=((m.natAbs % 10:Nat):Int):=by
 have:=tmod10 m
 rw[if_pos h] at this
 rw[wrapI (by omega)]
 omega
theorem dec_pos {m:Int} (h:0≤m.tmod 10):m.tmod 10=((m.natAbs % 10:Nat):Int):=by
 have:=tmod10 m
 rwa [if_neg (by omega)] at this
theorem dec_0 {n:Int} {l:List UInt8} (h:DecI n (0,l)) (hl:l.length=0):Lib.itoa n=[48]:=by
 have e:=h.end0
 have:l=[]:=List.eq_nil_of_length_eq_zero hl
 rw[this] at e
 have h0:n=0:=by
  by_cases hn:n=0
  · exact hn
  · exfalso
    have:=decD_step (u:=n.natAbs) (by omega)
    rw[←e] at this
    simp at this
 rw[h0];exact itoa_0
theorem dec_ne {n:Int} {l:List UInt8} (h:DecI n (0,l)) (hl:l.length≠0):Lib.itoa n=if n < 0 then 45::l else l:=by
 have e:=h.end0
 have h0:n≠0:=by
  rintro rfl
  rw[show (0:Int).natAbs=0 from rfl,decD_0] at e
  rw[e] at hl;exact hl rfl
 split
 · rename_i hn;rw[itoa_neg' hn,e]
 · rw[itoa_pos (by omega),e]
theorem itoa_len {n:Int} (h1:0≤n) (h2:n≤65536):(Lib.itoa n).length≤5:=by
 rw[itoa_nn h1];exact dgs_len (by omega) (by omega)
end Go.Proofs.YthhogcknkimijaaDoor
