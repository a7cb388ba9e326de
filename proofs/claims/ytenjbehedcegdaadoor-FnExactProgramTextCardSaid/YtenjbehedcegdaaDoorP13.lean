/-
  Texts of this claim, joined (part 13). No condition beyond those of the theorems.
-/
import Derived.Lib.ItoaNum
import Derived.Lib.ItoaMem
import Derived.Test.YtenjbehedcegdaaDoorP02
import Derived.Test.YtenjbehedcegdaaDoorP05
import Derived.Lib.Strings
import Derived.ShutString
namespace Go.Proofs.YtenjbehedcegdaaDoor
set_option linter.unusedVariables false
def decD (u:Nat):List UInt8:=if u=0 then [] else Lib.decDigits u
theorem decD_0:decD 0=[]:=rfl
theorem decD_step {u:Nat} (h:u≠0):decD u=decD (u / 10)++[UInt8.ofNat (48+u % 10)]:=by
 unfold decD
 rw[if_neg h,Lib.decDigits]
 by_cases h10:u < 10
 · rw[dif_pos h10,if_pos (by omega),List.nil_append,Nat.mod_eq_of_lt h10]
 · rw[dif_neg h10,if_neg (by omega)]
theorem decD_pos {u:Nat} (h:u≠0):decD u=Lib.decDigits u:=by unfold decD;rw[if_neg h]
theorem decD_len (u:Nat) (h:u < 10 ^ 19):(decD u).length≤20:=by
 have key : ∀ (k u : Nat), u < 10 ^ k → (decD u).length ≤ k := by
  intro k
  induction k with
  | zero => intro u h; have : u = 0 := by omega
            subst this;exact Nat.le_refl _
  | succ k ih =>
    intro u h
    by_cases c:u=0
    · subst c;exact Nat.zero_le _
    · rw[decD_step c,List.length_append]
      have:=ih (u / 10) (by rw[Nat.pow_succ] at h;omega)
      simp only[List.length_singleton]
      omega
 have:=key 19 u h
 omega
theorem itoa_0:Lib.itoa 0=[48]:=by
 unfold Lib.itoa
 rw[if_neg (by decide)]
 show Lib.decDigits 0=[48]
 rw[Lib.decDigits,dif_pos (by decide)]
 rfl
theorem itoa_pos {n:Int} (h:0 < n):Lib.itoa n=decD n.natAbs:=by
 unfold Lib.itoa
 rw[if_neg (by omega),decD_pos (by omega)]
 congr 1;omega
theorem itoa_neg' {n:Int} (h:n < 0):Lib.itoa n=45::decD n.natAbs:=by
 unfold Lib.itoa
 rw[if_pos h,decD_pos (by omega)]
theorem tdiv10 (k:Int):(k.tdiv 10).natAbs=k.natAbs / 10:=Int.natAbs_tdiv k 10
theorem tmod10 (k:Int):(if k.tmod 10 < 0 then -(k.tmod 10) else k.tmod 10)=((k.natAbs % 10:Nat):Int):=by
 rcases (by omega:k < 0∨0≤k) with h|h
 · obtain⟨m,rfl⟩:∃m:Nat,k=-(m:Int):=⟨k.natAbs,by omega⟩
   rw[Int.neg_tmod,Int.natAbs_neg,Int.natAbs_natCast]
   have e:((m:Int).tmod 10)=((m % 10:Nat):Int):=by rw[Int.tmod_eq_emod_of_nonneg (by omega)];omega
   rw[e]
   split<;>omega
 · obtain⟨m,rfl⟩:∃m:Nat,k=(m:Int):=⟨k.toNat,by omega⟩
   have e:((m:Int).tmod 10)=((m % 10:Nat):Int):=by rw[Int.tmod_eq_emod_of_nonneg (by omega)];omega
   rw[e,Int.natAbs_natCast,if_neg (by omega)]
set_option linter.unusedSimpArgs false
/-! The parts of a text between bytes. -/
/-! Numerals. -/
theorem dig_nat {d:Nat} (h:d < 10):(UInt8.ofNat (48+d)).toNat=48+d:=by
 rw[UInt8.toNat_ofNat'];omega
/-! The text. -/
section
variable {s r:Int} {xs:List (Int × Int)} (hs:0≤s∧s≤65536) (hx:∀x∈xs,0≤x.1∧x.1≤65536∧0≤x.2∧x.2≤65536) (hr:0≤r∧r≤65536)
end
open Go.RowKit
def bs (l:List UInt8):ByteArray:=⟨l.toArray⟩
theorem mk_bs (l:List UInt8):ByteArray.mk (List.toArray l)=bs l:=rfl
theorem em_bs:ByteArray.empty=bs []:=rfl
theorem bs_app (a b:List UInt8):bs a++bs b=bs (a++b):=ByteArray.mk_append_mk a b
theorem bs_size (l:List UInt8):(bs l).size=l.length:=size_of_list l
theorem bs_toList (l:List UInt8):(bs l).toList=l:=by rw[Lib.toList_data];simp[bs]
theorem bs_beq (a b:List UInt8):((bs a).toList == (bs b).toList)=decide (a=b):=by rw[bs_toList,bs_toList];by_cases h:a=b<;>simp[h]
theorem bs_extract (l:List UInt8) (i j:Nat):(bs l).extract i j=bs ((l.drop i).take (j - i)):=by rw[Lib.extract_eq];simp[bs]
theorem bs_at (l:List UInt8) (i:Nat):(bs l).data.getD i 0=l.getD i 0:=by simp[bs,Array.getD_eq_getD_getElem?]
theorem bs_data (l:List UInt8):(bs l).data.toList=l:=by simp[bs]
theorem bs_of (s:ByteArray):bs s.data.toList=s:=Lib.mk_data s
def nB (l:List UInt8):List Int:=l.map fun b=>(b.toNat:Int)
theorem nB_len (l:List UInt8):(nB l).length=l.length:=by simp[nB]
theorem bstr_nB (l:List UInt8):bstr (nB l)=bs l:=by
 have key:∀(l:List UInt8) (s:ByteArray),(nB l).foldl (fun r n=>r.push (UInt8.ofNat n.toNat)) s=s++bs l:=by
  intro l
  induction l with
  | nil=>intro s;apply ByteArray.ext;simp[nB,bs]
  | cons b l ih =>
    intro s
    have h1:=ih (s.push (UInt8.ofNat ((b.toNat:Int)).toNat))
    have e:UInt8.ofNat ((b.toNat:Int)).toNat=b:=by simp
    simp only[nB,List.map_cons,List.foldl_cons] at h1 ⊢
    rw[h1,e]
    apply ByteArray.ext
    simp[bs,ByteArray.data_append,ByteArray.data_push]
 have:=key l ByteArray.empty
 unfold bstr
 rw[this]
 apply ByteArray.ext
 simp[bs]
theorem i64max:IntKind.i64.max=9223372036854775807:=rfl
attribute [go_sem] mk_bs em_bs bs_app bs_size bs_beq bs_extract bs_at bstr_nB nB_len i64max
def DecI (n:Int) (p:Int × List UInt8):Prop:=decD p.1.natAbs++p.2=decD n.natAbs∧(-9223372036854775808≤p.1∧p.1≤9223372036854775807)∧p.2.length≤20
theorem DecI.start {n:Int} (h1:-9223372036854775808≤n) (h2:n≤9223372036854775807):DecI n (n,[]):=⟨by simp,⟨h1,h2⟩,by simp⟩
theorem DecI.next {n m:Int} {l:List UInt8} (h:DecI n (m,l)) (hn1:-9223372036854775808≤n) (hn2:n≤9223372036854775807) (hm:m≠0):DecI n (m.tdiv 10,UInt8.ofNat (48+m.natAbs % 10)::l):=by
 obtain⟨h1,⟨h2,h3⟩,h4⟩:=h
 have e1:decD (m.tdiv 10).natAbs++UInt8.ofNat (48+m.natAbs % 10)::l=decD n.natAbs:=by
  rw[tdiv10,←h1]
  simp only
  rw[decD_step (u:=m.natAbs) (by omega),List.append_assoc]
  rfl
 have e2:=tdiv10 m
 refine⟨e1,⟨by simp only;omega,by simp only;omega⟩,?_⟩
 have e3:=congrArg List.length e1
 rw[List.length_append] at e3
 have e4 := decD_len n.natAbs (by have : n.natAbs ≤ 9223372036854775808 := by omega
                                  omega)
 simp only at e3 ⊢
 omega
theorem DecI.end0 {n:Int} {l:List UInt8} (h:DecI n (0,l)):l=decD n.natAbs:=by
 have:=h.1
 simpa [decD_0] using this
theorem dec_byte (m:Int):IntKind.u8.wrap (IntKind.i64.wrap (48+((m.natAbs % 10:Nat):Int)))=((UInt8.ofNat (48+m.natAbs % 10)).toNat:Int):=by
 have h:m.natAbs % 10 < 10:=Nat.mod_lt _ (by omega)
 rw[dig_nat h]
 generalize m.natAbs % 10=d at h ⊢
 rw[wrapI (by omega)]
 have:d=0∨d=1∨d=2∨d=3∨d=4∨d=5∨d=6∨d=7∨d=8∨d=9:=by omega
 rcases this with rfl|rfl|rfl|rfl|rfl|rfl|rfl|rfl|rfl|rfl<;>decide
theorem dec_neg {m:Int} (h1:-9223372036854775808≤m) (h2:m≤9223372036854775807) (h:m.tmod 10 < 0):IntKind.i64.wrap (0 - m.tmod 10)=((m.natAbs % 10:Nat):Int):=by
 have:=tmod10 m
 rw[if_pos h] at this
 rw[wrapI (by omega)]
 omega
theorem dec_pos {m:Int} (h:0≤m.tmod 10):m.tmod 10=((m.natAbs % 10:Nat):Int):=by
 have:=tmod10 m
 rwa [if_neg (by omega)] at this
theorem dec_0 {n:Int} {l:List UInt8} (h:DecI n (0,l)) (hl:l.length=0):Lib.itoa n=[48]:=by
 have e:=h.end0
 have:l=[]:=List.eq_nil_of_length_eq_zero hl
 rw[this] at e
 have h0:n=0:=by
  by_cases hn:n=0
  · exact hn
  · exfalso
    have:=decD_step (u:=n.natAbs) (by omega)
    rw[←e] at this
    simp at this
 rw[h0];exact itoa_0
theorem dec_ne {n:Int} {l:List UInt8} (h:DecI n (0,l)) (hl:l.length≠0):Lib.itoa n=if n < 0 then 45::l else l:=by
 have e:=h.end0
 have h0:n≠0:=by
  rintro rfl
  rw[show (0:Int).natAbs=0 from rfl,decD_0] at e
  rw[e] at hl;exact hl rfl
 split
 · rename_i hn;rw[itoa_neg' hn,e]
 · rw[itoa_pos (by omega),e]
end Go.Proofs.YtenjbehedcegdaaDoor
