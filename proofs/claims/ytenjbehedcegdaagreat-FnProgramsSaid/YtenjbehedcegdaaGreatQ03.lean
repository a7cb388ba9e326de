/-
  Texts of this claim, joined (part 3). No condition beyond those of the theorems.
-/
import Derived.Test.YtenjbehedcegdaaGreatQ02
import Derived.Test.YtenjbehedcegdaaGreatChecked
import Derived.IntWalk
import Derived.Test.YtenjbehedcegdaaGreatRows
import Derived.WalkKit
import Derived.ProofKit
import Derived.OpenShut
import Derived.ShutString
import Derived.ChangeOld
import Derived.Below
import Derived.Lib.SmallJoins
import Derived.Deep.Slices
namespace Go.Proofs.YtenjbehedcegdaaGreat
open Go.RowKit
set_option linter.unusedSimpArgs false
set_option linter.unusedVariables false
def G:TypeId→Option Ty:=fun t =>
  if t=2 then some (.int .i64)
  else if t=3 then some (.int .i64)
  else if t=4 then some (.bool)
  else if t=5 then some (.int .u8)
  else if t=9 then some (.str)
  else if t=22 then some (.row 5 (.int .u8))
  else if t=24 then some (.row 26 (.row 2 (.int .i64)))
  else if t=25 then some (.row 67 (.prod (.int .i64) (.prod (.int .i64) (.prod (.int .i64) (.row 2 (.int .i64))))))
  else if t=26 then some (.row 2 (.int .i64))
  else if t=28 then some (.prod (.int .i64) (.prod (.row 26 (.row 2 (.int .i64))) (.prod (.row 67 (.prod (.int .i64) (.prod (.int .i64) (.prod (.int .i64) (.row 2 (.int .i64)))))) (.row 2 (.int .i64)))))
  else if t=31 then some (.row 64 (.prod (.int .i64) (.prod (.int .i64) (.prod (.int .i64) (.prod (.int .i64) (.prod (.row 2 (.int .i64)) (.int .i64)))))))
  else if t=33 then some (.prod (.int .i64) (.prod (.int .i64) (.prod (.row 26 (.row 2 (.int .i64))) (.prod (.row 64 (.prod (.int .i64) (.prod (.int .i64) (.prod (.int .i64) (.prod (.int .i64) (.prod (.row 2 (.int .i64)) (.int .i64))))))) (.row 2 (.int .i64))))))
  else if t=64 then some (.prod (.int .i64) (.prod (.int .i64) (.prod (.int .i64) (.prod (.int .i64) (.prod (.row 2 (.int .i64)) (.int .i64))))))
  else if t=67 then some (.prod (.int .i64) (.prod (.int .i64) (.prod (.int .i64) (.row 2 (.int .i64)))))
  else if t=76 then some (.row 4 (.bool))
  else if t=77 then some (.int .u64)
  else if t=79 then some (.prod (.row 5 (.int .u8)) (.prod (.int .i64) (.int .u64)))
  else if t=96 then some (.row 26 (.row 2 (.int .i64)))
  else if t=124 then some (.int .u64)
  else if t=126 then some (.prod (.str) (.prod (.int .i64) (.prod (.int .i64) (.prod (.int .i64) (.prod (.bool) (.bool))))))
  else if t=127 then some (.row 126 (.prod (.str) (.prod (.int .i64) (.prod (.int .i64) (.prod (.int .i64) (.prod (.bool) (.bool)))))))
  else if t=132 then some (.int .u32)
  else none
theorem C1N:P1 Tryz.prog 2=some 1:=by kernel_rfl
theorem C1J:X6 Tryz.prog 2=some (1,8):=by kernel_rfl
theorem C16:H7 Tryz.prog 2=some [.int .i64 0]:=by kernel_rfl
theorem C1E:P1 Tryz.prog 3=some 1:=by kernel_rfl
theorem C1C:X6 Tryz.prog 3=some (1,8):=by kernel_rfl
theorem C17:H7 Tryz.prog 3=some [.int .i64 0]:=by kernel_rfl
theorem C1M:P1 Tryz.prog 4=some 1:=by kernel_rfl
theorem C1G:X6 Tryz.prog 4=some (1,1):=by kernel_rfl
theorem C1K:H7 Tryz.prog 4=some [.bool false]:=by kernel_rfl
theorem C12:P1 Tryz.prog 5=some 1:=by kernel_rfl
theorem C1B:X6 Tryz.prog 5=some (1,1):=by kernel_rfl
theorem C14:H7 Tryz.prog 5=some [.int .u8 0]:=by kernel_rfl
theorem C18:P1 Tryz.prog 9=some 1:=by kernel_rfl
theorem C1A:X6 Tryz.prog 9=some (1,16):=by kernel_rfl
theorem C19:H7 Tryz.prog 9=some [.string ByteArray.empty]:=by kernel_rfl
theorem C0X:P1 Tryz.prog 22=some 1:=by kernel_rfl
theorem C07:X6 Tryz.prog 22=some (1,24):=by kernel_rfl
theorem C05:H7 Tryz.prog 22=some [.slice none 0 0]:=by kernel_rfl
theorem C0Y:P1 Tryz.prog 24=some 1:=by kernel_rfl
theorem C0b:X6 Tryz.prog 24=some (1,24):=by kernel_rfl
theorem C0M:H7 Tryz.prog 24=some [.slice none 0 0]:=by kernel_rfl
theorem C0j:P1 Tryz.prog 25=some 1:=by kernel_rfl
theorem C0U:X6 Tryz.prog 25=some (1,24):=by kernel_rfl
theorem C0I:H7 Tryz.prog 25=some [.slice none 0 0]:=by kernel_rfl
theorem C09:P1 Tryz.prog 26=some 1:=by kernel_rfl
theorem C0J:X6 Tryz.prog 26=some (1,24):=by kernel_rfl
theorem C01:H7 Tryz.prog 26=some [.slice none 0 0]:=by kernel_rfl
theorem C0B:P1 Tryz.prog 28=some 4:=by kernel_rfl
theorem C0c:X6 Tryz.prog 28=some (4,80):=by kernel_rfl
theorem B9q:H7 Tryz.prog 28=some [.int .i64 0,.slice none 0 0,.slice none 0 0,.slice none 0 0]:=by kernel_rfl
theorem C0D:U0 Tryz.prog 28=some [(0,1),(1,1),(2,1),(3,1)]:=by kernel_rfl
theorem C0s:P1 Tryz.prog 31=some 1:=by kernel_rfl
theorem C0R:X6 Tryz.prog 31=some (1,24):=by kernel_rfl
theorem C0N:H7 Tryz.prog 31=some [.slice none 0 0]:=by kernel_rfl
theorem C0l:P1 Tryz.prog 33=some 5:=by kernel_rfl
theorem B9n:X6 Tryz.prog 33=some (5,88):=by kernel_rfl
theorem B9r:H7 Tryz.prog 33=some [.int .i64 0,.int .i64 0,.slice none 0 0,.slice none 0 0,.slice none 0 0]:=by kernel_rfl
theorem B9p:U0 Tryz.prog 33=some [(0,1),(1,1),(2,1),(3,1),(4,1)]:=by kernel_rfl
theorem B9l:P1 Tryz.prog 60=some 1:=by kernel_rfl
theorem B9y:X6 Tryz.prog 60=some (1,8):=by kernel_rfl
theorem B9h:H7 Tryz.prog 60=some [.map none]:=by kernel_rfl
theorem C0g:P1 Tryz.prog 62=some 7:=by kernel_rfl
theorem C0q:X6 Tryz.prog 62=some (7,120):=by kernel_rfl
theorem C0k:H7 Tryz.prog 62=some [.int .i64 0,.int .i64 0,.slice none 0 0,.slice none 0 0,.slice none 0 0,.slice none 0 0,.map none]:=by kernel_rfl
theorem C0Z:U0 Tryz.prog 62=some [(0,5),(5,1),(6,1)]:=by kernel_rfl
theorem B9j:P1 Tryz.prog 64=some 6:=by kernel_rfl
theorem C0Q:X6 Tryz.prog 64=some (6,64):=by kernel_rfl
theorem C0S:H7 Tryz.prog 64=some [.int .i64 0,.int .i64 0,.int .i64 0,.int .i64 0,.slice none 0 0,.int .i64 0]:=by kernel_rfl
theorem C0F:U0 Tryz.prog 64=some [(0,1),(1,1),(2,1),(3,1),(4,1),(5,1)]:=by kernel_rfl
theorem C0d:P1 Tryz.prog 67=some 4:=by kernel_rfl
theorem C0o:X6 Tryz.prog 67=some (4,48):=by kernel_rfl
theorem C0v:H7 Tryz.prog 67=some [.int .i64 0,.int .i64 0,.int .i64 0,.slice none 0 0]:=by kernel_rfl
theorem C0p:U0 Tryz.prog 67=some [(0,1),(1,1),(2,1),(3,1)]:=by kernel_rfl
theorem B9u:P1 Tryz.prog 76=some 1:=by kernel_rfl
theorem C0P:X6 Tryz.prog 76=some (1,24):=by kernel_rfl
theorem C0C:H7 Tryz.prog 76=some [.slice none 0 0]:=by kernel_rfl
theorem C0i:P1 Tryz.prog 77=some 1:=by kernel_rfl
theorem C02:X6 Tryz.prog 77=some (1,8):=by kernel_rfl
theorem C0h:H7 Tryz.prog 77=some [.int .u64 0]:=by kernel_rfl
theorem C0H:P1 Tryz.prog 79=some 3:=by kernel_rfl
theorem C0L:X6 Tryz.prog 79=some (3,40):=by kernel_rfl
theorem C0A:H7 Tryz.prog 79=some [.slice none 0 0,.int .i64 0,.int .u64 0]:=by kernel_rfl
theorem C0r:U0 Tryz.prog 79=some [(0,1),(1,1),(2,1)]:=by kernel_rfl
theorem C0n:P1 Tryz.prog 96=some 1:=by kernel_rfl
theorem C04:X6 Tryz.prog 96=some (1,24):=by kernel_rfl
theorem B9o:H7 Tryz.prog 96=some [.slice none 0 0]:=by kernel_rfl
theorem C0E:U0 Tryz.prog 96=some [(0,1)]:=by kernel_rfl
theorem B9U:P1 Tryz.prog 124=some 1:=by kernel_rfl
theorem B9H:X6 Tryz.prog 124=some (1,8):=by kernel_rfl
theorem B9Q:H7 Tryz.prog 124=some [.int .u64 0]:=by kernel_rfl
theorem B8h:P1 Tryz.prog 126=some 6:=by kernel_rfl
theorem B9b:X6 Tryz.prog 126=some (6,48):=by kernel_rfl
theorem B9Y:H7 Tryz.prog 126=some [.string ByteArray.empty,.int .i64 0,.int .i64 0,.int .i64 0,.bool false,.bool false]:=by kernel_rfl
theorem B9P:U0 Tryz.prog 126=some [(0,1),(1,1),(2,1),(3,1),(4,1),(5,1)]:=by kernel_rfl
theorem B9a:P1 Tryz.prog 127=some 1:=by kernel_rfl
theorem B9X:X6 Tryz.prog 127=some (1,24):=by kernel_rfl
theorem B8g:H7 Tryz.prog 127=some [.slice none 0 0]:=by kernel_rfl
theorem B8q:P1 Tryz.prog 132=some 1:=by kernel_rfl
theorem B8z:X6 Tryz.prog 132=some (1,4):=by kernel_rfl
theorem B8b:H7 Tryz.prog 132=some [.int .u32 0]:=by kernel_rfl
attribute [go_sem] G C1N C1J C16 C1E C1C C17 C1M C1G C1K C12 C1B C14 C18 C1A C19 C0X C07 C05 C0Y C0b C0M C0j C0U C0I C09 C0J C01 C0B C0c B9q C0D C0s C0R C0N C0l B9n B9r B9p B9l B9y B9h C0g C0q C0k C0Z B9j C0Q C0S C0F C0d C0o C0v C0p B9u C0P C0C C0i C02 C0h C0H C0L C0A C0r C0n C04 B9o C0E B9U B9H B9Q B8h B9b B9Y B9P B9a B9X B8g B8q B8z B8b
attribute [go_sem] Tryz.underlying2 Tryz.underlying3 Tryz.underlying4 Tryz.underlying5 Tryz.underlying9 Tryz.underlying22 Tryz.underlying24 Tryz.underlying25 Tryz.underlying26 Tryz.underlying28 Tryz.underlying31 Tryz.underlying33 Tryz.underlying60 Tryz.underlying62 Tryz.underlying64 Tryz.underlying67 Tryz.underlying76 Tryz.underlying77 Tryz.underlying79 Tryz.underlying96 Tryz.underlying124 Tryz.underlying126 Tryz.underlying127 Tryz.underlying132
theorem B9g:Tryz.prog.follows .mixedOrders=true:=by kernel_rfl
theorem oR {σ:St} {Q:Exit→St→Prop} {id:Nat} {ops:Array Oper} {T:G4} (hT:B5 Tryz.prog T) (bf dn dc:List (List Nat)) (hS:B7W ops.toList bf dn dc=true) (hb:decide (bf.length≤ops.toList.length)=true) (h:A1f Tryz.prog G T dn ops.toList ops.toList 0 σ [] (fun σ' rs=>B06 ops.toList.length bf dc 0 rs=true∧Q .normal σ')):AWP Tryz.prog (.region id ops true) σ Q:=B6J hT B9g bf dn dc hS hb h
theorem oW {σ:St} {Q:Exit→St→Prop} {id:Nat} {ops:Array Oper} {T:G4} (hT:B5 Tryz.prog T) (h:A6Q Tryz.prog G T ops.toList ops.toList σ (Q .normal)):AWP Tryz.prog (.region id ops false) σ Q:=B1G hT h
def T0:G4:=fun _=>none
theorem B6q:B5 Tryz.prog T0:=fun f k h=>by cases h
open Go.ChangeShapes Go.WideShapes Go.ChangeAt Go.RowKit
theorem own:ownKnob Tryz.prog.godebug=none:=by kernel_rfl
theorem B7n:laidOutB Tryz.prog=true:=by kernel_rfl
open Go.ChangeShapes Go.WideShapes Go.ChangeAt Go.RowKit Go.Joins Go.Deep
def Rz.none:Rz:=⟨fun _=>0,fun _=>default,fun _=>0⟩
def B1H (P:Program) (rec:TypeId→Ty→Bool):List Field→Nat→Ty→Bool
 | [],_,_=>false
 | [f],off,T=>f.offset == off && P.cellsOf f.type == T.w && rec f.type T
 | f::g::l,off,.prod a b=>f.offset == off && P.cellsOf f.type == a.w && rec f.type a && B1H P rec (g::l) (off+a.w) b
 | _,_,_=>false
def A73 (P:Program):Nat→TypeId→Ty→Bool
 | 0,_,_=>false
 | n + 1, t, T => P.cellsOf t == T.w && match P.underlying t, T with
   | some (.struct fs),T=>B1H P (A73 P n) fs.toList 0 T
   | some (.int k),.int k'=>decide (k=k')
   | some .bool,.bool=>true
   | some .string,.str=>true
   | some (.slice e),.row e' T'=>e' == e && A73 P n e T'
   | _,_=>false
def Ty.rg:(t:Ty)→t.den→Prop
 | .int k,n=>(Lit.int k n).wf=true
 | .bool,_=>True
 | .str,_=>True
 | .prod a b,x=>a.rg x.1∧b.rg x.2
 | .row _ t,xs=>∀x∈xs,t.rg x
section
variable {P:Program} {H:Type} {enc:TypeId × Value→H} {W:World}
theorem A9H {n m:Nat} {cs:List Value} (ih:∀(t:TypeId) (T:Ty) (cs:List Value) (y:DataW H × List MemPlace),A73 P n t T=true→DataW.trod enc P W 0 (fun _=>true) true m t cs=some y→∃x:T.den,Rd (fun _=>True) W T cs x∧T.rg x) :
 ∀ (l : List Field) (off : Nat) (T : Ty) (xs : List (DataW H × List MemPlace)), B1H P (A73 P n) l off T = true → (∀ (i : Nat) (f : Field), l[i]? = some f → ∃ y, DataW.trod enc P W 0 (fun _ => true) true m f.type ((cs.drop f.offset).take (P.cellsOf f.type)) = some y) →
   ∃x:T.den,Rd (fun _=>True) W T ((cs.drop off).take T.w) x∧T.rg x:=by
 intro l
 induction l with
 | nil=>intro off T xs h;simp[B1H] at h
 | cons f l ihl =>
   intro off T xs h hf
   cases l with
   | nil =>
     simp only[B1H,Bool.and_eq_true,beq_iff_eq] at h
     obtain⟨⟨h1,h2⟩,h3⟩:=h
     obtain⟨y,hy⟩:=hf 0 f rfl
     rw[h1,h2] at hy;exact ih _ _ _ _ h3 hy
   | cons g l =>
     cases T with
     | prod a b =>
       simp only[B1H,Bool.and_eq_true,beq_iff_eq] at h
       obtain⟨⟨⟨h1,h2⟩,h3⟩,h4⟩:=h
       obtain⟨y,hy⟩:=hf 0 f rfl
       rw[h1,h2] at hy;obtain⟨x1,r1,g1⟩:=ih _ _ _ _ h3 hy
       obtain⟨x2,r2,g2⟩:=ihl (off+a.w) b xs h4 fun i f' hf'=>hf (i+1) f' (by simpa using hf')
       refine⟨(x1,x2),⟨_,_,?_,r1,r2⟩,g1,g2⟩
       have hl:=r1.len
       have e1:(cs.drop off).drop a.w=cs.drop (off+a.w):=by rw[List.drop_drop]
       rw[←e1];show (cs.drop off).take (a.w+b.w)=_
       rw[List.take_add]
     | _=>simp[B1H] at h
theorem B18:∀(n m:Nat) (t:TypeId) (T:Ty) (cs:List Value) (y:DataW H × List MemPlace),A73 P n t T=true→DataW.trod enc P W 0 (fun _=>true) true m t cs=some y→∃x:T.den,Rd (fun _=>True) W T cs x∧T.rg x:=by
 intro n
 induction n with
 | zero=>intro m t T cs y h;simp[A73] at h
 | succ n ih =>
   intro m t T cs y h hy
   simp only[A73,Bool.and_eq_true,beq_iff_eq] at h
   obtain⟨hw,h⟩:=h
   split at h
   · rename_i T' fs hu
     obtain⟨xs,m',rfl,rfl,hl,hx,hf⟩:=DataW.trod_struct hu hy
     obtain⟨x,r,g⟩:=A9H (m:=m') (cs:=cs) (fun t T cs y h1 h2=>ih m' t T cs y h1 h2) fs.toList 0 _ xs h (fun i f hf'=>by
      have h1:fs[i]?=some f:=by rw[←Array.getElem?_toList];exact hf'
      have h2:=hf i f h1
      have hi:i < xs.length:=by rw[hx];exact(Array.getElem?_eq_some_iff.1 h1).1
      rw[List.getElem?_eq_getElem hi] at h2
      exact⟨_,h2⟩)
     refine⟨x,?_,g⟩
     rw[List.drop_zero,List.take_of_length_le (by omega)] at r
     exact r
   · rename_i k k' hu
     obtain⟨v,rfl,_,hwf⟩:=DataW.trod_int hu hy
     simp only[decide_eq_true_eq] at h
     subst h;exact⟨v,rfl,hwf⟩
   · rename_i hu
     obtain⟨b,rfl,_⟩:=DataW.trod_bool hu hy
     exact⟨b,rfl,trivial⟩
   · rename_i hu
     obtain⟨s,rfl,_⟩:=DataW.trod_string hu hy
     exact⟨s,rfl,trivial⟩
   · rename_i e e' T' hu
     simp only[Bool.and_eq_true,beq_iff_eq] at h
     obtain⟨rfl,h⟩:=h
     have hce:P.cellsOf e'=T'.w:=by
      cases n with
      | zero=>simp[A73] at h
      | succ n=>simp only[A73,Bool.and_eq_true,beq_iff_eq] at h;exact h.1
     rcases open_slice hu hy with⟨rfl,_⟩|⟨a,len,cap,q,m',D,Pl,rfl,_,hl,hm,hq,_,hx⟩
     · exact⟨[],⟨none,0,rfl,by simp,by simp,fun h=>by simp at h⟩,fun x hx=>by cases hx⟩
     · simp only[if_true] at hq
       subst hq
       have each:∀i,i < len→∃x:T'.den,(∃vs:List Value,vs.length=T'.w∧(∀j,j < T'.w→W.cell? ((a.add (i * T'.w)).add j)=vs[j]?)∧Rd (fun _=>True) W T' vs x)∧T'.rg x:=fun i hi=>by
        obtain⟨cs',h1,h2⟩:=hx i (by omega)
        obtain⟨_,h3,h4⟩:=World.cells?_some h1
        rw[hce] at h3 h4
        obtain⟨x,r,g⟩:=ih m' _ _ _ _ h h2
        exact⟨x,⟨cs',h3,h4,r⟩,g⟩
       have hsp:0 < len→∃b o,a=⟨b,o,none⟩:=fun h0=>by
        obtain⟨x,⟨vs,h1,h2,_⟩,_⟩:=each 0 h0
        have h3:=h2 0 T'.w_pos
        rw[List.getElem?_eq_getElem (by have:=T'.w_pos;omega)] at h3
        have e0:(a.add (0 * T'.w)).add 0=a:=by simp[Addr.add]
        rw[e0] at h3;have hs:=World.cell?_spot h3
        obtain⟨b,off,sp⟩:=a;have hsp:sp=none:=hs
        exact⟨b,off,by rw[hsp]⟩
       refine⟨(List.range len).map fun i=>if hi:i < len then Classical.choose (each i hi) else T'.dflt,⟨some a,q,by simp,by simpa using hl,hm,fun h0=>?_⟩,fun x hx'=>?_⟩
       · have h0:0 < len:=by simpa using h0
         obtain⟨b,o,rfl⟩:=hsp h0
         refine⟨b,o,rfl,trivial,fun i hi=>?_⟩
         have hi:i < len:=by simpa using hi
         obtain⟨⟨vs,h1,h2,h3⟩,_⟩:=Classical.choose_spec (each i hi)
         refine⟨vs,h1,fun j hj=>?_,?_⟩
         · rw[←h2 j hj];have ad:∀(o j:Nat),(⟨b,o,none⟩:Addr).add j=⟨b,o+j,none⟩:=fun o j=>by unfold Addr.add;split<;>simp_all
           rw[ad,ad]
         · simp only[List.getElem_map,List.getElem_range,dif_pos hi];exact h3
       · obtain⟨i,hi,rfl⟩:=List.mem_map.1 hx'
         have hi:i < len:=by simpa using hi
         simp only[dif_pos hi];exact(Classical.choose_spec (each i hi)).2
   · cases h
theorem B9E {n:Nat} {r:Reach} {b0:Nat} {t:TypeId} {T:Ty} {v:Value} {d:DataW H} {p:List MemPlace} (h:A73 P n t T=true) (hv:Value.okWide P W r b0 t v) (ht:DataW.Trod enc P W 0 (fun _=>true) true t v d p) :
 ∃x:T.den,Rd (fun _=>True) W T v.cells.toList x∧T.rg x:=by
 obtain⟨m,hm⟩:=ht;exact B18 n m t T _ _ h hm
theorem B90 {T:Ty} {v:Value} {x:T.den} (h:Rd (fun _=>True) W T v.cells.toList x) (hT:(∃a b,T=.prod a b)∨v.cells=#[v]):VR Rz.none W ((PK.val T).av x) v:=by
 have h':Rd (okS Rz.none []) W T v.cells.toList x:=h.mono fun b _=>.inl rfl
 have hp:(∃a b,T=.prod a b)→v=.agg v.cells.toList.toArray:=fun ⟨a,b,e⟩=>by
  subst e;have hl:=h'.len
  have h1:=a.w_pos
  have h2:=b.w_pos
  simp only[Ty.w] at hl
  cases v<;>simp[Value.cells] at hl ⊢<;>omega
 refine Rd.av (S:=[]) h' ⟨rfl,hp,fun hn=>?_⟩
 rcases hT with hT|hT
 · exact absurd hT hn
 · rw[hT]
theorem B4a {f:FuncId} {k:Con} (h:C8 P f k) {x:A8Q k.ps} (hc:k.c x) {vs:Array Value} (hv:VRt Rz.none W (avs k.ps x) vs.toList) (hr:∀R' w' v,VR R' w' (S0 y5 [] k.rs (k.r x)) v→v=.bool true) (hg:Glob Rz.none W:=by exact fun p hp=>by cases hp) :
 Calls P f vs W fun e w'=>e=.returned (.bool true)∧Below W.heap.size W w' :=
 (h x hc Rz.none W vs hg hv).mono fun _ _ ⟨v,R',he,h1,_,h3⟩=>⟨by rw[he,hr _ _ _ h1],h3.os,h3.tape,h3.output,h3.size,fun b hb=>(h3.keep b hb (Nat.zero_le _)).1⟩
end
end Go.Proofs.YtenjbehedcegdaaGreat
