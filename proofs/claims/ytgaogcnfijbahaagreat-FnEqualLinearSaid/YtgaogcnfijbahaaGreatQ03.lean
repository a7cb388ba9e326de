/-
  Texts of this claim, joined (part 3). No condition beyond those of the theorems.
-/
import Derived.Test.YtgaogcnfijbahaaGreatQ02
import Derived.Test.YtgaogcnfijbahaaGreatChecked
import Derived.IntWalk
import Derived.Test.YtgaogcnfijbahaaGreatRows
import Derived.WalkKit
import Derived.ProofKit
import Derived.OpenShut
import Derived.ShutString
import Derived.ChangeOld
import Derived.Below
import Derived.Lib.SmallJoins
import Derived.Deep.Slices
namespace Go.Proofs.YtgaogcnfijbahaaGreat
open Go.RowKit
set_option linter.unusedSimpArgs false
set_option linter.unusedVariables false
def G:TypeId→Option Ty:=fun t =>
  if t=2 then some (.int .i64)
  else if t=3 then some (.int .i64)
  else if t=4 then some (.bool)
  else if t=5 then some (.int .u8)
  else if t=9 then some (.str)
  else if t=22 then some (.row 5 (.int .u8))
  else if t=24 then some (.row 26 (.row 2 (.int .i64)))
  else if t=25 then some (.row 95 (.prod (.int .i64) (.prod (.int .i64) (.prod (.int .i64) (.row 2 (.int .i64))))))
  else if t=26 then some (.row 2 (.int .i64))
  else if t=28 then some (.prod (.int .i64) (.prod (.row 26 (.row 2 (.int .i64))) (.prod (.row 95 (.prod (.int .i64) (.prod (.int .i64) (.prod (.int .i64) (.row 2 (.int .i64)))))) (.row 2 (.int .i64)))))
  else if t=50 then some (.prod (.row 2 (.int .i64)) (.row 2 (.int .i64)))
  else if t=54 then some (.prod (.int .i64) (.prod (.row 26 (.row 2 (.int .i64))) (.prod (.row 26 (.row 2 (.int .i64))) (.prod (.row 26 (.row 2 (.int .i64))) (.row 26 (.row 2 (.int .i64)))))))
  else if t=66 then some (.int .u64)
  else if t=68 then some (.prod (.row 5 (.int .u8)) (.prod (.int .i64) (.int .u64)))
  else if t=74 then some (.row 28 (.prod (.int .i64) (.prod (.row 26 (.row 2 (.int .i64))) (.prod (.row 95 (.prod (.int .i64) (.prod (.int .i64) (.prod (.int .i64) (.row 2 (.int .i64)))))) (.row 2 (.int .i64))))))
  else if t=89 then some (.row 26 (.row 2 (.int .i64)))
  else if t=95 then some (.prod (.int .i64) (.prod (.int .i64) (.prod (.int .i64) (.row 2 (.int .i64)))))
  else if t=106 then some (.row 50 (.prod (.row 2 (.int .i64)) (.row 2 (.int .i64))))
  else if t=116 then some (.prod (.prod (.int .i64) (.prod (.row 26 (.row 2 (.int .i64))) (.prod (.row 95 (.prod (.int .i64) (.prod (.int .i64) (.prod (.int .i64) (.row 2 (.int .i64)))))) (.row 2 (.int .i64))))) (.prod (.row 2 (.int .i64)) (.prod (.row 2 (.int .i64)) (.row 26 (.row 2 (.int .i64))))))
  else if t=137 then some (.int .u64)
  else if t=141 then some (.row 4 (.bool))
  else if t=144 then some (.prod (.str) (.prod (.int .i64) (.prod (.int .i64) (.prod (.int .i64) (.prod (.bool) (.bool))))))
  else if t=145 then some (.row 144 (.prod (.str) (.prod (.int .i64) (.prod (.int .i64) (.prod (.int .i64) (.prod (.bool) (.bool)))))))
  else if t=164 then some (.int .u32)
  else none
theorem C9V:S4 Tryz.prog 2=some 1:=by kernel_rfl
theorem C9K:j5 Tryz.prog 2=some (1,8):=by kernel_rfl
theorem C9d:I4 Tryz.prog 2=some [.int .i64 0]:=by kernel_rfl
theorem C9L:S4 Tryz.prog 3=some 1:=by kernel_rfl
theorem C9c:j5 Tryz.prog 3=some (1,8):=by kernel_rfl
theorem C9T:I4 Tryz.prog 3=some [.int .i64 0]:=by kernel_rfl
theorem C9O:S4 Tryz.prog 4=some 1:=by kernel_rfl
theorem C9W:j5 Tryz.prog 4=some (1,1):=by kernel_rfl
theorem C9Y:I4 Tryz.prog 4=some [.bool false]:=by kernel_rfl
theorem C9F:S4 Tryz.prog 5=some 1:=by kernel_rfl
theorem C9S:j5 Tryz.prog 5=some (1,1):=by kernel_rfl
theorem C9R:I4 Tryz.prog 5=some [.int .u8 0]:=by kernel_rfl
theorem C9I:S4 Tryz.prog 9=some 1:=by kernel_rfl
theorem C9P:j5 Tryz.prog 9=some (1,16):=by kernel_rfl
theorem C9H:I4 Tryz.prog 9=some [.string ByteArray.empty]:=by kernel_rfl
theorem C8u:S4 Tryz.prog 22=some 1:=by kernel_rfl
theorem C8o:j5 Tryz.prog 22=some (1,24):=by kernel_rfl
theorem C83:I4 Tryz.prog 22=some [.slice none 0 0]:=by kernel_rfl
theorem C8G:S4 Tryz.prog 24=some 1:=by kernel_rfl
theorem C8O:j5 Tryz.prog 24=some (1,24):=by kernel_rfl
theorem C8T:I4 Tryz.prog 24=some [.slice none 0 0]:=by kernel_rfl
theorem C8Y:S4 Tryz.prog 25=some 1:=by kernel_rfl
theorem C8l:j5 Tryz.prog 25=some (1,24):=by kernel_rfl
theorem C8r:I4 Tryz.prog 25=some [.slice none 0 0]:=by kernel_rfl
theorem C8p:S4 Tryz.prog 26=some 1:=by kernel_rfl
theorem C8B:j5 Tryz.prog 26=some (1,24):=by kernel_rfl
theorem C8x:I4 Tryz.prog 26=some [.slice none 0 0]:=by kernel_rfl
theorem C93:S4 Tryz.prog 28=some 4:=by kernel_rfl
theorem C8I:j5 Tryz.prog 28=some (4,80):=by kernel_rfl
theorem C8W:I4 Tryz.prog 28=some [.int .i64 0,.slice none 0 0,.slice none 0 0,.slice none 0 0]:=by kernel_rfl
theorem C8a:Z1 Tryz.prog 28=some [(0,1),(1,1),(2,1),(3,1)]:=by kernel_rfl
theorem C85:S4 Tryz.prog 50=some 2:=by kernel_rfl
theorem C9A:j5 Tryz.prog 50=some (2,48):=by kernel_rfl
theorem C8X:I4 Tryz.prog 50=some [.slice none 0 0,.slice none 0 0]:=by kernel_rfl
theorem C88:Z1 Tryz.prog 50=some [(0,1),(1,1)]:=by kernel_rfl
theorem C8L:S4 Tryz.prog 54=some 5:=by kernel_rfl
theorem C8s:j5 Tryz.prog 54=some (5,104):=by kernel_rfl
theorem C8M:I4 Tryz.prog 54=some [.int .i64 0,.slice none 0 0,.slice none 0 0,.slice none 0 0,.slice none 0 0]:=by kernel_rfl
theorem C8N:Z1 Tryz.prog 54=some [(0,1),(1,1),(2,1),(3,1),(4,1)]:=by kernel_rfl
theorem C8K:S4 Tryz.prog 66=some 1:=by kernel_rfl
theorem C98:j5 Tryz.prog 66=some (1,8):=by kernel_rfl
theorem C8d:I4 Tryz.prog 66=some [.int .u64 0]:=by kernel_rfl
theorem C89:S4 Tryz.prog 68=some 3:=by kernel_rfl
theorem C8S:j5 Tryz.prog 68=some (3,40):=by kernel_rfl
theorem C8g:I4 Tryz.prog 68=some [.slice none 0 0,.int .i64 0,.int .u64 0]:=by kernel_rfl
theorem C8q:Z1 Tryz.prog 68=some [(0,1),(1,1),(2,1)]:=by kernel_rfl
theorem C8j:S4 Tryz.prog 74=some 1:=by kernel_rfl
theorem C8i:j5 Tryz.prog 74=some (1,24):=by kernel_rfl
theorem C99:I4 Tryz.prog 74=some [.slice none 0 0]:=by kernel_rfl
theorem C8m:S4 Tryz.prog 89=some 1:=by kernel_rfl
theorem C8C:j5 Tryz.prog 89=some (1,24):=by kernel_rfl
theorem C94:I4 Tryz.prog 89=some [.slice none 0 0]:=by kernel_rfl
theorem C8c:Z1 Tryz.prog 89=some [(0,1)]:=by kernel_rfl
theorem C90:S4 Tryz.prog 95=some 4:=by kernel_rfl
theorem C8Z:j5 Tryz.prog 95=some (4,48):=by kernel_rfl
theorem C92:I4 Tryz.prog 95=some [.int .i64 0,.int .i64 0,.int .i64 0,.slice none 0 0]:=by kernel_rfl
theorem C86:Z1 Tryz.prog 95=some [(0,1),(1,1),(2,1),(3,1)]:=by kernel_rfl
theorem C7h:S4 Tryz.prog 106=some 1:=by kernel_rfl
theorem C7d:j5 Tryz.prog 106=some (1,24):=by kernel_rfl
theorem C7N:I4 Tryz.prog 106=some [.slice none 0 0]:=by kernel_rfl
theorem C7I:S4 Tryz.prog 116=some 7:=by kernel_rfl
theorem C7p:j5 Tryz.prog 116=some (7,152):=by kernel_rfl
theorem C7C:I4 Tryz.prog 116=some [.int .i64 0,.slice none 0 0,.slice none 0 0,.slice none 0 0,.slice none 0 0,.slice none 0 0,.slice none 0 0]:=by kernel_rfl
theorem C7n:Z1 Tryz.prog 116=some [(0,4),(4,1),(5,1),(6,1)]:=by kernel_rfl
theorem C71:S4 Tryz.prog 137=some 1:=by kernel_rfl
theorem C7k:j5 Tryz.prog 137=some (1,8):=by kernel_rfl
theorem C6n:I4 Tryz.prog 137=some [.int .u64 0]:=by kernel_rfl
theorem C73:S4 Tryz.prog 141=some 1:=by kernel_rfl
theorem C7R:j5 Tryz.prog 141=some (1,24):=by kernel_rfl
theorem C6u:I4 Tryz.prog 141=some [.slice none 0 0]:=by kernel_rfl
theorem C6z:S4 Tryz.prog 144=some 6:=by kernel_rfl
theorem C6w:j5 Tryz.prog 144=some (6,48):=by kernel_rfl
theorem C6s:I4 Tryz.prog 144=some [.string ByteArray.empty,.int .i64 0,.int .i64 0,.int .i64 0,.bool false,.bool false]:=by kernel_rfl
theorem C74:Z1 Tryz.prog 144=some [(0,1),(1,1),(2,1),(3,1),(4,1),(5,1)]:=by kernel_rfl
theorem C6x:S4 Tryz.prog 145=some 1:=by kernel_rfl
theorem C7B:j5 Tryz.prog 145=some (1,24):=by kernel_rfl
theorem C7W:I4 Tryz.prog 145=some [.slice none 0 0]:=by kernel_rfl
theorem C7M:S4 Tryz.prog 164=some 1:=by kernel_rfl
theorem C79:j5 Tryz.prog 164=some (1,4):=by kernel_rfl
theorem C7l:I4 Tryz.prog 164=some [.int .u32 0]:=by kernel_rfl
theorem C7j:S4 Tryz.prog 118=some 1:=by kernel_rfl
attribute [go_sem] G C9V C9K C9d C9L C9c C9T C9O C9W C9Y C9F C9S C9R C9I C9P C9H C8u C8o C83 C8G C8O C8T C8Y C8l C8r C8p C8B C8x C93 C8I C8W C8a C85 C9A C8X C88 C8L C8s C8M C8N C8K C98 C8d C89 C8S C8g C8q C8j C8i C99 C8m C8C C94 C8c C90 C8Z C92 C86 C7h C7d C7N C7I C7p C7C C7n C71 C7k C6n C73 C7R C6u C6z C6w C6s C74 C6x C7B C7W C7M C79 C7l C7j
attribute [go_sem] Tryz.underlying2 Tryz.underlying3 Tryz.underlying4 Tryz.underlying5 Tryz.underlying9 Tryz.underlying22 Tryz.underlying24 Tryz.underlying25 Tryz.underlying26 Tryz.underlying28 Tryz.underlying50 Tryz.underlying54 Tryz.underlying66 Tryz.underlying68 Tryz.underlying74 Tryz.underlying89 Tryz.underlying95 Tryz.underlying106 Tryz.underlying116 Tryz.underlying137 Tryz.underlying141 Tryz.underlying144 Tryz.underlying145 Tryz.underlying164
theorem C84:Tryz.prog.follows .mixedOrders=true:=by kernel_rfl
theorem oR {σ:St} {Q:Exit→St→Prop} {id:Nat} {ops:Array Oper} {T:E4} (hT:B4 Tryz.prog T) (bf dn dc:List (List Nat)) (hS:C4z ops.toList bf dn dc=true) (hb:decide (bf.length≤ops.toList.length)=true) (h:A3v Tryz.prog G T dn ops.toList ops.toList 0 σ [] (fun σ' rs=>B5S ops.toList.length bf dc 0 rs=true∧Q .normal σ')):AWP Tryz.prog (.region id ops true) σ Q:=C1t hT C84 bf dn dc hS hb h
theorem oW {σ:St} {Q:Exit→St→Prop} {id:Nat} {ops:Array Oper} {T:E4} (hT:B4 Tryz.prog T) (h:A9a Tryz.prog G T ops.toList ops.toList σ (Q .normal)):AWP Tryz.prog (.region id ops false) σ Q:=B7P hT h
def T0:E4:=fun _=>none
theorem C1r:B4 Tryz.prog T0:=fun f k h=>by cases h
open Go.ChangeShapes Go.WideShapes Go.ChangeAt Go.RowKit
theorem own:ownKnob Tryz.prog.godebug=none:=by kernel_rfl
theorem B8Q:laidOutB Tryz.prog=true:=by kernel_rfl
open Go.ChangeShapes Go.WideShapes Go.ChangeAt Go.RowKit Go.Joins Go.Deep
def Rz.none:Rz:=⟨fun _=>0,fun _=>default,fun _=>0⟩
def B6z (P:Program) (rec:TypeId→Ty→Bool):List Field→Nat→Ty→Bool
 | [],_,_=>false
 | [f],off,T=>f.offset == off && P.cellsOf f.type == T.w && rec f.type T
 | f::g::l,off,.prod a b=>f.offset == off && P.cellsOf f.type == a.w && rec f.type a && B6z P rec (g::l) (off+a.w) b
 | _,_,_=>false
def B0s (P:Program):Nat→TypeId→Ty→Bool
 | 0,_,_=>false
 | n + 1, t, T => P.cellsOf t == T.w && match P.underlying t, T with
   | some (.struct fs),T=>B6z P (B0s P n) fs.toList 0 T
   | some (.int k),.int k'=>decide (k=k')
   | some .bool,.bool=>true
   | some .string,.str=>true
   | some (.slice e),.row e' T'=>e' == e && B0s P n e T'
   | _,_=>false
def Ty.rg:(t:Ty)→t.den→Prop
 | .int k,n=>(Lit.int k n).wf=true
 | .bool,_=>True
 | .str,_=>True
 | .prod a b,x=>a.rg x.1∧b.rg x.2
 | .row _ t,xs=>∀x∈xs,t.rg x
section
variable {P:Program} {H:Type} {enc:TypeId × Value→H} {W:World}
theorem B2s {n m:Nat} {cs:List Value} (ih:∀(t:TypeId) (T:Ty) (cs:List Value) (y:DataW H × List MemPlace),B0s P n t T=true→DataW.trod enc P W 0 (fun _=>true) true m t cs=some y→∃x:T.den,Rd (fun _=>True) W T cs x∧T.rg x) :
 ∀ (l : List Field) (off : Nat) (T : Ty) (xs : List (DataW H × List MemPlace)), B6z P (B0s P n) l off T = true → (∀ (i : Nat) (f : Field), l[i]? = some f → ∃ y, DataW.trod enc P W 0 (fun _ => true) true m f.type ((cs.drop f.offset).take (P.cellsOf f.type)) = some y) →
   ∃x:T.den,Rd (fun _=>True) W T ((cs.drop off).take T.w) x∧T.rg x:=by
 intro l
 induction l with
 | nil=>intro off T xs h;simp[B6z] at h
 | cons f l ihl =>
   intro off T xs h hf
   cases l with
   | nil =>
     simp only[B6z,Bool.and_eq_true,beq_iff_eq] at h
     obtain⟨⟨h1,h2⟩,h3⟩:=h
     obtain⟨y,hy⟩:=hf 0 f rfl
     rw[h1,h2] at hy;exact ih _ _ _ _ h3 hy
   | cons g l =>
     cases T with
     | prod a b =>
       simp only[B6z,Bool.and_eq_true,beq_iff_eq] at h
       obtain⟨⟨⟨h1,h2⟩,h3⟩,h4⟩:=h
       obtain⟨y,hy⟩:=hf 0 f rfl
       rw[h1,h2] at hy;obtain⟨x1,r1,g1⟩:=ih _ _ _ _ h3 hy
       obtain⟨x2,r2,g2⟩:=ihl (off+a.w) b xs h4 fun i f' hf'=>hf (i+1) f' (by simpa using hf')
       refine⟨(x1,x2),⟨_,_,?_,r1,r2⟩,g1,g2⟩
       have hl:=r1.len
       have e1:(cs.drop off).drop a.w=cs.drop (off+a.w):=by rw[List.drop_drop]
       rw[←e1];show (cs.drop off).take (a.w+b.w)=_
       rw[List.take_add]
     | _=>simp[B6z] at h
theorem B6x:∀(n m:Nat) (t:TypeId) (T:Ty) (cs:List Value) (y:DataW H × List MemPlace),B0s P n t T=true→DataW.trod enc P W 0 (fun _=>true) true m t cs=some y→∃x:T.den,Rd (fun _=>True) W T cs x∧T.rg x:=by
 intro n
 induction n with
 | zero=>intro m t T cs y h;simp[B0s] at h
 | succ n ih =>
   intro m t T cs y h hy
   simp only[B0s,Bool.and_eq_true,beq_iff_eq] at h
   obtain⟨hw,h⟩:=h
   split at h
   · rename_i T' fs hu
     obtain⟨xs,m',rfl,rfl,hl,hx,hf⟩:=DataW.trod_struct hu hy
     obtain⟨x,r,g⟩:=B2s (m:=m') (cs:=cs) (fun t T cs y h1 h2=>ih m' t T cs y h1 h2) fs.toList 0 _ xs h (fun i f hf'=>by
      have h1:fs[i]?=some f:=by rw[←Array.getElem?_toList];exact hf'
      have h2:=hf i f h1
      have hi:i < xs.length:=by rw[hx];exact(Array.getElem?_eq_some_iff.1 h1).1
      rw[List.getElem?_eq_getElem hi] at h2
      exact⟨_,h2⟩)
     refine⟨x,?_,g⟩
     rw[List.drop_zero,List.take_of_length_le (by omega)] at r
     exact r
   · rename_i k k' hu
     obtain⟨v,rfl,_,hwf⟩:=DataW.trod_int hu hy
     simp only[decide_eq_true_eq] at h
     subst h;exact⟨v,rfl,hwf⟩
   · rename_i hu
     obtain⟨b,rfl,_⟩:=DataW.trod_bool hu hy
     exact⟨b,rfl,trivial⟩
   · rename_i hu
     obtain⟨s,rfl,_⟩:=DataW.trod_string hu hy
     exact⟨s,rfl,trivial⟩
   · rename_i e e' T' hu
     simp only[Bool.and_eq_true,beq_iff_eq] at h
     obtain⟨rfl,h⟩:=h
     have hce:P.cellsOf e'=T'.w:=by
      cases n with
      | zero=>simp[B0s] at h
      | succ n=>simp only[B0s,Bool.and_eq_true,beq_iff_eq] at h;exact h.1
     rcases open_slice hu hy with⟨rfl,_⟩|⟨a,len,cap,q,m',D,Pl,rfl,_,hl,hm,hq,_,hx⟩
     · exact⟨[],⟨none,0,rfl,by simp,by simp,fun h=>by simp at h⟩,fun x hx=>by cases hx⟩
     · simp only[if_true] at hq
       subst hq
       have each:∀i,i < len→∃x:T'.den,(∃vs:List Value,vs.length=T'.w∧(∀j,j < T'.w→W.cell? ((a.add (i * T'.w)).add j)=vs[j]?)∧Rd (fun _=>True) W T' vs x)∧T'.rg x:=fun i hi=>by
        obtain⟨cs',h1,h2⟩:=hx i (by omega)
        obtain⟨_,h3,h4⟩:=World.cells?_some h1
        rw[hce] at h3 h4
        obtain⟨x,r,g⟩:=ih m' _ _ _ _ h h2
        exact⟨x,⟨cs',h3,h4,r⟩,g⟩
       have hsp:0 < len→∃b o,a=⟨b,o,none⟩:=fun h0=>by
        obtain⟨x,⟨vs,h1,h2,_⟩,_⟩:=each 0 h0
        have h3:=h2 0 T'.w_pos
        rw[List.getElem?_eq_getElem (by have:=T'.w_pos;omega)] at h3
        have e0:(a.add (0 * T'.w)).add 0=a:=by simp[Addr.add]
        rw[e0] at h3;have hs:=World.cell?_spot h3
        obtain⟨b,off,sp⟩:=a;have hsp:sp=none:=hs
        exact⟨b,off,by rw[hsp]⟩
       refine⟨(List.range len).map fun i=>if hi:i < len then Classical.choose (each i hi) else T'.dflt,⟨some a,q,by simp,by simpa using hl,hm,fun h0=>?_⟩,fun x hx'=>?_⟩
       · have h0:0 < len:=by simpa using h0
         obtain⟨b,o,rfl⟩:=hsp h0
         refine⟨b,o,rfl,trivial,fun i hi=>?_⟩
         have hi:i < len:=by simpa using hi
         obtain⟨⟨vs,h1,h2,h3⟩,_⟩:=Classical.choose_spec (each i hi)
         refine⟨vs,h1,fun j hj=>?_,?_⟩
         · rw[←h2 j hj];have ad:∀(o j:Nat),(⟨b,o,none⟩:Addr).add j=⟨b,o+j,none⟩:=fun o j=>by unfold Addr.add;split<;>simp_all
           rw[ad,ad]
         · simp only[List.getElem_map,List.getElem_range,dif_pos hi];exact h3
       · obtain⟨i,hi,rfl⟩:=List.mem_map.1 hx'
         have hi:i < len:=by simpa using hi
         simp only[dif_pos hi];exact(Classical.choose_spec (each i hi)).2
   · cases h
theorem C3i {n:Nat} {r:Reach} {b0:Nat} {t:TypeId} {T:Ty} {v:Value} {d:DataW H} {p:List MemPlace} (h:B0s P n t T=true) (hv:Value.okWide P W r b0 t v) (ht:DataW.Trod enc P W 0 (fun _=>true) true t v d p) :
 ∃x:T.den,Rd (fun _=>True) W T v.cells.toList x∧T.rg x:=by
 obtain⟨m,hm⟩:=ht;exact B6x n m t T _ _ h hm
theorem C3m {T:Ty} {v:Value} {x:T.den} (h:Rd (fun _=>True) W T v.cells.toList x) (hT:(∃a b,T=.prod a b)∨v.cells=#[v]):VR Rz.none W ((PK.val T).av x) v:=by
 have h':Rd (okS Rz.none []) W T v.cells.toList x:=h.mono fun b _=>.inl rfl
 have hp:(∃a b,T=.prod a b)→v=.agg v.cells.toList.toArray:=fun ⟨a,b,e⟩=>by
  subst e;have hl:=h'.len
  have h1:=a.w_pos
  have h2:=b.w_pos
  simp only[Ty.w] at hl
  cases v<;>simp[Value.cells] at hl ⊢<;>omega
 refine Rd.av (S:=[]) h' ⟨rfl,hp,fun hn=>?_⟩
 rcases hT with hT|hT
 · exact absurd hT hn
 · rw[hT]
theorem B9Y {f:FuncId} {k:Con} (h:C9 P f k) {x:B3D k.ps} (hc:k.c x) {vs:Array Value} (hv:VRt Rz.none W (avs k.ps x) vs.toList) (hr:∀R' w' v,VR R' w' (W6 inN [] k.rs (k.r x)) v→v=.bool true) :
 Calls P f vs W fun e w'=>e=.returned (.bool true)∧Below W.heap.size W w' :=
 (h x hc Rz.none W vs hv).mono fun _ _ ⟨v,R',he,h1,_,h3⟩=>⟨by rw[he,hr _ _ _ h1],h3.os,h3.tape,h3.output,h3.size,fun b hb=>(h3.keep b hb (Nat.zero_le _)).1⟩
end
end Go.Proofs.YtgaogcnfijbahaaGreat
