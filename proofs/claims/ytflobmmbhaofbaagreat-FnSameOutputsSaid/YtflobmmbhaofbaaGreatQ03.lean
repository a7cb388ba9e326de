/-
  Texts of this claim, joined (part 3). No condition beyond those of the theorems.
-/
import Derived.Test.YtflobmmbhaofbaaGreatQ02
import Derived.Test.YtflobmmbhaofbaaGreatChecked
import Derived.IntWalk
import Derived.Test.YtflobmmbhaofbaaGreatRows
import Derived.WalkKit
import Derived.ProofKit
import Derived.OpenShut
import Derived.ShutString
import Derived.ChangeOld
import Derived.Below
import Derived.Lib.SmallJoins
import Derived.Deep.Slices
namespace Go.Proofs.YtflobmmbhaofbaaGreat
open Go.RowKit
set_option linter.unusedSimpArgs false
set_option linter.unusedVariables false
def G:TypeId→Option Ty:=fun t =>
  if t=2 then some (.int .i64)
  else if t=3 then some (.int .i64)
  else if t=4 then some (.bool)
  else if t=5 then some (.int .u8)
  else if t=9 then some (.str)
  else if t=22 then some (.row 5 (.int .u8))
  else if t=24 then some (.row 26 (.row 2 (.int .i64)))
  else if t=25 then some (.row 56 (.prod (.int .i64) (.prod (.int .i64) (.prod (.int .i64) (.row 2 (.int .i64))))))
  else if t=26 then some (.row 2 (.int .i64))
  else if t=28 then some (.prod (.int .i64) (.prod (.row 26 (.row 2 (.int .i64))) (.prod (.row 56 (.prod (.int .i64) (.prod (.int .i64) (.prod (.int .i64) (.row 2 (.int .i64)))))) (.row 2 (.int .i64)))))
  else if t=45 then some (.prod (.row 26 (.row 2 (.int .i64))) (.prod (.row 56 (.prod (.int .i64) (.prod (.int .i64) (.prod (.int .i64) (.row 2 (.int .i64)))))) (.row 2 (.int .i64))))
  else if t=56 then some (.prod (.int .i64) (.prod (.int .i64) (.prod (.int .i64) (.row 2 (.int .i64)))))
  else if t=61 then some (.int .u64)
  else if t=63 then some (.prod (.row 5 (.int .u8)) (.prod (.int .i64) (.int .u64)))
  else if t=68 then some (.row 28 (.prod (.int .i64) (.prod (.row 26 (.row 2 (.int .i64))) (.prod (.row 56 (.prod (.int .i64) (.prod (.int .i64) (.prod (.int .i64) (.row 2 (.int .i64)))))) (.row 2 (.int .i64))))))
  else if t=83 then some (.row 26 (.row 2 (.int .i64)))
  else if t=91 then some (.row 117 (.prod (.int .i64) (.int .i64)))
  else if t=97 then some (.row 3 (.int .i64))
  else if t=117 then some (.prod (.int .i64) (.int .i64))
  else if t=123 then some (.row 4 (.bool))
  else if t=131 then some (.int .u64)
  else if t=137 then some (.prod (.str) (.prod (.int .i64) (.prod (.int .i64) (.prod (.int .i64) (.prod (.bool) (.bool))))))
  else if t=138 then some (.row 137 (.prod (.str) (.prod (.int .i64) (.prod (.int .i64) (.prod (.int .i64) (.prod (.bool) (.bool)))))))
  else if t=156 then some (.int .u32)
  else none
theorem C5S:Q0 Tryz.prog 2=some 1:=by kernel_rfl
theorem C5e:g9 Tryz.prog 2=some (1,8):=by kernel_rfl
theorem C5P:I7 Tryz.prog 2=some [.int .i64 0]:=by kernel_rfl
theorem C5c:Q0 Tryz.prog 3=some 1:=by kernel_rfl
theorem C5d:g9 Tryz.prog 3=some (1,8):=by kernel_rfl
theorem C5V:I7 Tryz.prog 3=some [.int .i64 0]:=by kernel_rfl
theorem C5W:Q0 Tryz.prog 4=some 1:=by kernel_rfl
theorem C5Q:g9 Tryz.prog 4=some (1,1):=by kernel_rfl
theorem C5g:I7 Tryz.prog 4=some [.bool false]:=by kernel_rfl
theorem C5U:Q0 Tryz.prog 5=some 1:=by kernel_rfl
theorem C5R:g9 Tryz.prog 5=some (1,1):=by kernel_rfl
theorem C5J:I7 Tryz.prog 5=some [.int .u8 0]:=by kernel_rfl
theorem C5T:Q0 Tryz.prog 9=some 1:=by kernel_rfl
theorem C5L:g9 Tryz.prog 9=some (1,16):=by kernel_rfl
theorem C5N:I7 Tryz.prog 9=some [.string ByteArray.empty]:=by kernel_rfl
theorem C4d:Q0 Tryz.prog 22=some 1:=by kernel_rfl
theorem C4N:g9 Tryz.prog 22=some (1,24):=by kernel_rfl
theorem C4u:I7 Tryz.prog 22=some [.slice none 0 0]:=by kernel_rfl
theorem C4q:Q0 Tryz.prog 24=some 1:=by kernel_rfl
theorem C5E:g9 Tryz.prog 24=some (1,24):=by kernel_rfl
theorem C4M:I7 Tryz.prog 24=some [.slice none 0 0]:=by kernel_rfl
theorem C4p:Q0 Tryz.prog 25=some 1:=by kernel_rfl
theorem C4X:g9 Tryz.prog 25=some (1,24):=by kernel_rfl
theorem C4H:I7 Tryz.prog 25=some [.slice none 0 0]:=by kernel_rfl
theorem C4W:Q0 Tryz.prog 26=some 1:=by kernel_rfl
theorem C4z:g9 Tryz.prog 26=some (1,24):=by kernel_rfl
theorem C4g:I7 Tryz.prog 26=some [.slice none 0 0]:=by kernel_rfl
theorem C5H:Q0 Tryz.prog 28=some 4:=by kernel_rfl
theorem C5F:g9 Tryz.prog 28=some (4,80):=by kernel_rfl
theorem C4T:I7 Tryz.prog 28=some [.int .i64 0,.slice none 0 0,.slice none 0 0,.slice none 0 0]:=by kernel_rfl
theorem C4R:b9 Tryz.prog 28=some [(0,1),(1,1),(2,1),(3,1)]:=by kernel_rfl
theorem C55:Q0 Tryz.prog 45=some 3:=by kernel_rfl
theorem C5G:g9 Tryz.prog 45=some (3,72):=by kernel_rfl
theorem C4Z:I7 Tryz.prog 45=some [.slice none 0 0,.slice none 0 0,.slice none 0 0]:=by kernel_rfl
theorem C4y:b9 Tryz.prog 45=some [(0,1),(1,1),(2,1)]:=by kernel_rfl
theorem C5D:Q0 Tryz.prog 56=some 4:=by kernel_rfl
theorem C4C:g9 Tryz.prog 56=some (4,48):=by kernel_rfl
theorem C4t:I7 Tryz.prog 56=some [.int .i64 0,.int .i64 0,.int .i64 0,.slice none 0 0]:=by kernel_rfl
theorem C50:b9 Tryz.prog 56=some [(0,1),(1,1),(2,1),(3,1)]:=by kernel_rfl
theorem C4x:Q0 Tryz.prog 61=some 1:=by kernel_rfl
theorem C5A:g9 Tryz.prog 61=some (1,8):=by kernel_rfl
theorem C4O:I7 Tryz.prog 61=some [.int .u64 0]:=by kernel_rfl
theorem C4L:Q0 Tryz.prog 63=some 3:=by kernel_rfl
theorem C4j:g9 Tryz.prog 63=some (3,40):=by kernel_rfl
theorem C5C:I7 Tryz.prog 63=some [.slice none 0 0,.int .i64 0,.int .u64 0]:=by kernel_rfl
theorem C4I:b9 Tryz.prog 63=some [(0,1),(1,1),(2,1)]:=by kernel_rfl
theorem C53:Q0 Tryz.prog 68=some 1:=by kernel_rfl
theorem C4h:g9 Tryz.prog 68=some (1,24):=by kernel_rfl
theorem C4v:I7 Tryz.prog 68=some [.slice none 0 0]:=by kernel_rfl
theorem C4K:Q0 Tryz.prog 83=some 1:=by kernel_rfl
theorem C5B:g9 Tryz.prog 83=some (1,24):=by kernel_rfl
theorem C4J:I7 Tryz.prog 83=some [.slice none 0 0]:=by kernel_rfl
theorem C4U:b9 Tryz.prog 83=some [(0,1)]:=by kernel_rfl
theorem C4E:Q0 Tryz.prog 91=some 1:=by kernel_rfl
theorem C59:g9 Tryz.prog 91=some (1,24):=by kernel_rfl
theorem C4l:I7 Tryz.prog 91=some [.slice none 0 0]:=by kernel_rfl
theorem C4n:Q0 Tryz.prog 97=some 1:=by kernel_rfl
theorem C57:g9 Tryz.prog 97=some (1,24):=by kernel_rfl
theorem C4w:I7 Tryz.prog 97=some [.slice none 0 0]:=by kernel_rfl
theorem C3k:Q0 Tryz.prog 117=some 2:=by kernel_rfl
theorem C3N:g9 Tryz.prog 117=some (2,16):=by kernel_rfl
theorem C32:I7 Tryz.prog 117=some [.int .i64 0,.int .i64 0]:=by kernel_rfl
theorem C45:b9 Tryz.prog 117=some [(0,1),(1,1)]:=by kernel_rfl
theorem C3f:Q0 Tryz.prog 123=some 1:=by kernel_rfl
theorem C33:g9 Tryz.prog 123=some (1,24):=by kernel_rfl
theorem C3v:I7 Tryz.prog 123=some [.slice none 0 0]:=by kernel_rfl
theorem C3y:Q0 Tryz.prog 131=some 1:=by kernel_rfl
theorem C3J:g9 Tryz.prog 131=some (1,8):=by kernel_rfl
theorem C3L:I7 Tryz.prog 131=some [.int .u64 0]:=by kernel_rfl
theorem C3T:Q0 Tryz.prog 137=some 6:=by kernel_rfl
theorem C3u:g9 Tryz.prog 137=some (6,48):=by kernel_rfl
theorem C3q:I7 Tryz.prog 137=some [.string ByteArray.empty,.int .i64 0,.int .i64 0,.int .i64 0,.bool false,.bool false]:=by kernel_rfl
theorem C3Z:b9 Tryz.prog 137=some [(0,1),(1,1),(2,1),(3,1),(4,1),(5,1)]:=by kernel_rfl
theorem C41:Q0 Tryz.prog 138=some 1:=by kernel_rfl
theorem C3P:g9 Tryz.prog 138=some (1,24):=by kernel_rfl
theorem C35:I7 Tryz.prog 138=some [.slice none 0 0]:=by kernel_rfl
theorem C3Q:Q0 Tryz.prog 156=some 1:=by kernel_rfl
theorem C3O:g9 Tryz.prog 156=some (1,4):=by kernel_rfl
theorem C3G:I7 Tryz.prog 156=some [.int .u32 0]:=by kernel_rfl
theorem C4f:Q0 Tryz.prog 75=some 1:=by kernel_rfl
theorem C52:Q0 Tryz.prog 99=some 1:=by kernel_rfl
attribute [go_sem] G C5S C5e C5P C5c C5d C5V C5W C5Q C5g C5U C5R C5J C5T C5L C5N C4d C4N C4u C4q C5E C4M C4p C4X C4H C4W C4z C4g C5H C5F C4T C4R C55 C5G C4Z C4y C5D C4C C4t C50 C4x C5A C4O C4L C4j C5C C4I C53 C4h C4v C4K C5B C4J C4U C4E C59 C4l C4n C57 C4w C3k C3N C32 C45 C3f C33 C3v C3y C3J C3L C3T C3u C3q C3Z C41 C3P C35 C3Q C3O C3G C4f C52
attribute [go_sem] Tryz.underlying2 Tryz.underlying3 Tryz.underlying4 Tryz.underlying5 Tryz.underlying9 Tryz.underlying22 Tryz.underlying24 Tryz.underlying25 Tryz.underlying26 Tryz.underlying28 Tryz.underlying45 Tryz.underlying56 Tryz.underlying61 Tryz.underlying63 Tryz.underlying68 Tryz.underlying83 Tryz.underlying91 Tryz.underlying97 Tryz.underlying117 Tryz.underlying123 Tryz.underlying131 Tryz.underlying137 Tryz.underlying138 Tryz.underlying156
theorem C4V:Tryz.prog.follows .mixedOrders=true:=by kernel_rfl
theorem oR {σ:St} {Q:Exit→St→Prop} {id:Nat} {ops:Array Oper} {T:F8} (hT:B8 Tryz.prog T) (bf dn dc:List (List Nat)) (hS:C27 ops.toList bf dn dc=true) (hb:decide (bf.length≤ops.toList.length)=true) (h:A2k Tryz.prog G T dn ops.toList ops.toList 0 σ [] (fun σ' rs=>B3V ops.toList.length bf dc 0 rs=true∧Q .normal σ')):AWP Tryz.prog (.region id ops true) σ Q:=B8z hT C4V bf dn dc hS hb h
theorem oW {σ:St} {Q:Exit→St→Prop} {id:Nat} {ops:Array Oper} {T:F8} (hT:B8 Tryz.prog T) (h:A8e Tryz.prog G T ops.toList ops.toList σ (Q .normal)):AWP Tryz.prog (.region id ops false) σ Q:=B4n hT h
def T0:F8:=fun _=>none
theorem A3p:B8 Tryz.prog T0:=fun f k h=>by cases h
open Go.ChangeShapes Go.WideShapes Go.ChangeAt Go.RowKit
theorem own:ownKnob Tryz.prog.godebug=none:=by kernel_rfl
theorem B77:laidOutB Tryz.prog=true:=by kernel_rfl
open Go.ChangeShapes Go.WideShapes Go.ChangeAt Go.RowKit Go.Joins Go.Deep
def Rz.none:Rz:=⟨fun _=>0,fun _=>default,fun _=>0⟩
def B5n (P:Program) (rec:TypeId→Ty→Bool):List Field→Nat→Ty→Bool
 | [],_,_=>false
 | [f],off,T=>f.offset == off && P.cellsOf f.type == T.w && rec f.type T
 | f::g::l,off,.prod a b=>f.offset == off && P.cellsOf f.type == a.w && rec f.type a && B5n P rec (g::l) (off+a.w) b
 | _,_,_=>false
def A9S (P:Program):Nat→TypeId→Ty→Bool
 | 0,_,_=>false
 | n + 1, t, T => P.cellsOf t == T.w && match P.underlying t, T with
   | some (.struct fs),T=>B5n P (A9S P n) fs.toList 0 T
   | some (.int k),.int k'=>decide (k=k')
   | some .bool,.bool=>true
   | some .string,.str=>true
   | some (.slice e),.row e' T'=>e' == e && A9S P n e T'
   | _,_=>false
def Ty.rg:(t:Ty)→t.den→Prop
 | .int k,n=>(Lit.int k n).wf=true
 | .bool,_=>True
 | .str,_=>True
 | .prod a b,x=>a.rg x.1∧b.rg x.2
 | .row _ t,xs=>∀x∈xs,t.rg x
section
variable {P:Program} {H:Type} {enc:TypeId × Value→H} {W:World}
theorem B24 {n m:Nat} {cs:List Value} (ih:∀(t:TypeId) (T:Ty) (cs:List Value) (y:DataW H × List MemPlace),A9S P n t T=true→DataW.trod enc P W 0 (fun _=>true) true m t cs=some y→∃x:T.den,Rd (fun _=>True) W T cs x∧T.rg x) :
 ∀ (l : List Field) (off : Nat) (T : Ty) (xs : List (DataW H × List MemPlace)), B5n P (A9S P n) l off T = true → (∀ (i : Nat) (f : Field), l[i]? = some f → ∃ y, DataW.trod enc P W 0 (fun _ => true) true m f.type ((cs.drop f.offset).take (P.cellsOf f.type)) = some y) →
   ∃x:T.den,Rd (fun _=>True) W T ((cs.drop off).take T.w) x∧T.rg x:=by
 intro l
 induction l with
 | nil=>intro off T xs h;simp[B5n] at h
 | cons f l ihl =>
   intro off T xs h hf
   cases l with
   | nil =>
     simp only[B5n,Bool.and_eq_true,beq_iff_eq] at h
     obtain⟨⟨h1,h2⟩,h3⟩:=h
     obtain⟨y,hy⟩:=hf 0 f rfl
     rw[h1,h2] at hy;exact ih _ _ _ _ h3 hy
   | cons g l =>
     cases T with
     | prod a b =>
       simp only[B5n,Bool.and_eq_true,beq_iff_eq] at h
       obtain⟨⟨⟨h1,h2⟩,h3⟩,h4⟩:=h
       obtain⟨y,hy⟩:=hf 0 f rfl
       rw[h1,h2] at hy;obtain⟨x1,r1,g1⟩:=ih _ _ _ _ h3 hy
       obtain⟨x2,r2,g2⟩:=ihl (off+a.w) b xs h4 fun i f' hf'=>hf (i+1) f' (by simpa using hf')
       refine⟨(x1,x2),⟨_,_,?_,r1,r2⟩,g1,g2⟩
       have hl:=r1.len
       have e1:(cs.drop off).drop a.w=cs.drop (off+a.w):=by rw[List.drop_drop]
       rw[←e1];show (cs.drop off).take (a.w+b.w)=_
       rw[List.take_add]
     | _=>simp[B5n] at h
theorem B4c:∀(n m:Nat) (t:TypeId) (T:Ty) (cs:List Value) (y:DataW H × List MemPlace),A9S P n t T=true→DataW.trod enc P W 0 (fun _=>true) true m t cs=some y→∃x:T.den,Rd (fun _=>True) W T cs x∧T.rg x:=by
 intro n
 induction n with
 | zero=>intro m t T cs y h;simp[A9S] at h
 | succ n ih =>
   intro m t T cs y h hy
   simp only[A9S,Bool.and_eq_true,beq_iff_eq] at h
   obtain⟨hw,h⟩:=h
   split at h
   · rename_i T' fs hu
     obtain⟨xs,m',rfl,rfl,hl,hx,hf⟩:=DataW.trod_struct hu hy
     obtain⟨x,r,g⟩:=B24 (m:=m') (cs:=cs) (fun t T cs y h1 h2=>ih m' t T cs y h1 h2) fs.toList 0 _ xs h (fun i f hf'=>by
      have h1:fs[i]?=some f:=by rw[←Array.getElem?_toList];exact hf'
      have h2:=hf i f h1
      have hi:i < xs.length:=by rw[hx];exact(Array.getElem?_eq_some_iff.1 h1).1
      rw[List.getElem?_eq_getElem hi] at h2
      exact⟨_,h2⟩)
     refine⟨x,?_,g⟩
     rw[List.drop_zero,List.take_of_length_le (by omega)] at r
     exact r
   · rename_i k k' hu
     obtain⟨v,rfl,_,hwf⟩:=DataW.trod_int hu hy
     simp only[decide_eq_true_eq] at h
     subst h;exact⟨v,rfl,hwf⟩
   · rename_i hu
     obtain⟨b,rfl,_⟩:=DataW.trod_bool hu hy
     exact⟨b,rfl,trivial⟩
   · rename_i hu
     obtain⟨s,rfl,_⟩:=DataW.trod_string hu hy
     exact⟨s,rfl,trivial⟩
   · rename_i e e' T' hu
     simp only[Bool.and_eq_true,beq_iff_eq] at h
     obtain⟨rfl,h⟩:=h
     have hce:P.cellsOf e'=T'.w:=by
      cases n with
      | zero=>simp[A9S] at h
      | succ n=>simp only[A9S,Bool.and_eq_true,beq_iff_eq] at h;exact h.1
     rcases open_slice hu hy with⟨rfl,_⟩|⟨a,len,cap,q,m',D,Pl,rfl,_,hl,hm,hq,_,hx⟩
     · exact⟨[],⟨none,0,rfl,by simp,by simp,fun h=>by simp at h⟩,fun x hx=>by cases hx⟩
     · simp only[if_true] at hq
       subst hq
       have each:∀i,i < len→∃x:T'.den,(∃vs:List Value,vs.length=T'.w∧(∀j,j < T'.w→W.cell? ((a.add (i * T'.w)).add j)=vs[j]?)∧Rd (fun _=>True) W T' vs x)∧T'.rg x:=fun i hi=>by
        obtain⟨cs',h1,h2⟩:=hx i (by omega)
        obtain⟨_,h3,h4⟩:=World.cells?_some h1
        rw[hce] at h3 h4
        obtain⟨x,r,g⟩:=ih m' _ _ _ _ h h2
        exact⟨x,⟨cs',h3,h4,r⟩,g⟩
       have hsp:0 < len→∃b o,a=⟨b,o,none⟩:=fun h0=>by
        obtain⟨x,⟨vs,h1,h2,_⟩,_⟩:=each 0 h0
        have h3:=h2 0 T'.w_pos
        rw[List.getElem?_eq_getElem (by have:=T'.w_pos;omega)] at h3
        have e0:(a.add (0 * T'.w)).add 0=a:=by simp[Addr.add]
        rw[e0] at h3;have hs:=World.cell?_spot h3
        obtain⟨b,off,sp⟩:=a;have hsp:sp=none:=hs
        exact⟨b,off,by rw[hsp]⟩
       refine⟨(List.range len).map fun i=>if hi:i < len then Classical.choose (each i hi) else T'.dflt,⟨some a,q,by simp,by simpa using hl,hm,fun h0=>?_⟩,fun x hx'=>?_⟩
       · have h0:0 < len:=by simpa using h0
         obtain⟨b,o,rfl⟩:=hsp h0
         refine⟨b,o,rfl,trivial,fun i hi=>?_⟩
         have hi:i < len:=by simpa using hi
         obtain⟨⟨vs,h1,h2,h3⟩,_⟩:=Classical.choose_spec (each i hi)
         refine⟨vs,h1,fun j hj=>?_,?_⟩
         · rw[←h2 j hj];have ad:∀(o j:Nat),(⟨b,o,none⟩:Addr).add j=⟨b,o+j,none⟩:=fun o j=>by unfold Addr.add;split<;>simp_all
           rw[ad,ad]
         · simp only[List.getElem_map,List.getElem_range,dif_pos hi];exact h3
       · obtain⟨i,hi,rfl⟩:=List.mem_map.1 hx'
         have hi:i < len:=by simpa using hi
         simp only[dif_pos hi];exact(Classical.choose_spec (each i hi)).2
   · cases h
theorem B9L {n:Nat} {r:Reach} {b0:Nat} {t:TypeId} {T:Ty} {v:Value} {d:DataW H} {p:List MemPlace} (h:A9S P n t T=true) (hv:Value.okWide P W r b0 t v) (ht:DataW.Trod enc P W 0 (fun _=>true) true t v d p) :
 ∃x:T.den,Rd (fun _=>True) W T v.cells.toList x∧T.rg x:=by
 obtain⟨m,hm⟩:=ht;exact B4c n m t T _ _ h hm
theorem B9O {T:Ty} {v:Value} {x:T.den} (h:Rd (fun _=>True) W T v.cells.toList x) (hT:(∃a b,T=.prod a b)∨v.cells=#[v]):VR Rz.none W ((PK.val T).av x) v:=by
 have h':Rd (okS Rz.none []) W T v.cells.toList x:=h.mono fun b _=>.inl rfl
 have hp:(∃a b,T=.prod a b)→v=.agg v.cells.toList.toArray:=fun ⟨a,b,e⟩=>by
  subst e;have hl:=h'.len
  have h1:=a.w_pos
  have h2:=b.w_pos
  simp only[Ty.w] at hl
  cases v<;>simp[Value.cells] at hl ⊢<;>omega
 refine Rd.av (S:=[]) h' ⟨rfl,hp,fun hn=>?_⟩
 rcases hT with hT|hT
 · exact absurd hT hn
 · rw[hT]
theorem B7j {f:FuncId} {k:Con} (h:D4 P f k) {x:B1s k.ps} (hc:k.c x) {vs:Array Value} (hv:VRt Rz.none W (avs k.ps x) vs.toList) (hr:∀R' w' v,VR R' w' (W5 inN [] k.rs (k.r x)) v→v=.bool true) :
 Calls P f vs W fun e w'=>e=.returned (.bool true)∧Below W.heap.size W w' :=
 (h x hc Rz.none W vs hv).mono fun _ _ ⟨v,R',he,h1,_,h3⟩=>⟨by rw[he,hr _ _ _ h1],h3.os,h3.tape,h3.output,h3.size,fun b hb=>(h3.keep b hb (Nat.zero_le _)).1⟩
end
end Go.Proofs.YtflobmmbhaofbaaGreat
