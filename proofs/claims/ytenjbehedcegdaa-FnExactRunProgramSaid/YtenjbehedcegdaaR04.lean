/-
  Texts of this claim, joined (part 4). No condition beyond those of the theorems.
-/
import Derived.Test.YtenjbehedcegdaaRows
import Derived.WalkKit
import Derived.ProofKit
import Derived.OpenShut
import Derived.ShutString
import Derived.ChangeOld
import Derived.Below
import Derived.Lib.SmallJoins
import Derived.Test.YtenjbehedcegdaaR02
import Derived.Test.YtenjbehedcegdaaR03
import Derived.Deep.Slices
set_option linter.unusedSimpArgs false
set_option linter.unusedVariables false
namespace Go.Proofs.Ytenjbehedcegdaa
open Go.ChangeShapes Go.WideShapes Go.ChangeAt Go.RowKit
theorem own:ownKnob Try.prog.godebug=none:=by kernel_rfl
theorem laidOut:laidOutB Try.prog=true:=by kernel_rfl
open Go.ChangeShapes Go.WideShapes Go.ChangeAt Go.RowKit Go.Joins Go.Deep
def Rz.none:Rz:=⟨fun _=>0,fun _=>default,fun _=>0⟩
def tyFs (P:Program) (rec:TypeId→Ty→Bool):List Field→Nat→Ty→Bool
 | [],_,_=>false
 | [f],off,T=>f.offset == off && P.cellsOf f.type == T.w && rec f.type T
 | f::g::l,off,.prod a b=>f.offset == off && P.cellsOf f.type == a.w && rec f.type a && tyFs P rec (g::l) (off+a.w) b
 | _,_,_=>false
def tyOk (P:Program):Nat→TypeId→Ty→Bool
 | 0,_,_=>false
 | n + 1, t, T => P.cellsOf t == T.w && match P.underlying t, T with
   | some (.struct fs),T=>tyFs P (tyOk P n) fs.toList 0 T
   | some (.int k),.int k'=>decide (k=k')
   | some .bool,.bool=>true
   | some .string,.str=>true
   | some (.slice e),.row e' T'=>e' == e && tyOk P n e T'
   | _,_=>false
def Ty.rg:(t:Ty)→t.den→Prop
 | .int k,n=>(Lit.int k n).wf=true
 | .bool,_=>True
 | .str,_=>True
 | .prod a b,x=>a.rg x.1∧b.rg x.2
 | .row _ t,xs=>∀x∈xs,t.rg x
section
variable {P:Program} {H:Type} {enc:TypeId × Value→H} {W:World}
theorem rd_of_fields {n m:Nat} {cs:List Value} (ih:∀(t:TypeId) (T:Ty) (cs:List Value) (y:DataW H × List MemPlace),tyOk P n t T=true→DataW.trod enc P W 0 (fun _=>true) true m t cs=some y→∃x:T.den,Rd (fun _=>True) W T cs x∧T.rg x) :
 ∀ (l : List Field) (off : Nat) (T : Ty) (xs : List (DataW H × List MemPlace)), tyFs P (tyOk P n) l off T = true → (∀ (i : Nat) (f : Field), l[i]? = some f → ∃ y, DataW.trod enc P W 0 (fun _ => true) true m f.type ((cs.drop f.offset).take (P.cellsOf f.type)) = some y) →
   ∃x:T.den,Rd (fun _=>True) W T ((cs.drop off).take T.w) x∧T.rg x:=by
 intro l
 induction l with
 | nil=>intro off T xs h;simp[tyFs] at h
 | cons f l ihl =>
   intro off T xs h hf
   cases l with
   | nil =>
     simp only[tyFs,Bool.and_eq_true,beq_iff_eq] at h
     obtain⟨⟨h1,h2⟩,h3⟩:=h
     obtain⟨y,hy⟩:=hf 0 f rfl
     rw[h1,h2] at hy
     exact ih _ _ _ _ h3 hy
   | cons g l =>
     cases T with
     | prod a b =>
       simp only[tyFs,Bool.and_eq_true,beq_iff_eq] at h
       obtain⟨⟨⟨h1,h2⟩,h3⟩,h4⟩:=h
       obtain⟨y,hy⟩:=hf 0 f rfl
       rw[h1,h2] at hy
       obtain⟨x1,r1,g1⟩:=ih _ _ _ _ h3 hy
       obtain⟨x2,r2,g2⟩:=ihl (off+a.w) b xs h4 fun i f' hf'=>hf (i+1) f' (by simpa using hf')
       refine⟨(x1,x2),⟨_,_,?_,r1,r2⟩,g1,g2⟩
       have hl:=r1.len
       have e1:(cs.drop off).drop a.w=cs.drop (off+a.w):=by rw[List.drop_drop]
       rw[←e1]
       show (cs.drop off).take (a.w+b.w)=_
       rw[List.take_add]
     | _=>simp[tyFs] at h
theorem rd_of_trod:∀(n m:Nat) (t:TypeId) (T:Ty) (cs:List Value) (y:DataW H × List MemPlace),tyOk P n t T=true→DataW.trod enc P W 0 (fun _=>true) true m t cs=some y→∃x:T.den,Rd (fun _=>True) W T cs x∧T.rg x:=by
 intro n
 induction n with
 | zero=>intro m t T cs y h;simp[tyOk] at h
 | succ n ih =>
   intro m t T cs y h hy
   simp only[tyOk,Bool.and_eq_true,beq_iff_eq] at h
   obtain⟨hw,h⟩:=h
   split at h
   · rename_i T' fs hu
     obtain⟨xs,m',rfl,rfl,hl,hx,hf⟩:=DataW.trod_struct hu hy
     obtain⟨x,r,g⟩:=rd_of_fields (m:=m') (cs:=cs) (fun t T cs y h1 h2=>ih m' t T cs y h1 h2) fs.toList 0 _ xs h (fun i f hf'=>by
      have h1:fs[i]?=some f:=by rw[←Array.getElem?_toList];exact hf'
      have h2:=hf i f h1
      have hi:i < xs.length:=by rw[hx];exact(Array.getElem?_eq_some_iff.1 h1).1
      rw[List.getElem?_eq_getElem hi] at h2
      exact⟨_,h2⟩)
     refine⟨x,?_,g⟩
     rw[List.drop_zero,List.take_of_length_le (by omega)] at r
     exact r
   · rename_i k k' hu
     obtain⟨v,rfl,_,hwf⟩:=DataW.trod_int hu hy
     simp only[decide_eq_true_eq] at h
     subst h
     exact⟨v,rfl,hwf⟩
   · rename_i hu
     obtain⟨b,rfl,_⟩:=DataW.trod_bool hu hy
     exact⟨b,rfl,trivial⟩
   · rename_i hu
     obtain⟨s,rfl,_⟩:=DataW.trod_string hu hy
     exact⟨s,rfl,trivial⟩
   · rename_i e e' T' hu
     simp only[Bool.and_eq_true,beq_iff_eq] at h
     obtain⟨rfl,h⟩:=h
     have hce:P.cellsOf e'=T'.w:=by
      cases n with
      | zero=>simp[tyOk] at h
      | succ n=>simp only[tyOk,Bool.and_eq_true,beq_iff_eq] at h;exact h.1
     rcases open_slice hu hy with⟨rfl,_⟩|⟨a,len,cap,q,m',D,Pl,rfl,_,hl,hm,hq,_,hx⟩
     · exact⟨[],⟨none,0,rfl,by simp,by simp,fun h=>by simp at h⟩,fun x hx=>by cases hx⟩
     · simp only[if_true] at hq
       subst hq
       have each:∀i,i < len→∃x:T'.den,(∃vs:List Value,vs.length=T'.w∧(∀j,j < T'.w→W.cell? ((a.add (i * T'.w)).add j)=vs[j]?)∧Rd (fun _=>True) W T' vs x)∧T'.rg x:=fun i hi=>by
        obtain⟨cs',h1,h2⟩:=hx i (by omega)
        obtain⟨_,h3,h4⟩:=World.cells?_some h1
        rw[hce] at h3 h4
        obtain⟨x,r,g⟩:=ih m' _ _ _ _ h h2
        exact⟨x,⟨cs',h3,h4,r⟩,g⟩
       have hsp:0 < len→∃b o,a=⟨b,o,none⟩:=fun h0=>by
        obtain⟨x,⟨vs,h1,h2,_⟩,_⟩:=each 0 h0
        have h3:=h2 0 T'.w_pos
        rw[List.getElem?_eq_getElem (by have:=T'.w_pos;omega)] at h3
        have e0:(a.add (0 * T'.w)).add 0=a:=by simp[Addr.add]
        rw[e0] at h3
        have hs:=World.cell?_spot h3
        obtain⟨b,off,sp⟩:=a
        have hsp:sp=none:=hs
        exact⟨b,off,by rw[hsp]⟩
       refine⟨(List.range len).map fun i=>if hi:i < len then Classical.choose (each i hi) else T'.dflt,⟨some a,q,by simp,by simpa using hl,hm,fun h0=>?_⟩,fun x hx'=>?_⟩
       · have h0:0 < len:=by simpa using h0
         obtain⟨b,o,rfl⟩:=hsp h0
         refine⟨b,o,rfl,trivial,fun i hi=>?_⟩
         have hi:i < len:=by simpa using hi
         obtain⟨⟨vs,h1,h2,h3⟩,_⟩:=Classical.choose_spec (each i hi)
         refine⟨vs,h1,fun j hj=>?_,?_⟩
         · rw[←h2 j hj]
           have ad:∀(o j:Nat),(⟨b,o,none⟩:Addr).add j=⟨b,o+j,none⟩:=fun o j=>by unfold Addr.add;split<;>simp_all
           rw[ad,ad]
         · simp only[List.getElem_map,List.getElem_range,dif_pos hi];exact h3
       · obtain⟨i,hi,rfl⟩:=List.mem_map.1 hx'
         have hi:i < len:=by simpa using hi
         simp only[dif_pos hi]
         exact(Classical.choose_spec (each i hi)).2
   · cases h
theorem arg_of {n:Nat} {r:Reach} {b0:Nat} {t:TypeId} {T:Ty} {v:Value} {d:DataW H} {p:List MemPlace} (h:tyOk P n t T=true) (hv:Value.okWide P W r b0 t v) (ht:DataW.Trod enc P W 0 (fun _=>true) true t v d p) :
 ∃x:T.den,Rd (fun _=>True) W T v.cells.toList x∧T.rg x:=by
 obtain⟨m,hm⟩:=ht
 exact rd_of_trod n m t T _ _ h hm
theorem vr_val {T:Ty} {v:Value} {x:T.den} (h:Rd (fun _=>True) W T v.cells.toList x) (hT:(∃a b,T=.prod a b)∨v.cells=#[v]):VR Rz.none W ((PK.val T).av x) v:=by
 have h':Rd (okS Rz.none []) W T v.cells.toList x:=h.mono fun b _=>.inl rfl
 have hp:(∃a b,T=.prod a b)→v=.agg v.cells.toList.toArray:=fun ⟨a,b,e⟩=>by
  subst e
  have hl:=h'.len
  have h1:=a.w_pos
  have h2:=b.w_pos
  simp only[Ty.w] at hl
  cases v<;>simp[Value.cells] at hl ⊢<;>omega
 refine Rd.av (S:=[]) h' ⟨rfl,hp,fun hn=>?_⟩
 rcases hT with hT|hT
 · exact absurd hT hn
 · rw[hT]
theorem law_calls {f:FuncId} {k:Con} (h:PureT P f k) {x:dens k.ps} (hc:k.c x) {vs:Array Value} (hv:VRt Rz.none W (avs k.ps x) vs.toList) (hr:∀R' w' v,VR R' w' (outAll inN [] k.rs (k.r x)) v→v=.bool true) (hg:Glob Rz.none W:=by exact fun p hp=>by cases hp) :
 Calls P f vs W fun e w'=>e=.returned (.bool true)∧Below W.heap.size W w' :=
 (h x hc Rz.none W vs hg hv).mono fun _ _ ⟨v,R',he,h1,_,h3⟩=>⟨by rw[he,hr _ _ _ h1],h3.os,h3.tape,h3.output,h3.size,fun b hb=>(h3.keep b hb (Nat.zero_le _)).1⟩
end
end Go.Proofs.Ytenjbehedcegdaa
