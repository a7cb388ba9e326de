/-
  Texts of this claim, joined (part 3). No condition beyond those of the theorems.
-/
import Derived.Test.YtgmabhkmiokiaaaGreatVa02
import Derived.Test.YtgmabhkmiokiaaaGreatChecked
import Derived.IntWalk
import Derived.Test.YtgmabhkmiokiaaaGreatRows
import Derived.WalkKit
import Derived.ProofKit
import Derived.OpenShut
import Derived.ShutString
import Derived.ChangeOld
import Derived.Below
import Derived.Lib.SmallJoins
import Derived.Deep.Slices
namespace Go.Proofs.YtgmabhkmiokiaaaGreat
open Go.RowKit
set_option linter.unusedSimpArgs false
set_option linter.unusedVariables false
def G:TypeId→Option Ty:=fun t =>
  if t=2 then some (.int .i64)
  else if t=3 then some (.int .i64)
  else if t=4 then some (.bool)
  else if t=5 then some (.int .u8)
  else if t=9 then some (.str)
  else if t=22 then some (.row 5 (.int .u8))
  else if t=24 then some (.row 26 (.row 2 (.int .i64)))
  else if t=25 then some (.row 93 (.prod (.int .i64) (.prod (.int .i64) (.prod (.int .i64) (.row 2 (.int .i64))))))
  else if t=26 then some (.row 2 (.int .i64))
  else if t=28 then some (.prod (.int .i64) (.prod (.row 26 (.row 2 (.int .i64))) (.prod (.row 93 (.prod (.int .i64) (.prod (.int .i64) (.prod (.int .i64) (.row 2 (.int .i64)))))) (.row 2 (.int .i64)))))
  else if t=32 then some (.prod (.row 2 (.int .i64)) (.row 2 (.int .i64)))
  else if t=48 then some (.prod (.int .i64) (.prod (.row 26 (.row 2 (.int .i64))) (.prod (.row 26 (.row 2 (.int .i64))) (.prod (.row 26 (.row 2 (.int .i64))) (.row 26 (.row 2 (.int .i64)))))))
  else if t=61 then some (.int .u64)
  else if t=63 then some (.prod (.row 5 (.int .u8)) (.prod (.int .i64) (.int .u64)))
  else if t=66 then some (.row 28 (.prod (.int .i64) (.prod (.row 26 (.row 2 (.int .i64))) (.prod (.row 93 (.prod (.int .i64) (.prod (.int .i64) (.prod (.int .i64) (.row 2 (.int .i64)))))) (.row 2 (.int .i64))))))
  else if t=84 then some (.row 26 (.row 2 (.int .i64)))
  else if t=93 then some (.prod (.int .i64) (.prod (.int .i64) (.prod (.int .i64) (.row 2 (.int .i64)))))
  else if t=105 then some (.prod (.prod (.int .i64) (.prod (.row 26 (.row 2 (.int .i64))) (.prod (.row 93 (.prod (.int .i64) (.prod (.int .i64) (.prod (.int .i64) (.row 2 (.int .i64)))))) (.row 2 (.int .i64))))) (.prod (.row 2 (.int .i64)) (.prod (.row 2 (.int .i64)) (.row 26 (.row 2 (.int .i64))))))
  else if t=128 then some (.int .u64)
  else if t=134 then some (.row 4 (.bool))
  else if t=137 then some (.prod (.str) (.prod (.int .i64) (.prod (.int .i64) (.prod (.int .i64) (.prod (.bool) (.bool))))))
  else if t=138 then some (.row 137 (.prod (.str) (.prod (.int .i64) (.prod (.int .i64) (.prod (.int .i64) (.prod (.bool) (.bool)))))))
  else if t=156 then some (.int .u32)
  else none
theorem sz_2:szOf Tryz.prog 2=some 1:=by kernel_rfl
theorem sb_2:sbOf Tryz.prog 2=some (1,8):=by kernel_rfl
theorem zr_2:zeroOf Tryz.prog 2=some [.int .i64 0]:=by kernel_rfl
theorem sz_3:szOf Tryz.prog 3=some 1:=by kernel_rfl
theorem sb_3:sbOf Tryz.prog 3=some (1,8):=by kernel_rfl
theorem zr_3:zeroOf Tryz.prog 3=some [.int .i64 0]:=by kernel_rfl
theorem sz_4:szOf Tryz.prog 4=some 1:=by kernel_rfl
theorem sb_4:sbOf Tryz.prog 4=some (1,1):=by kernel_rfl
theorem zr_4:zeroOf Tryz.prog 4=some [.bool false]:=by kernel_rfl
theorem sz_5:szOf Tryz.prog 5=some 1:=by kernel_rfl
theorem sb_5:sbOf Tryz.prog 5=some (1,1):=by kernel_rfl
theorem zr_5:zeroOf Tryz.prog 5=some [.int .u8 0]:=by kernel_rfl
theorem sz_9:szOf Tryz.prog 9=some 1:=by kernel_rfl
theorem sb_9:sbOf Tryz.prog 9=some (1,16):=by kernel_rfl
theorem zr_9:zeroOf Tryz.prog 9=some [.string ByteArray.empty]:=by kernel_rfl
theorem sz_22:szOf Tryz.prog 22=some 1:=by kernel_rfl
theorem sb_22:sbOf Tryz.prog 22=some (1,24):=by kernel_rfl
theorem zr_22:zeroOf Tryz.prog 22=some [.slice none 0 0]:=by kernel_rfl
theorem sz_24:szOf Tryz.prog 24=some 1:=by kernel_rfl
theorem sb_24:sbOf Tryz.prog 24=some (1,24):=by kernel_rfl
theorem zr_24:zeroOf Tryz.prog 24=some [.slice none 0 0]:=by kernel_rfl
theorem sz_25:szOf Tryz.prog 25=some 1:=by kernel_rfl
theorem sb_25:sbOf Tryz.prog 25=some (1,24):=by kernel_rfl
theorem zr_25:zeroOf Tryz.prog 25=some [.slice none 0 0]:=by kernel_rfl
theorem sz_26:szOf Tryz.prog 26=some 1:=by kernel_rfl
theorem sb_26:sbOf Tryz.prog 26=some (1,24):=by kernel_rfl
theorem zr_26:zeroOf Tryz.prog 26=some [.slice none 0 0]:=by kernel_rfl
theorem sz_28:szOf Tryz.prog 28=some 4:=by kernel_rfl
theorem sb_28:sbOf Tryz.prog 28=some (4,80):=by kernel_rfl
theorem zr_28:zeroOf Tryz.prog 28=some [.int .i64 0,.slice none 0 0,.slice none 0 0,.slice none 0 0]:=by kernel_rfl
theorem pl_28:placesOf Tryz.prog 28=some [(0,1),(1,1),(2,1),(3,1)]:=by kernel_rfl
theorem sz_32:szOf Tryz.prog 32=some 2:=by kernel_rfl
theorem sb_32:sbOf Tryz.prog 32=some (2,48):=by kernel_rfl
theorem zr_32:zeroOf Tryz.prog 32=some [.slice none 0 0,.slice none 0 0]:=by kernel_rfl
theorem pl_32:placesOf Tryz.prog 32=some [(0,1),(1,1)]:=by kernel_rfl
theorem sz_48:szOf Tryz.prog 48=some 5:=by kernel_rfl
theorem sb_48:sbOf Tryz.prog 48=some (5,104):=by kernel_rfl
theorem zr_48:zeroOf Tryz.prog 48=some [.int .i64 0,.slice none 0 0,.slice none 0 0,.slice none 0 0,.slice none 0 0]:=by kernel_rfl
theorem pl_48:placesOf Tryz.prog 48=some [(0,1),(1,1),(2,1),(3,1),(4,1)]:=by kernel_rfl
theorem sz_61:szOf Tryz.prog 61=some 1:=by kernel_rfl
theorem sb_61:sbOf Tryz.prog 61=some (1,8):=by kernel_rfl
theorem zr_61:zeroOf Tryz.prog 61=some [.int .u64 0]:=by kernel_rfl
theorem sz_63:szOf Tryz.prog 63=some 3:=by kernel_rfl
theorem sb_63:sbOf Tryz.prog 63=some (3,40):=by kernel_rfl
theorem zr_63:zeroOf Tryz.prog 63=some [.slice none 0 0,.int .i64 0,.int .u64 0]:=by kernel_rfl
theorem pl_63:placesOf Tryz.prog 63=some [(0,1),(1,1),(2,1)]:=by kernel_rfl
theorem sz_66:szOf Tryz.prog 66=some 1:=by kernel_rfl
theorem sb_66:sbOf Tryz.prog 66=some (1,24):=by kernel_rfl
theorem zr_66:zeroOf Tryz.prog 66=some [.slice none 0 0]:=by kernel_rfl
theorem sz_84:szOf Tryz.prog 84=some 1:=by kernel_rfl
theorem sb_84:sbOf Tryz.prog 84=some (1,24):=by kernel_rfl
theorem zr_84:zeroOf Tryz.prog 84=some [.slice none 0 0]:=by kernel_rfl
theorem pl_84:placesOf Tryz.prog 84=some [(0,1)]:=by kernel_rfl
theorem sz_93:szOf Tryz.prog 93=some 4:=by kernel_rfl
theorem sb_93:sbOf Tryz.prog 93=some (4,48):=by kernel_rfl
theorem zr_93:zeroOf Tryz.prog 93=some [.int .i64 0,.int .i64 0,.int .i64 0,.slice none 0 0]:=by kernel_rfl
theorem pl_93:placesOf Tryz.prog 93=some [(0,1),(1,1),(2,1),(3,1)]:=by kernel_rfl
theorem sz_105:szOf Tryz.prog 105=some 7:=by kernel_rfl
theorem sb_105:sbOf Tryz.prog 105=some (7,152):=by kernel_rfl
theorem zr_105:zeroOf Tryz.prog 105=some [.int .i64 0,.slice none 0 0,.slice none 0 0,.slice none 0 0,.slice none 0 0,.slice none 0 0,.slice none 0 0]:=by kernel_rfl
theorem pl_105:placesOf Tryz.prog 105=some [(0,4),(4,1),(5,1),(6,1)]:=by kernel_rfl
theorem sz_128:szOf Tryz.prog 128=some 1:=by kernel_rfl
theorem sb_128:sbOf Tryz.prog 128=some (1,8):=by kernel_rfl
theorem zr_128:zeroOf Tryz.prog 128=some [.int .u64 0]:=by kernel_rfl
theorem sz_134:szOf Tryz.prog 134=some 1:=by kernel_rfl
theorem sb_134:sbOf Tryz.prog 134=some (1,24):=by kernel_rfl
theorem zr_134:zeroOf Tryz.prog 134=some [.slice none 0 0]:=by kernel_rfl
theorem sz_137:szOf Tryz.prog 137=some 6:=by kernel_rfl
theorem sb_137:sbOf Tryz.prog 137=some (6,48):=by kernel_rfl
theorem zr_137:zeroOf Tryz.prog 137=some [.string ByteArray.empty,.int .i64 0,.int .i64 0,.int .i64 0,.bool false,.bool false]:=by kernel_rfl
theorem pl_137:placesOf Tryz.prog 137=some [(0,1),(1,1),(2,1),(3,1),(4,1),(5,1)]:=by kernel_rfl
theorem sz_138:szOf Tryz.prog 138=some 1:=by kernel_rfl
theorem sb_138:sbOf Tryz.prog 138=some (1,24):=by kernel_rfl
theorem zr_138:zeroOf Tryz.prog 138=some [.slice none 0 0]:=by kernel_rfl
theorem sz_156:szOf Tryz.prog 156=some 1:=by kernel_rfl
theorem sb_156:sbOf Tryz.prog 156=some (1,4):=by kernel_rfl
theorem zr_156:zeroOf Tryz.prog 156=some [.int .u32 0]:=by kernel_rfl
theorem sz_107:szOf Tryz.prog 107=some 1:=by kernel_rfl
attribute [go_sem] G sz_2 sb_2 zr_2 sz_3 sb_3 zr_3 sz_4 sb_4 zr_4 sz_5 sb_5 zr_5 sz_9 sb_9 zr_9 sz_22 sb_22 zr_22 sz_24 sb_24 zr_24 sz_25 sb_25 zr_25 sz_26 sb_26 zr_26 sz_28 sb_28 zr_28 pl_28 sz_32 sb_32 zr_32 pl_32 sz_48 sb_48 zr_48 pl_48 sz_61 sb_61 zr_61 sz_63 sb_63 zr_63 pl_63 sz_66 sb_66 zr_66 sz_84 sb_84 zr_84 pl_84 sz_93 sb_93 zr_93 pl_93 sz_105 sb_105 zr_105 pl_105 sz_128 sb_128 zr_128 sz_134 sb_134 zr_134 sz_137 sb_137 zr_137 pl_137 sz_138 sb_138 zr_138 sz_156 sb_156 zr_156 sz_107
attribute [go_sem] Tryz.underlying2 Tryz.underlying3 Tryz.underlying4 Tryz.underlying5 Tryz.underlying9 Tryz.underlying22 Tryz.underlying24 Tryz.underlying25 Tryz.underlying26 Tryz.underlying28 Tryz.underlying32 Tryz.underlying48 Tryz.underlying61 Tryz.underlying63 Tryz.underlying66 Tryz.underlying84 Tryz.underlying93 Tryz.underlying105 Tryz.underlying128 Tryz.underlying134 Tryz.underlying137 Tryz.underlying138 Tryz.underlying156
theorem mixed:Tryz.prog.follows .mixedOrders=true:=by kernel_rfl
theorem oR {σ:St} {Q:Exit→St→Prop} {id:Nat} {ops:Array Oper} {T:Tab} (hT:TabOk Tryz.prog T) (bf dn dc:List (List Nat)) (hS:chkS ops.toList bf dn dc=true) (hb:decide (bf.length≤ops.toList.length)=true) (h:adraw Tryz.prog G T dn ops.toList ops.toList 0 σ [] (fun σ' rs=>chkA ops.toList.length bf dc 0 rs=true∧Q .normal σ')):AWP Tryz.prog (.region id ops true) σ Q:=AWP_draw hT mixed bf dn dc hS hb h
theorem oW {σ:St} {Q:Exit→St→Prop} {id:Nat} {ops:Array Oper} {T:Tab} (hT:TabOk Tryz.prog T) (h:aseq Tryz.prog G T ops.toList ops.toList σ (Q .normal)):AWP Tryz.prog (.region id ops false) σ Q:=AWP_region hT h
def T0:Tab:=fun _=>none
theorem T0_ok:TabOk Tryz.prog T0:=fun f k h=>by cases h
open Go.ChangeShapes Go.WideShapes Go.ChangeAt Go.RowKit
theorem own:ownKnob Tryz.prog.godebug=none:=by kernel_rfl
theorem laidOut:laidOutB Tryz.prog=true:=by kernel_rfl
open Go.ChangeShapes Go.WideShapes Go.ChangeAt Go.RowKit Go.Joins Go.Deep
def Rz.none:Rz:=⟨fun _=>0,fun _=>default,fun _=>0⟩
def tyFs (P:Program) (rec:TypeId→Ty→Bool):List Field→Nat→Ty→Bool
 | [],_,_=>false
 | [f],off,T=>f.offset == off && P.cellsOf f.type == T.w && rec f.type T
 | f::g::l,off,.prod a b=>f.offset == off && P.cellsOf f.type == a.w && rec f.type a && tyFs P rec (g::l) (off+a.w) b
 | _,_,_=>false
def tyOk (P:Program):Nat→TypeId→Ty→Bool
 | 0,_,_=>false
 | n+1,t,T=>P.cellsOf t == T.w && match P.underlying t,T with
   | some (.struct fs),T=>tyFs P (tyOk P n) fs.toList 0 T
   | some (.int k),.int k'=>decide (k=k')
   | some .bool,.bool=>true
   | some .string,.str=>true
   | some (.slice e),.row e' T'=>e' == e && tyOk P n e T'
   | _,_=>false
def Ty.rg:(t:Ty)→t.den→Prop
 | .int k,n=>(Lit.int k n).wf=true
 | .bool,_=>True
 | .str,_=>True
 | .prod a b,x=>a.rg x.1∧b.rg x.2
 | .row _ t,xs=>∀ x∈xs,t.rg x
section
variable {P:Program} {H:Type} {enc:TypeId × Value→H} {W:World}
theorem rd_of_fields {n m:Nat} {cs:List Value} (ih :∀(t:TypeId) (T:Ty) (cs:List Value) (y:DataW H × List MemPlace),tyOk P n t T=true→DataW.trod enc P W 0 (fun _=>true) true m t cs=some y→∃ x:T.den,Rd (fun _=>True) W T cs x∧T.rg x) :
 ∀ (l : List Field) (off : Nat) (T : Ty) (xs : List (DataW H × List MemPlace)), tyFs P (tyOk P n) l off T = true → (∀ (i : Nat) (f : Field), l[i]? = some f → ∃ y, DataW.trod enc P W 0 (fun _ => true) true m f.type ((cs.drop f.offset).take (P.cellsOf f.type)) = some y) →
   ∃ x:T.den,Rd (fun _=>True) W T ((cs.drop off).take T.w) x∧T.rg x:=by
 intro l
 induction l with
 | nil=>intro off T xs h; simp [tyFs] at h
 | cons f l ihl =>
   intro off T xs h hf
   cases l with
   | nil =>
     simp only[tyFs,Bool.and_eq_true,beq_iff_eq] at h
     obtain ⟨⟨h1,h2⟩,h3⟩:=h
     obtain ⟨y,hy⟩:=hf 0 f rfl
     rw [h1,h2] at hy;exact ih _ _ _ _ h3 hy
   | cons g l =>
     cases T with
     | prod a b =>
       simp only[tyFs,Bool.and_eq_true,beq_iff_eq] at h
       obtain ⟨⟨⟨h1,h2⟩,h3⟩,h4⟩:=h
       obtain ⟨y,hy⟩:=hf 0 f rfl
       rw [h1,h2] at hy;obtain ⟨x1,r1,g1⟩:=ih _ _ _ _ h3 hy
       obtain ⟨x2,r2,g2⟩:=ihl (off+a.w) b xs h4 fun i f' hf'=>hf (i+1) f' (by simpa using hf')
       refine ⟨(x1,x2),⟨_,_,?_,r1,r2⟩,g1,g2⟩
       have hl:=r1.len
       have e1:(cs.drop off).drop a.w=cs.drop (off+a.w):=by rw [List.drop_drop]
       rw [← e1];show (cs.drop off).take (a.w+b.w)=_
       rw [List.take_add]
     | _=>simp [tyFs] at h
theorem rd_of_trod :∀(n m:Nat) (t:TypeId) (T:Ty) (cs:List Value) (y:DataW H × List MemPlace),tyOk P n t T=true→DataW.trod enc P W 0 (fun _=>true) true m t cs=some y→∃ x:T.den,Rd (fun _=>True) W T cs x∧T.rg x:=by
 intro n
 induction n with
 | zero=>intro m t T cs y h; simp [tyOk] at h
 | succ n ih =>
   intro m t T cs y h hy
   simp only[tyOk,Bool.and_eq_true,beq_iff_eq] at h
   obtain ⟨hw,h⟩:=h
   split at h
   · rename_i T' fs hu
     obtain ⟨xs,m',rfl,rfl,hl,hx,hf⟩:=DataW.trod_struct hu hy
     obtain ⟨x,r,g⟩:=rd_of_fields (m:=m') (cs:=cs) (fun t T cs y h1 h2=>ih m' t T cs y h1 h2) fs.toList 0 _ xs h (fun i f hf'=>by
      have h1:fs[i]?=some f:=by rw [← Array.getElem?_toList]; exact hf'
      have h2:=hf i f h1
      have hi:i < xs.length:=by rw [hx]; exact (Array.getElem?_eq_some_iff.1 h1).1
      rw [List.getElem?_eq_getElem hi] at h2
      exact ⟨_,h2⟩)
     refine ⟨x,?_,g⟩
     rw [List.drop_zero,List.take_of_length_le (by omega)] at r
     exact r
   · rename_i k k' hu
     obtain ⟨v,rfl,_,hwf⟩:=DataW.trod_int hu hy
     simp only[decide_eq_true_eq] at h
     subst h;exact ⟨v,rfl,hwf⟩
   · rename_i hu
     obtain ⟨b,rfl,_⟩:=DataW.trod_bool hu hy
     exact ⟨b,rfl,trivial⟩
   · rename_i hu
     obtain ⟨s,rfl,_⟩:=DataW.trod_string hu hy
     exact ⟨s,rfl,trivial⟩
   · rename_i e e' T' hu
     simp only[Bool.and_eq_true,beq_iff_eq] at h
     obtain ⟨rfl,h⟩:=h
     have hce:P.cellsOf e'=T'.w:=by
      cases n with
      | zero=>simp [tyOk] at h
      | succ n=>simp only[tyOk,Bool.and_eq_true,beq_iff_eq] at h; exact h.1
     rcases open_slice hu hy with ⟨rfl,_⟩ | ⟨a,len,cap,q,m',D,Pl,rfl,_,hl,hm,hq,_,hx⟩
     · exact ⟨[],⟨none,0,rfl,by simp,by simp,fun h=>by simp at h⟩,fun x hx=>by cases hx⟩
     · simp only[if_true] at hq
       subst hq
       have each :∀i,i < len→∃ x:T'.den,(∃ vs:List Value,vs.length=T'.w∧(∀ j,j < T'.w→W.cell? ((a.add (i * T'.w)).add j)=vs[j]?)∧Rd (fun _=>True) W T' vs x)∧T'.rg x:=fun i hi=>by
        obtain ⟨cs',h1,h2⟩:=hx i (by omega)
        obtain ⟨_,h3,h4⟩:=World.cells?_some h1
        rw [hce] at h3 h4
        obtain ⟨x,r,g⟩:=ih m' _ _ _ _ h h2
        exact ⟨x,⟨cs',h3,h4,r⟩,g⟩
       have hsp:0 < len→∃ b o,a=⟨b,o,none⟩:=fun h0=>by
        obtain ⟨x,⟨vs,h1,h2,_⟩,_⟩:=each 0 h0
        have h3:=h2 0 T'.w_pos
        rw [List.getElem?_eq_getElem (by have:=T'.w_pos; omega)] at h3
        have e0:(a.add (0 * T'.w)).add 0=a:=by simp [Addr.add]
        rw [e0] at h3;have hs:=World.cell?_spot h3
        obtain ⟨b,off,sp⟩:=a;have hsp:sp=none:=hs
        exact ⟨b,off,by rw [hsp]⟩
       refine ⟨(List.range len).map fun i=>if hi:i < len then Classical.choose (each i hi) else T'.dflt,⟨some a,q,by simp,by simpa using hl,hm,fun h0=>?_⟩,fun x hx'=>?_⟩
       · have h0:0 < len:=by simpa using h0
         obtain ⟨b,o,rfl⟩:=hsp h0
         refine ⟨b,o,rfl,trivial,fun i hi=>?_⟩
         have hi:i < len:=by simpa using hi
         obtain ⟨⟨vs,h1,h2,h3⟩,_⟩:=Classical.choose_spec (each i hi)
         refine ⟨vs,h1,fun j hj=>?_,?_⟩
         · rw [← h2 j hj];have ad :∀(o j:Nat),(⟨b,o,none⟩:Addr).add j=⟨b,o+j,none⟩:=fun o j=>by unfold Addr.add; split<;>simp_all
           rw [ad,ad]
         · simp only[List.getElem_map,List.getElem_range,dif_pos hi]; exact h3
       · obtain ⟨i,hi,rfl⟩:=List.mem_map.1 hx'
         have hi:i < len:=by simpa using hi
         simp only[dif_pos hi];exact (Classical.choose_spec (each i hi)).2
   · cases h
theorem arg_of {n:Nat} {r:Reach} {b0:Nat} {t:TypeId} {T:Ty} {v:Value} {d:DataW H} {p:List MemPlace} (h:tyOk P n t T=true) (hv:Value.okWide P W r b0 t v) (ht:DataW.Trod enc P W 0 (fun _=>true) true t v d p) :
 ∃ x:T.den,Rd (fun _=>True) W T v.cells.toList x∧T.rg x:=by
 obtain ⟨m,hm⟩:=ht;exact rd_of_trod n m t T _ _ h hm
theorem vr_val {T:Ty} {v:Value} {x:T.den} (h:Rd (fun _=>True) W T v.cells.toList x) (hT:(∃ a b,T=.prod a b)∨v.cells=#[v]):VR Rz.none W ((PK.val T).av x) v:=by
 have h':Rd (okS Rz.none []) W T v.cells.toList x:=h.mono fun b _=>.inl rfl
 have hp:(∃ a b,T=.prod a b)→v=.agg v.cells.toList.toArray:=fun ⟨a,b,e⟩=>by
  subst e;have hl:=h'.len
  have h1:=a.w_pos
  have h2:=b.w_pos
  simp only[Ty.w] at hl
  cases v<;>simp [Value.cells] at hl ⊢<;>omega
 refine Rd.av (S:=[]) h' ⟨rfl,hp,fun hn=>?_⟩
 rcases hT with hT | hT
 · exact absurd hT hn
 · rw [hT]
theorem law_calls {f:FuncId} {k:Con} (h:PureT P f k) {x:dens k.ps} (hc:k.c x) {vs:Array Value} (hv:VRt Rz.none W (avs k.ps x) vs.toList) (hr :∀R' w' v,VR R' w' (outAll inN [] k.rs (k.r x)) v→v=.bool true) :
 Calls P f vs W fun e w'=>e=.returned (.bool true)∧Below W.heap.size W w' :=
 (h x hc Rz.none W vs hv).mono fun _ _ ⟨v,R',he,h1,_,h3⟩=>⟨by rw [he,hr _ _ _ h1],h3.os,h3.tape,h3.output,h3.size,fun b hb=>(h3.keep b hb (Nat.zero_le _)).1⟩
end
end Go.Proofs.YtgmabhkmiokiaaaGreat
