/-
  Texts of this claim, joined (part 16). No condition beyond those of the theorems.
-/
import Derived.Test.YtflaacndokbddaaGreatVd14
import Derived.Test.YtflaacndokbddaaGreatVd05
namespace Go.Proofs.YtflaacndokbddaaGreat
open Go.RowKit
set_option linter.unusedSimpArgs false
set_option linter.unusedVariables false
structure DivOk (E:Nat→Nat→Bool) (i:Nat) (d:List Int × List Nat):Prop where
 len:d.1.length=i
 lt :∀c,c < d.2.length→d.2.getD c 0 < i
 at_ :∀k,k < i→∃ c:Nat,d.1.getD k 0=(c:Int)∧c < d.2.length∧E (d.2.getD c 0) k=true
 ne :∀c c',c < c'→c' < d.2.length→E (d.2.getD c 0) (d.2.getD c' 0)=false
section
variable {E:Nat→Nat→Bool} {n:Nat} (rfl' :∀k,E k k=true) (sym :∀k i,E k i=true→E i k=true) (tr :∀k i j,E k i=true→E i j=true→E k j=true)
include sym tr in
theorem DivOk.uniq {i:Nat} {d:List Int × List Nat} (h:DivOk E i d) {c c':Nat} (hc:c < d.2.length) (hc':c' < d.2.length) {k:Nat} (h1:E (d.2.getD c 0) k=true) (h2:E (d.2.getD c' 0) k=true):c=c':=by
 have h3:=tr _ _ _ h1 (sym _ _ h2)
 rcases Nat.lt_trichotomy c c' with e | e | e
 · rw [h.ne c c' e hc'] at h3; cases h3
 · exact e
 · have h4:=sym _ _ h3
   rw [h.ne c' c e hc] at h4; cases h4
include sym tr in
theorem DivOk.rel {i:Nat} {d:List Int × List Nat} (h:DivOk E i d) {k j:Nat} (hk:k < i) (hj:j < i):d.1.getD k 0=d.1.getD j 0↔E k j=true:=by
 obtain ⟨c,c1,c2,c3⟩:=h.at_ k hk
 obtain ⟨c',c1',c2',c3'⟩:=h.at_ j hj
 rw [c1,c1']
 constructor
 · intro e
   obtain rfl:c=c':=by omega
   exact tr _ _ _ (sym _ _ c3) c3'
 · intro e
   rw [h.uniq sym tr c2 c2' (tr _ _ _ c3 e) c3']
end
section
variable {κ:Type} [DecidableEq κ] {f:Nat→κ}
end
open Go.RowKit
def keyOf (ts:List (List Int)) (n:NodeD):Int × Int × Int × List Int:=match decide (n.1=13) with
 | true=>(n.1,n.2.2.1,0,ts.getD n.2.1.toNat [])
 | false=>(n.1,n.2.2.1,n.2.1,[])
theorem keyOf_t {ts:List (List Int)} {n:NodeD} (h:n.1=13):keyOf ts n=(n.1,n.2.2.1,0,ts.getD n.2.1.toNat []):=by unfold keyOf; rw [decide_eq_true h]
theorem keyOf_f {ts:List (List Int)} {n:NodeD} (h:¬ n.1=13):keyOf ts n=(n.1,n.2.2.1,n.2.1,[]):=by unfold keyOf; rw [decide_eq_false h]
theorem keyOf_k {ts:List (List Int)} {n:NodeD}:(keyOf ts n).1=n.1∧(keyOf ts n).2.1=n.2.2.1:=by unfold keyOf; split<;>exact ⟨rfl,rfl⟩
def swapB (n:NodeD):Bool:=decide (n.1=3) || decide (n.1=9)
def srt:List Int→List Int
 | [a,b]=>match decide (b < a) with | true=>[b,a] | false=>[a,b]
 | l=>l
def clsM (cl fr:List Int):List Int:=fr.map fun q=>cl.getD q.toNat 0
section
variable {ts:List (List Int)} {ns:List NodeD}
end
open Go.RowKit
def tabIx (ts:List (List Int)) (n:NodeD):Prop:=n.1=13→0≤n.2.1∧n.2.1 < ts.length
def insIx (m:Nat) (n:NodeD):Prop:=n.2.2.2.length≤3∧idxs m n.2.2.2=true∧(swapB n=true→n.2.2.2.length=2)
def uOk (ts:List (List Int)) (ns:List NodeD):Prop:=ns.length≤48∧∀ n∈ns,tabIx ts n∧insIx ns.length n
theorem node_len {p:PatchD} {n:NodeD} (q:nodeB n p.2.1.length=true):n.2.2.2.length≤3∧(swapB n=true→n.2.2.2.length=2)∧(n.1=13→0≤n.2.1∧n.2.1 < p.2.1.length):=by
 obtain ⟨kd,a,b,fr⟩:=n
 obtain ⟨h1,h2,_⟩:=nodeB_parts q
 obtain ⟨_,_,_,_,_,h13,_,h3,h4,h5,h6⟩:=nodeB_ab q
 simp only at h1 h2 h13 ⊢
 refine ⟨?_,fun hs=>?_,fun e=>⟨(h13 e).1,(h13 e).2.2⟩⟩
 · have e3:(kd=3∨kd=4∨kd=9∨kd=16)∨(kd=5∨kd=6∨kd=7∨kd=8∨kd=10∨kd=11∨kd=12∨kd=13∨kd=17)∨kd=15∨(kd=1∨kd=2∨kd=14):=by omega
   rcases e3 with e | e | e | e
   · have:=h3 e; omega
   · have:=h4 e; omega
   · have:=h5 e; omega
   · have:=h6 e; omega
 · simp only[swapB,Bool.or_eq_true,decide_eq_true_eq] at hs
   exact h3 (by omega)
theorem uOk_patch {p:PatchD} (h:formedB p=true):uOk p.2.1 p.2.2.1:=by
 refine ⟨by have:=(formedB_parts h).1; omega,fun n hn=>?_⟩
 obtain ⟨q1,q2,_⟩:=nodeIn_parts (List.all_eq_true.1 (formedB_parts h).2.2.2.2.2.2 n hn)
 obtain ⟨a,b,c⟩:=node_len (p:=p) q1
 exact ⟨c,a,q2,b⟩
section
variable {E:Nat→Nat→Bool} {n i:Nat}
end
section
variable {p:PatchD} {cl:List Int}
end
open Go.RowKit
def mrgX (cl:List Int) (n:NodeD):NodeD:=(n.1,n.2.1,n.2.2.1,clsM cl n.2.2.2)
open Go.RowKit
def byL (n:Nat) (kp:List Int):Nat→List Int
 | 0=>List.replicate n 0
 | k+1=>(byL n kp k).set (kp.getD k 0).toNat (k:Int)
theorem byL_len (n:Nat) (kp:List Int) :∀k,(byL n kp k).length=n:=by
 intro k
 induction k with
 | zero=>simp [byL]
 | succ k ih=>simp [byL,ih]
theorem byL_at {n:Nat} {kp:List Int} (hr :∀j,j < kp.length→0≤kp.getD j 0∧kp.getD j 0 < n) (hd :∀i j,i < kp.length→j < kp.length→kp.getD i 0=kp.getD j 0→i=j) :∀k,k≤kp.length→∀ j,j < k→(byL n kp k).getD (kp.getD j 0).toNat 0=(j:Int):=by
 intro k
 induction k with
 | zero=>intro _ j hj; omega
 | succ k ih =>
   intro hk j hj
   have h1:=hr k (by omega)
   have h2:=hr j (by omega)
   have hl:=byL_len n kp k
   simp only[byL]
   rw [getD_set (by omega)]
   by_cases e:(kp.getD k 0).toNat=(kp.getD j 0).toNat
   · rw [if_pos e]
     have:k=j:=hd k j (by omega) (by omega) (by omega)
     rw [this]
   · rw [if_neg e]
     refine ih (by omega) j ?_
     rcases Nat.lt_or_ge j k with h | h
     · exact h
     · have:j=k:=by omega
       subst this; exact absurd rfl e
def keepN (ns:List NodeD) (b:List Int) (f:Int):NodeD:=mrgX b (ns.getD f.toNat n0)
def keepP (p:PatchD) (kp:List Int):PatchD:=(p.1,p.2.1,kp.map (keepN p.2.2.1 (byL p.2.2.1.length kp kp.length)),clsM (byL p.2.2.1.length kp kp.length) p.2.2.2)
structure KeepOk (p:PatchD) (kp:List Int):Prop where
 fits:fitsP p
 n24:p.2.2.1.length≤24
 k24:kp.length≤24
 rng:idxs p.2.2.1.length kp=true
 frs :∀x∈p.2.2.1,x.2.2.2.length≤23∧idxs p.2.2.1.length x.2.2.2=true
 o4:p.2.2.2.length≤4
 outs:idxs p.2.2.1.length p.2.2.2=true
theorem idxs_of {n:Nat} {l:List Int} (h :∀j,j < l.length→0≤l.getD j 0∧l.getD j 0 < n):idxs n l=true:=by
 refine List.all_eq_true.2 fun q hq=>?_
 obtain ⟨i,hi,rfl⟩:=List.mem_iff_getElem.1 hq
 have:=h i hi
 rw [List.getD_eq_getElem?_getD,List.getElem?_eq_getElem hi] at this
 simp only[Option.getD_some] at this
 exact inR_iff.2 ⟨this.1,by omega⟩
theorem map_nx {α β:Type} {f:α→β} {xs:List α} {k:Nat} (d:α) (h:k < xs.length):(xs.take k).map f++[f (xs.getD k d)]=(xs.take (k+1)).map f:=by
 rw [take_next (d:=d) h,List.map_append]; rfl
end Go.Proofs.YtflaacndokbddaaGreat
