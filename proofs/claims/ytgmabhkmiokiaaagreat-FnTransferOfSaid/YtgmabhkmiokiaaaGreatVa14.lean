/-
  Texts of this claim, joined (part 14). No condition beyond those of the theorems.
-/
import Derived.Test.YtgmabhkmiokiaaaGreatVa12
import Derived.Test.YtgmabhkmiokiaaaGreatVa04
import Derived.Test.YtgmabhkmiokiaaaGreatVa05
namespace Go.Proofs.YtgmabhkmiokiaaaGreat
open Go.RowKit
set_option linter.unusedSimpArgs false
set_option linter.unusedVariables false
structure DivOk (E:Nat→Nat→Bool) (i:Nat) (d:List Int × List Nat):Prop where
 len:d.1.length=i
 lt :∀c,c < d.2.length→d.2.getD c 0 < i
 at_ :∀k,k < i→∃ c:Nat,d.1.getD k 0=(c:Int)∧c < d.2.length∧E (d.2.getD c 0) k=true
 ne :∀c c',c < c'→c' < d.2.length→E (d.2.getD c 0) (d.2.getD c' 0)=false
section
variable {E:Nat→Nat→Bool} {n:Nat} (rfl' :∀k,E k k=true) (sym :∀k i,E k i=true→E i k=true) (tr :∀k i j,E k i=true→E i j=true→E k j=true)
include sym tr in
theorem DivOk.uniq {i:Nat} {d:List Int × List Nat} (h:DivOk E i d) {c c':Nat} (hc:c < d.2.length) (hc':c' < d.2.length) {k:Nat} (h1:E (d.2.getD c 0) k=true) (h2:E (d.2.getD c' 0) k=true):c=c':=by
 have h3:=tr _ _ _ h1 (sym _ _ h2)
 rcases Nat.lt_trichotomy c c' with e | e | e
 · rw [h.ne c c' e hc'] at h3; cases h3
 · exact e
 · have h4:=sym _ _ h3
   rw [h.ne c' c e hc] at h4; cases h4
include sym tr in
theorem DivOk.rel {i:Nat} {d:List Int × List Nat} (h:DivOk E i d) {k j:Nat} (hk:k < i) (hj:j < i):d.1.getD k 0=d.1.getD j 0↔E k j=true:=by
 obtain ⟨c,c1,c2,c3⟩:=h.at_ k hk
 obtain ⟨c',c1',c2',c3'⟩:=h.at_ j hj
 rw [c1,c1']
 constructor
 · intro e;obtain rfl:c=c':=by omega
   exact tr _ _ _ (sym _ _ c3) c3'
 · intro e;rw [h.uniq sym tr c2 c2' (tr _ _ _ c3 e) c3']
end
section
variable {κ:Type} [DecidableEq κ] {f:Nat→κ}
end
open Go.RowKit
def keyOf (ts:List (List Int)) (n:NodeD):Int × Int × Int × List Int:=match decide (n.1=13) with
 | true=>(n.1,n.2.2.1,0,ts.getD n.2.1.toNat [])
 | false=>(n.1,n.2.2.1,n.2.1,[])
theorem keyOf_t {ts:List (List Int)} {n:NodeD} (h:n.1=13):keyOf ts n=(n.1,n.2.2.1,0,ts.getD n.2.1.toNat []):=by unfold keyOf; rw [decide_eq_true h]
theorem keyOf_f {ts:List (List Int)} {n:NodeD} (h:¬ n.1=13):keyOf ts n=(n.1,n.2.2.1,n.2.1,[]):=by unfold keyOf; rw [decide_eq_false h]
theorem keyOf_k {ts:List (List Int)} {n:NodeD}:(keyOf ts n).1=n.1∧(keyOf ts n).2.1=n.2.2.1:=by unfold keyOf; split<;>exact ⟨rfl,rfl⟩
def swapB (n:NodeD):Bool:=decide (n.1=3) || decide (n.1=9)
def srt:List Int→List Int
 | [a,b]=>match decide (b < a) with | true=>[b,a] | false=>[a,b]
 | l=>l
def clsM (cl fr:List Int):List Int:=fr.map fun q=>cl.getD q.toNat 0
section
variable {ts:List (List Int)} {ns:List NodeD}
end
open Go.RowKit
def tabIx (ts:List (List Int)) (n:NodeD):Prop:=n.1=13→0≤n.2.1∧n.2.1 < ts.length
def insIx (m:Nat) (n:NodeD):Prop:=n.2.2.2.length≤3∧idxs m n.2.2.2=true∧(swapB n=true→n.2.2.2.length=2)
def uOk (ts:List (List Int)) (ns:List NodeD):Prop:=ns.length≤48∧∀ n∈ns,tabIx ts n∧insIx ns.length n
theorem node_len {p:PatchD} {n:NodeD} (q:nodeB n p.2.1.length=true):n.2.2.2.length≤3∧(swapB n=true→n.2.2.2.length=2)∧(n.1=13→0≤n.2.1∧n.2.1 < p.2.1.length):=by
 obtain ⟨kd,a,b,fr⟩:=n;obtain ⟨h1,h2,_⟩:=nodeB_parts q
 obtain ⟨_,_,_,_,_,h13,_,h3,h4,h5,h6⟩:=nodeB_ab q
 simp only at h1 h2 h13 ⊢
 refine ⟨?_,fun hs=>?_,fun e=>⟨(h13 e).1,(h13 e).2.2⟩⟩
 · have e3:(kd=3∨kd=4∨kd=9∨kd=16)∨(kd=5∨kd=6∨kd=7∨kd=8∨kd=10∨kd=11∨kd=12∨kd=13∨kd=17)∨kd=15∨(kd=1∨kd=2∨kd=14):=by omega
   rcases e3 with e | e | e | e
   · have:=h3 e; omega
   · have:=h4 e; omega
   · have:=h5 e; omega
   · have:=h6 e; omega
 · simp only[swapB,Bool.or_eq_true,decide_eq_true_eq] at hs
   exact h3 (by omega)
theorem uOk_patch {p:PatchD} (h:formedB p=true):uOk p.2.1 p.2.2.1:=by
 refine ⟨by have:=(formedB_parts h).1; omega,fun n hn=>?_⟩
 obtain ⟨q1,q2,_⟩:=nodeIn_parts (List.all_eq_true.1 (formedB_parts h).2.2.2.2.2.2 n hn)
 obtain ⟨a,b,c⟩:=node_len (p:=p) q1
 exact ⟨c,a,q2,b⟩
section
variable {E:Nat→Nat→Bool} {n i:Nat}
end
section
variable {p:PatchD} {cl:List Int}
end
open Go.RowKit
def mrgX (cl:List Int) (n:NodeD):NodeD:=(n.1,n.2.1,n.2.2.1,clsM cl n.2.2.2)
open Go.RowKit
def byL (n:Nat) (kp:List Int):Nat→List Int
 | 0=>List.replicate n 0
 | k+1=>(byL n kp k).set (kp.getD k 0).toNat (k:Int)
theorem byL_len (n:Nat) (kp:List Int) :∀k,(byL n kp k).length=n:=by
 intro k
 induction k with
 | zero=>simp [byL]
 | succ k ih=>simp [byL,ih]
theorem byL_at {n:Nat} {kp:List Int} (hr :∀j,j < kp.length→0≤kp.getD j 0∧kp.getD j 0 < n) (hd :∀i j,i < kp.length→j < kp.length→kp.getD i 0=kp.getD j 0→i=j) :∀k,k≤kp.length→∀ j,j < k→(byL n kp k).getD (kp.getD j 0).toNat 0=(j:Int):=by
 intro k
 induction k with
 | zero=>intro _ j hj; omega
 | succ k ih =>
   intro hk j hj
   have h1:=hr k (by omega)
   have h2:=hr j (by omega)
   have hl:=byL_len n kp k
   simp only[byL];rw [getD_set (by omega)]
   by_cases e:(kp.getD k 0).toNat=(kp.getD j 0).toNat
   · rw [if_pos e];have:k=j:=hd k j (by omega) (by omega) (by omega)
     rw [this]
   · rw [if_neg e];refine ih (by omega) j ?_
     rcases Nat.lt_or_ge j k with h | h
     · exact h
     · have:j=k:=by omega
       subst this; exact absurd rfl e
def keepN (ns:List NodeD) (b:List Int) (f:Int):NodeD:=mrgX b (ns.getD f.toNat n0)
def keepP (p:PatchD) (kp:List Int):PatchD:=(p.1,p.2.1,kp.map (keepN p.2.2.1 (byL p.2.2.1.length kp kp.length)),clsM (byL p.2.2.1.length kp kp.length) p.2.2.2)
structure KeepOk (p:PatchD) (kp:List Int):Prop where
 fits:fitsP p
 n24:p.2.2.1.length≤24
 k24:kp.length≤24
 rng:idxs p.2.2.1.length kp=true
 frs :∀x∈p.2.2.1,x.2.2.2.length≤23∧idxs p.2.2.1.length x.2.2.2=true
 o4:p.2.2.2.length≤4
 outs:idxs p.2.2.1.length p.2.2.2=true
theorem idxs_of {n:Nat} {l:List Int} (h :∀j,j < l.length→0≤l.getD j 0∧l.getD j 0 < n):idxs n l=true:=by
 refine List.all_eq_true.2 fun q hq=>?_
 obtain ⟨i,hi,rfl⟩:=List.mem_iff_getElem.1 hq
 have:=h i hi
 rw [List.getD_eq_getElem?_getD,List.getElem?_eq_getElem hi] at this
 simp only[Option.getD_some] at this
 exact inR_iff.2 ⟨this.1,by omega⟩
theorem map_nx {α β:Type} {f:α→β} {xs:List α} {k:Nat} (d:α) (h:k < xs.length):(xs.take k).map f++[f (xs.getD k d)]=(xs.take (k+1)).map f:=by
 rw [take_next (d:=d) h,List.map_append]; rfl
def stN (p:PatchD) (ins:List (List Int)) (i:Nat):List (List Int):=(blockSt p ins 0 i (startL p,List.replicate p.2.2.2.length [])).1
def valN (p:PatchD) (ins:List (List Int)) (i:Nat):List Int:=valsL p (stN p ins i) (frameAt ins (i:Int))
theorem stN_zero (p:PatchD) (ins:List (List Int)):stN p ins 0=startL p:=rfl
theorem stN_next (p:PatchD) (ins:List (List Int)) (i:Nat):stN p ins (i+1)=nextL p (stN p ins i) (frameAt ins (i:Int)) (valN p ins i):=by
 unfold stN valN;simp only[blockSt,Int.zero_add]
 rfl
theorem stN_ok {p:PatchD} {ins:List (List Int)} (h:formedB p=true) (hi:insOk p ins) (i:Nat):StOk p (stN p ins i):=(block_ok h (startL_ok h) hi (by simp) i).1
theorem colN {p:PatchD} {ins:List (List Int)} (h:formedB p=true) (hi:insOk p ins) {k i:Nat} (hk:k < p.2.2.2.length) :∀m,i < m→((renderL p ins m).getD k []).getD i 0=(outsL p (valN p ins i)).getD k 0:=by
 intro m
 induction m with
 | zero=>intro h; omega
 | succ m ih =>
   intro him;have hb:=(block_ok (frm:=0) h (startL_ok h) hi (o:=List.replicate p.2.2.2.length []) (by simp) m).2
   have hl:=block_len (frm:=0) h (startL_ok h) hi (o:=List.replicate p.2.2.2.length []) (m:=0) (by simp) (by intro i hi; simp [List.getD] at hi ⊢; simp [hi]) m k hk
   have e:(renderL p ins (m+1)).getD k []=(renderL p ins m).getD k []++[(outsL p (valN p ins m)).getD k 0]:=by
    unfold renderL;simp only[blockSt,Int.zero_add];rw [addOut_at (by omega) (by rw [outsL_len]; omega)]
    rfl
   have hl':((renderL p ins m).getD k []).length=m:=by unfold renderL; omega
   rw [e,List.getD_eq_getElem?_getD]
   by_cases hc:i < m
   · rw [List.getElem?_append_left (by omega),← List.getD_eq_getElem?_getD]; exact ih hc
   · obtain rfl:i=m:=by omega
     rw [List.getElem?_append_right (by omega),hl',Nat.sub_self]; rfl
theorem lenN {p:PatchD} {ins:List (List Int)} (h:formedB p=true) (hi:insOk p ins) {k:Nat} (hk:k < p.2.2.2.length) (m:Nat):((renderL p ins m).getD k []).length=m:=by
 have hl:=block_len (frm:=0) h (startL_ok h) hi (o:=List.replicate p.2.2.2.length []) (m:=0) (by simp) (by intro i hi; simp [List.getD] at hi ⊢; simp [hi]) m k hk
 unfold renderL; omega
open Go.RowKit
theorem map_range_next {α:Type} (f:Nat→α) (k:Nat):(List.range k).map f++[f k]=(List.range (k+1)).map f:=by simp [List.range_succ]
open Go.RowKit
open Go.RowKit
def OrdInd (ns:List NodeD):Prop:=∀ P:Nat→Prop,(∀ i:Nat,i < ns.length→(∀ f∈waitsL (ns.getD i n0),∃ j:Nat,f=(j:Int)∧j < ns.length∧P j)→P i)→∀ i,i < ns.length→P i
theorem ordInd_of {ns:List NodeD} (hl:(ordL ns).length=ns.length):OrdInd ns:=by
 intro P h
 have hg:=ordL_good ns
 have key :∀k,k≤(ordL ns).length→∀ x∈(ordL ns).take k,P x.toNat:=by
  intro k
  induction k with
  | zero=>intro _ x hx; simp at hx
  | succ k ih =>
    intro hk x hx
    rw [take_next (d:=0) (by omega),List.mem_append,List.mem_singleton] at hx
    rcases hx with hx | rfl
    · exact ih (by omega) x hx
    · obtain ⟨i,h1,h2,h3,h4⟩:=hg k (by omega)
      rw [h1,Int.toNat_natCast];refine h i h2 fun f hf=>?_
      have hm:=h4 f hf
      obtain ⟨j,rfl,hj⟩:=hg.at (mem_take_of hm)
      exact ⟨j,rfl,hj,by have:=ih (by omega) _ hm; rwa [Int.toNat_natCast] at this⟩
 intro i hi
 have:=key _ (Nat.le_refl _) i (by rw [List.take_length]; exact hg.full hl hi)
 rwa [Int.toNat_natCast] at this
theorem cover_le2 :∀(m:Nat) (l:List Int),(∀ i:Nat,i < m→(i:Int)∈l)→m≤l.length:=by
 intro m
 induction m with
 | zero=>intro l _; omega
 | succ m ih =>
   intro l h
   have h1:=ih (l.erase (m:Int)) fun i hi=>(List.mem_erase_of_ne (by omega)).2 (h i (by omega))
   have h2:=List.length_erase_of_mem (h m (by omega))
   have h3:0 < l.length:=List.length_pos_of_mem (h m (by omega))
   omega
theorem ordGo_ind {ns:List NodeD} (hw:OrdInd ns) :∀(k:Nat) {o:List Int},o.length+k=ns.length→(ordGo ns k o).length=ns.length:=by
 intro k
 induction k with
 | zero=>intro o h; simpa [ordGo] using h
 | succ k ih =>
   intro o h
   simp only[ordGo]
   split
   · rename_i hn
     exfalso
     have hall :∀i:Nat,i < ns.length→(i:Int)∈o:=hw (fun i=>(i:Int)∈o) fun i hi hf=>by
      apply Classical.byContradiction
      intro hc;have h1:=List.find?_eq_none.1 hn i (List.mem_range.2 hi)
      apply h1
      simp only[readyB,Bool.and_eq_true,Bool.not_eq_true',List.all_eq_true,List.contains_eq_mem,decide_eq_true_eq,decide_eq_false_iff_not];refine ⟨hc,fun f hf'=>?_⟩
      obtain ⟨j,rfl,hj,hm⟩:=hf f hf'
      exact hm
     have:=cover_le2 _ _ hall
     omega
   · exact ih (by simp; omega)
theorem ordL_ind {ns:List NodeD} (hw:OrdInd ns):(ordL ns).length=ns.length:=ordGo_ind hw _ (by simp)
theorem vals_at {p:PatchD} {s:List (List Int)} {fr:List Int} (h:patchB p=true) {i:Nat} (hi:i < p.2.2.1.length):(valsL p s fr).getD i 0=outP p s fr (valsL p s fr) i:=by
 obtain ⟨hf,ho⟩:=patchB_parts h
 have hg:=ordL_good p.2.2.1
 have:=sol_all (s:=s) (fr:=fr) (v0:=List.replicate p.2.2.1.length 0) hg (by simp) (i:Int) (hg.full ho hi)
 rwa [Int.toNat_natCast] at this
theorem extI {a b:List Int} (hl:a.length=b.length) (h :∀j,j < b.length→a.getD j 0=b.getD j 0):a=b:=by
 refine List.ext_getElem hl fun i h1 h2=>?_
 have:=h i h2
 simpa only [List.getD_eq_getElem?_getD,List.getElem?_eq_getElem h1,List.getElem?_eq_getElem h2,Option.getD_some] using this
theorem extL {a b:List (List Int)} (hl:a.length=b.length) (h :∀j,j < b.length→a.getD j []=b.getD j []):a=b:=by
 refine List.ext_getElem hl fun i h1 h2=>?_
 have:=h i h2
 simpa only [List.getD_eq_getElem?_getD,List.getElem?_eq_getElem h1,List.getElem?_eq_getElem h2,Option.getD_some] using this
def FromR (R:Nat→Nat→Prop) (l m:List Int):Prop:=l.length=m.length∧∀ k,k < l.length→∃ a b:Nat,l.getD k 0=(a:Int)∧m.getD k 0=(b:Int)∧R a b
def SwapR (R:Nat→Nat→Prop) (l m:List Int):Prop:=l.length=2∧m.length=2∧∃ a b c d:Nat,l.getD 0 0=(a:Int)∧l.getD 1 0=(b:Int)∧m.getD 0 0=(c:Int)∧m.getD 1 0=(d:Int)∧R a d∧R b c
structure NSim (ts:List (List Int)) (R:Nat→Nat→Prop) (x y:NodeD):Prop where
 key:keyOf ts x=keyOf ts y
 ins:FromR R x.2.2.2 y.2.2.2∨(swapB x=true∧SwapR R x.2.2.2 y.2.2.2)
structure PSim (p q:PatchD) (R:Nat→Nat→Prop):Prop where
 inp:p.1=q.1
 tabs:p.2.1=q.2.1
 node :∀i c,R i c→i < p.2.2.1.length∧c < q.2.2.1.length∧NSim p.2.1 R (p.2.2.1.getD i n0) (q.2.2.1.getD c n0)
 outs:FromR R p.2.2.2 q.2.2.2
theorem key_parts {ts:List (List Int)} {x y:NodeD} (h:keyOf ts x=keyOf ts y):x.1=y.1∧x.2.2.1=y.2.2.1∧(x.1≠13→x.2.1=y.2.1)∧(x.1=13→ts.getD x.2.1.toNat []=ts.getD y.2.1.toNat []):=by
 have h1:x.1=y.1:=by rw [← (keyOf_k (ts:=ts) (n:=x)).1,h,keyOf_k.1]
 have h2:x.2.2.1=y.2.2.1:=by rw [← (keyOf_k (ts:=ts) (n:=x)).2,h,keyOf_k.2]
 refine ⟨h1,h2,fun h3=>?_,fun h3=>?_⟩
 · rw [keyOf_f h3,keyOf_f (h1 ▸ h3)] at h
   exact congrArg (fun (z:Int × Int × Int × List Int)=>z.2.2.1) h
 · rw [keyOf_t h3,keyOf_t (h1 ▸ h3)] at h
   exact congrArg (fun (z:Int × Int × Int × List Int)=>z.2.2.2) h
theorem outV_key {ts:List (List Int)} {x y:NodeD} (h:keyOf ts x=keyOf ts y) (i s:List Int):outV x.1 x.2.1 ts i s=outV y.1 y.2.1 ts i s:=by
 obtain ⟨h1,_,h3,h4⟩:=key_parts h
 by_cases h13:x.1=13
 · rw [← h1,h13];show lookV (ts.getD x.2.1.toNat []) (i.getD 0 0)=lookV (ts.getD y.2.1.toNat []) (i.getD 0 0)
   rw [h4 h13]
 · rw [← h1,h3 h13]
theorem startV_key {ts:List (List Int)} {x y:NodeD} (h:keyOf ts x=keyOf ts y):startV x=startV y:=by
 obtain ⟨h1,h2,h3,h4⟩:=key_parts h
 by_cases h13:x.1=13
 · unfold startV; rw [← h1,h13]; rfl
 · unfold startV; rw [← h1,← h2,← h3 h13]
theorem insV_at {n:NodeD} {fr v:List Int} (h:n.1≠1) {k:Nat} (hk:k < n.2.2.2.length):(insV n fr v).getD k 0=v.getD (n.2.2.2.getD k 0).toNat 0:=by
 unfold insV; rw [decide_eq_false h]; simp [List.getD,hk]
theorem insV_l {n:NodeD} {fr v:List Int} (h:n.1≠1):(insV n fr v).length=n.2.2.2.length:=by
 unfold insV; rw [decide_eq_false h]; simp
theorem ins_sim {ts:List (List Int)} {R:Nat→Nat→Prop} {x y:NodeD} {fr v w:List Int} (h:NSim ts R x y) (hv :∀a b:Nat,(a:Int)∈x.2.2.2→R a b→v.getD a 0=w.getD b 0) :
 insV x fr v=insV y fr w∨(swapB x=true∧(insV x fr v).getD 0 0=(insV y fr w).getD 1 0∧(insV x fr v).getD 1 0=(insV y fr w).getD 0 0):=by
 obtain ⟨h1,_,h3,_⟩:=key_parts h.key
 by_cases k1:x.1=1
 · left
   unfold insV;rw [decide_eq_true k1,decide_eq_true (show y.1=1 by omega),h3 (by omega)]
 have k2:y.1≠1:=by omega
 rcases h.ins with ⟨e,hk⟩ | ⟨hs,l1,l2,a,b,c,d,q1,q2,q3,q4,r1,r2⟩
 · left
   refine extI (by rw [insV_l k1,insV_l k2,e]) fun k hk2=>?_
   rw [insV_l k2] at hk2;obtain ⟨a,b,e1,e2,r⟩:=hk k (by omega)
   rw [insV_at k1 (by omega),insV_at k2 hk2,e1,e2,Int.toNat_natCast,Int.toNat_natCast]
   exact hv a b (by rw [← e1]; exact getD_mem (by omega)) r
 · right
   refine ⟨hs,?_,?_⟩
   · rw [insV_at k1 (by omega),insV_at k2 (by omega),q1,q4,Int.toNat_natCast,Int.toNat_natCast]
     exact hv a d (by rw [← q1]; exact getD_mem (by omega)) r1
   · rw [insV_at k1 (by omega),insV_at k2 (by omega),q2,q3,Int.toNat_natCast,Int.toNat_natCast]
     exact hv b c (by rw [← q2]; exact getD_mem (by omega)) r2
theorem outV_swap {kd a:Int} {ts:List (List Int)} {i j s:List Int} (h:kd=3∨kd=9) (e1:i.getD 0 0=j.getD 1 0) (e2:i.getD 1 0=j.getD 0 0):outV kd a ts i s=outV kd a ts j s:=by
 rcases h with rfl | rfl
 · show wrap32 (i.getD 0 0+i.getD 1 0)=wrap32 (j.getD 0 0+j.getD 1 0)
   rw [e1,e2,Int.add_comm]
 · show wrap32 (i.getD 0 0 * i.getD 1 0)=wrap32 (j.getD 0 0 * j.getD 1 0)
   rw [e1,e2,Int.mul_comm]
theorem swapB_k {n:NodeD} (h:swapB n=true):n.1=3∨n.1=9:=by simpa [swapB] using h
theorem NSim.back {ts:List (List Int)} {R:Nat→Nat→Prop} {x y:NodeD} (h:NSim ts R x y) {f:Int} (hf:f∈y.2.2.2) :∃a b:Nat,(a:Int)∈x.2.2.2∧f=(b:Int)∧R a b:=by
 obtain ⟨k,hk,rfl⟩:=List.mem_iff_getElem.1 hf
 have e:y.2.2.2[k]=y.2.2.2.getD k 0:=by simp [List.getD,hk]
 rcases h.ins with ⟨e1,h1⟩ | ⟨_,l1,l2,a,b,c,d,q1,q2,q3,q4,r1,r2⟩
 · obtain ⟨a,b,e2,e3,r⟩:=h1 k (by omega)
   exact ⟨a,b,by rw [← e2]; exact getD_mem (by omega),by rw [e,e3],r⟩
 · have h01:k=0∨k=1:=by omega
   rcases h01 with rfl | rfl
   · exact ⟨b,c,by rw [← q2]; exact getD_mem (by omega),by rw [e,q3],r2⟩
   · exact ⟨a,d,by rw [← q1]; exact getD_mem (by omega),by rw [e,q4],r1⟩
theorem ordInd_sim {p q:PatchD} {R:Nat→Nat→Prop} (hp:patchB p=true) (hS:PSim p q R) (hcov :∀c,c < q.2.2.1.length→∃ i,R i c):OrdInd q.2.2.1:=by
 intro P h c hc
 obtain ⟨i,hi⟩:=hcov c hc
 refine ordInd_of (patchB_parts hp).2 (fun i=>∀ c,R i c→P c) ?_ i (hS.node i c hi).1 c hi
 intro i hi hf c hRc
 obtain ⟨_,hc2,hN⟩:=hS.node i c hRc
 refine h c hc2 fun f hf'=>?_
 have hk:=(key_parts hN.key).1
 have h6:¬ (q.2.2.1.getD c n0).1=6:=fun h6=>by unfold waitsL at hf'; rw [decide_eq_true h6] at hf'; cases hf'
 have hf2:f∈(q.2.2.1.getD c n0).2.2.2:=by unfold waitsL at hf'; rw [decide_eq_false h6] at hf'; exact hf'
 obtain ⟨a,b,ha,rfl,r⟩:=hN.back hf2
 obtain ⟨j,e,hj,hP⟩:=hf (a:Int) (by unfold waitsL; rw [decide_eq_false (by omega)]; exact ha)
 obtain rfl:a=j:=by omega
 exact ⟨b,rfl,(hS.node a b r).2.1,hP b r⟩
theorem nodeB_from {x:NodeD} {fr:List Int} {tb:Int} (h:nodeB x tb=true) (hl:fr.length=x.2.2.2.length) (hr :∀f∈fr,0≤f∧f≤23):nodeB (x.1,x.2.1,x.2.2.1,fr) tb=true:=by
 simp only[nodeB,Bool.and_eq_true] at h ⊢
 obtain ⟨⟨⟨⟨⟨h1,h2⟩,h3⟩,h4⟩,h5⟩,h6⟩:=h
 exact ⟨⟨⟨⟨⟨h1,h2⟩,h3⟩,List.all_eq_true.2 fun f hf=>inR_t (hr f hf).1 (hr f hf).2⟩,by rw [hl]; exact h5⟩,h6⟩
section
variable {p q:PatchD} {R:Nat→Nat→Prop} (hp:patchB p=true) (hq:patchB q=true) (hS:PSim p q R)
include hp hq hS in
theorem sim_vals {s s':List (List Int)} {fr:List Int} (hst :∀i c,R i c→s.getD i []=s'.getD c []) :∀i c,R i c→(valsL p s fr).getD i 0=(valsL q s' fr).getD c 0:=by
 intro i c h
 refine ordInd_of (patchB_parts hp).2 (fun i=>∀ c,R i c→(valsL p s fr).getD i 0=(valsL q s' fr).getD c 0) ?_ i (hS.node i c h).1 c h
 intro i hi hf c hc
 obtain ⟨_,hc2,hN⟩:=hS.node i c hc
 have hk:=(key_parts hN.key).1
 rw [vals_at hp hi,vals_at hq hc2];unfold outP;rw [← hS.tabs,← outV_key hN.key,hst i c hc]
 by_cases h6:(p.2.2.1.getD i n0).1=6
 · rw [h6]; rfl
 · rcases ins_sim (fr:=fr) hN (v:=valsL p s fr) (w:=valsL q s' fr) (fun a b ha hab=>by
    obtain ⟨j,e,hj,hP⟩:=hf (a:Int) (by unfold waitsL; rw [decide_eq_false h6]; exact ha)
    obtain rfl:a=j:=by omega
    exact hP b hab) with e | ⟨hsw,e1,e2⟩
   · rw [e]
   · exact outV_swap (swapB_k hsw) e1 e2
theorem nextV_swap {kd:Int} {i s:List Int} {o:Int} (h:kd=3∨kd=9):nextV kd i s o=[]:=by rcases h with rfl | rfl<;>rfl
include hS in
theorem sim_next {s s':List (List Int)} {fr v w:List Int} (hst :∀i c,R i c→s.getD i []=s'.getD c []) (hv :∀i c,R i c→v.getD i 0=w.getD c 0) :∀i c,R i c→(nextL p s fr v).getD i []=(nextL q s' fr w).getD c []:=by
 intro i c h
 obtain ⟨hi,hc,hN⟩:=hS.node i c h
 have hk:=(key_parts hN.key).1
 rw [nextL_at hi,nextL_at hc];unfold nextP;rw [← hk,hst i c h,hv i c h];rcases ins_sim (fr:=fr) hN (v:=v) (w:=w) (fun a b _ hab=>hv a b hab) with e | ⟨hsw,e1,e2⟩
 · rw [e]
 · rw [nextV_swap (swapB_k hsw),nextV_swap (swapB_k hsw)]
include hS in
theorem sim_start :∀i c,R i c→(startL p).getD i []=(startL q).getD c []:=by
 intro i c h
 obtain ⟨hi,hc,hN⟩:=hS.node i c h
 have e1:(startL p).getD i []=startV (p.2.2.1.getD i n0):=by simp [startL,List.getD,hi]
 have e2:(startL q).getD c []=startV (q.2.2.1.getD c n0):=by simp [startL,List.getD,hc]
 rw [e1,e2,startV_key hN.key]
include hp hq hS in
theorem sim_st (ins:List (List Int)) :∀m i c,R i c→(stN p ins m).getD i []=(stN q ins m).getD c []:=by
 intro m
 induction m with
 | zero=>exact sim_start hS
 | succ m ih =>
   rw [stN_next,stN_next];exact sim_next hS ih (sim_vals hp hq hS ih)
include hp hq hS in
theorem sim_val (ins:List (List Int)) (m:Nat) :∀i c,R i c→(valN p ins m).getD i 0=(valN q ins m).getD c 0:=sim_vals hp hq hS (sim_st hp hq hS ins m)
include hS in
theorem sim_outs {v w:List Int} (hv :∀i c,R i c→v.getD i 0=w.getD c 0):outsL p v=outsL q w:=by
 obtain ⟨hl,ho⟩:=hS.outs;refine extI (by rw [outsL_len,outsL_len,hl]) fun k hk=>?_
 rw [outsL_len] at hk;obtain ⟨a,b,e1,e2,r⟩:=ho k (by omega)
 have f1:(outsL p v).getD k 0=v.getD (p.2.2.2.getD k 0).toNat 0:=by simp [outsL,List.getD,show k < p.2.2.2.length by omega]
 have f2:(outsL q w).getD k 0=w.getD (q.2.2.2.getD k 0).toNat 0:=by simp [outsL,List.getD,hk]
 rw [f1,f2,e1,e2,Int.toNat_natCast,Int.toNat_natCast];exact hv a b r
include hp hq hS in
theorem sim_render {ins:List (List Int)} (hi:insOk p ins) (m:Nat):renderL p ins m=renderL q ins m:=by
 have hF:=(patchB_parts hp).1
 have hG:=(patchB_parts hq).1
 have hj:insOk q ins:=⟨by rw [← hS.inp]; exact hi.1,hi.2⟩
 have hl:=hS.outs.1
 refine extL (by rw [renderL_len hF hi,renderL_len hG hj,hl]) fun k hk=>?_
 rw [renderL_len hG hj] at hk;have l1:=lenN hF hi (k:=k) (by omega) m
 have l2:=lenN hG hj (k:=k) hk m
 refine extI (by omega) fun i hi2=>?_
 rw [colN hF hi (by omega) m (by omega),colN hG hj hk m (by omega),sim_outs hS (sim_val hp hq hS ins i)]
end
open Go.RowKit
section
variable {p:PatchD}
end
section
variable {p:PatchD}
end
open Go.RowKit
end Go.Proofs.YtgmabhkmiokiaaaGreat
