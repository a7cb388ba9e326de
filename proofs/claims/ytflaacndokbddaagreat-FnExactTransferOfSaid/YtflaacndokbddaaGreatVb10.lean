/-
  Texts of this claim, joined (part 10). No condition beyond those of the theorems.
-/
import Derived.Test.YtflaacndokbddaaGreatVb05
set_option linter.unusedSimpArgs false
set_option linter.unusedVariables false
namespace Go.Proofs.YtflaacndokbddaaGreat
open Go.RowKit
theorem getD_out {xs:List Int} {i:Nat} (h:xs.length≤i):xs.getD i 0=0:=by
 rw [List.getD_eq_getElem?_getD,List.getElem?_eq_none h]; rfl
def frameAt (ins:List (List Int)) (i:Int):List Int:=ins.map fun a=>a.getD i.toNat 0
def addOut (outs:List (List Int)) (xs:List Int):List (List Int):=List.zipWith (fun l x=>l++[x]) outs xs
def blockSt (p:PatchD) (ins:List (List Int)) (frm:Int):Nat→List (List Int) × List (List Int)→List (List Int) × List (List Int)
 | 0,st=>st
 | k+1,st=>(nextL p (blockSt p ins frm k st).1 (frameAt ins (frm+k)) (valsL p (blockSt p ins frm k st).1 (frameAt ins (frm+k))),
     addOut (blockSt p ins frm k st).2 (outsL p (valsL p (blockSt p ins frm k st).1 (frameAt ins (frm+k)))))
def insOk (p:PatchD) (ins:List (List Int)):Prop:=(ins.length:Int)=p.1∧∀ a∈ins,a.length≤4000∧smps a=true
theorem frameAt_ok {p:PatchD} {ins:List (List Int)} (h:insOk p ins) (i:Int):((frameAt ins i).length:Int)=p.1∧smps (frameAt ins i)=true:=by
 refine ⟨by simp only [frameAt,List.length_map]; exact h.1,smps_iff.2 fun x hx=>?_⟩
 obtain ⟨a,ha,rfl⟩:=List.mem_map.1 hx
 exact smps_at (h.2 a ha).2 _
theorem addOut_len {outs:List (List Int)} {xs:List Int} (h:outs.length=xs.length):(addOut outs xs).length=xs.length:=by simp [addOut,h]
theorem outsL_len (p:PatchD) (v:List Int):(outsL p v).length=p.2.2.2.length:=by simp [outsL]
theorem block_ok {p:PatchD} {ins:List (List Int)} {frm:Int} {s o:List (List Int)} (h:formedB p=true) (hs:StOk p s) (hi:insOk p ins) (ho:o.length=p.2.2.2.length) :∀k,StOk p (blockSt p ins frm k (s,o)).1∧(blockSt p ins frm k (s,o)).2.length=p.2.2.2.length:=by
 intro k
 induction k with
 | zero=>exact ⟨hs,ho⟩
 | succ k ih =>
   obtain ⟨a1,a2⟩:=ih
   obtain ⟨_,f2⟩:=frameAt_ok hi (frm+k)
   exact ⟨nextL_ok h a1 f2 (valsL_ok' h a1 f2),by simp only [blockSt]; rw [addOut_len (by rw [outsL_len]; exact a2),outsL_len]⟩
theorem addOut_at {outs:List (List Int)} {xs:List Int} {i:Nat} (h:i < outs.length) (h2:i < xs.length):(addOut outs xs).getD i []=outs.getD i []++[xs.getD i 0]:=by
 have e:(List.zipWith (fun (l:List Int) (x:Int)=>l++[x]) outs xs)[i]?=some (outs[i]++[xs[i]]):=by
  rw [List.getElem?_eq_getElem (by simp; omega),List.getElem_zipWith]
 have e1:outs.getD i []=outs[i]:=by simp [List.getD,h]
 have e2:xs.getD i 0=xs[i]:=by simp [List.getD,h2]
 rw [e1,e2,addOut,List.getD_eq_getElem?_getD,e]; rfl
theorem block_len {p:PatchD} {ins:List (List Int)} {frm:Int} {s o:List (List Int)} {m:Nat} (h:formedB p=true) (hs:StOk p s) (hi:insOk p ins) (ho:o.length=p.2.2.2.length) (hm :∀i,i < o.length→(o.getD i []).length=m) :
 ∀ k i,i < p.2.2.2.length→((blockSt p ins frm k (s,o)).2.getD i []).length=m+k:=by
 intro k
 induction k with
 | zero=>intro i hi'; exact hm i (by omega)
 | succ k ih =>
   intro i hi'
   simp only [blockSt]
   have hb:=(block_ok (frm:=frm) h hs hi ho k).2
   rw [addOut_at (by omega) (by rw [outsL_len]; omega),List.length_append,ih i hi']
   simp; omega
def lastV (p:PatchD) (ins:List (List Int)) (frm:Int) (vals:List Int) (st:List (List Int) × List (List Int)):Nat→List Int
 | 0=>vals
 | k+1=>valsL p (blockSt p ins frm k st).1 (frameAt ins (frm+k))
def lastF (p:PatchD) (ins:List (List Int)) (frm:Int):Nat→List Int
 | 0=>List.replicate p.1.toNat 0
 | k+1=>frameAt ins (frm+k)
theorem lastV_ok {p:PatchD} {ins:List (List Int)} {frm:Int} {vals:List Int} {s o:List (List Int)} (h:formedB p=true) (hs:StOk p s) (hi:insOk p ins) (ho:o.length=p.2.2.2.length) (hv:valsOk p vals) (k:Nat):valsOk p (lastV p ins frm vals (s,o) k):=by
 cases k with
 | zero=>exact hv
 | succ k =>
   obtain ⟨_,f2⟩:=frameAt_ok hi (frm+k)
   exact valsL_ok' h (block_ok (frm:=frm) h hs hi ho k).1 f2
theorem lastF_len {p:PatchD} {ins:List (List Int)} {frm:Int} (hi:insOk p ins) (k:Nat):(lastF p ins frm k).length=ins.length:=by
 cases k with
 | zero=>have:=hi.1; simp only [lastF,List.length_replicate]; omega
 | succ k=>simp [lastF,frameAt]
def blend {α:Type} (A B:List α) (m:Nat):List α:=A.take m++B.drop m
section
variable {α:Type} {A B:List α} {m:Nat}
theorem blend_len (h:A.length=B.length) (hm:m≤A.length):(blend A B m).length=A.length:=by
 simp only [blend,List.length_append,List.length_take,List.length_drop]; omega
theorem blend_at (d:α) (h:A.length=B.length) (hm:m < A.length):(blend A B m).getD m d=B.getD m d:=by
 unfold blend
 rw [List.getD_eq_getElem?_getD,List.getD_eq_getElem?_getD,List.getElem?_append_right (by rw [List.length_take]; omega),List.getElem?_drop,List.length_take]
 congr 2; omega
theorem blend_set (d:α) (h:A.length=B.length) (hm:m < A.length):(blend A B m).set m (A.getD m d)=blend A B (m+1):=by
 unfold blend
 rw [take_next (d:=d) hm,List.set_append_right _ _ (by rw [List.length_take]; omega),List.length_take,(by omega:m - min m A.length=0),List.drop_eq_getElem_cons (show m < B.length by omega),List.set_cons_zero,List.append_assoc]
 rfl
theorem blend_zero:blend A B 0=B:=by simp [blend]
theorem blend_all (h:A.length=B.length) (hm:A.length≤m):blend A B m=A:=by
 unfold blend; rw [List.take_of_length_le hm,List.drop_of_length_le (by omega),List.append_nil]
end
theorem frameAt_at {ins:List (List Int)} {i:Int} {m:Nat} (h:m < ins.length):(frameAt ins i).getD m 0=(ins.getD m []).getD i.toNat 0:=by simp [frameAt,List.getD,h]
def renderL (p:PatchD) (ins:List (List Int)) (n:Nat):List (List Int):=(blockSt p ins 0 n (startL p,List.replicate p.2.2.2.length [])).2
end Go.Proofs.YtflaacndokbddaaGreat
namespace Go.Proofs.YtflaacndokbddaaGreat
open Go.RowKit
theorem renderL_len {p:PatchD} {ins:List (List Int)} (hF:formedB p=true) (hi:insOk p ins) (n:Nat):(renderL p ins n).length=p.2.2.2.length:=(block_ok (o:=List.replicate p.2.2.2.length []) hF (startL_ok hF) hi (by simp) n).2
end Go.Proofs.YtflaacndokbddaaGreat
namespace Go.Proofs.YtflaacndokbddaaGreat
open Go.RowKit
set_option linter.unusedSimpArgs false
set_option linter.unusedVariables false
abbrev SrcD:=List Int × Int × Int
abbrev DM (α:Type):=SrcD→α × SrcD
def srcOk (n:Nat) (s:SrcD):Prop:=(∀ b∈s.1,0≤b∧b≤255)∧0≤s.2.1∧s.2.1+n≤4611686018427387904
theorem srcOk.le {n m:Nat} {s:SrcD} (h:srcOk n s) (k:m≤n):srcOk m s:=⟨h.1,h.2.1,by have:=h.2.2; omega⟩
section
variable {α β:Type}
def Cost (c:Nat) (m:DM α):Prop:=∀ n s,srcOk (n+c) s→srcOk n (m s).2
theorem Cost.at {c:Nat} {m:DM α} (h:Cost c m) {n:Nat} {s s':SrcD} {x:α} (hs:srcOk n s) (hc:c≤n) (e:m s=(x,s')):srcOk (n - c) s':=by
 have:=h (n - c) s (by rw [Nat.sub_add_cancel hc]; exact hs)
 rw [e] at this; exact this
theorem Cost.le {c d:Nat} {m:DM α} (h:Cost c m) (k:c≤d):Cost d m:=fun n s hs=>h n s (hs.le (by omega))
theorem Cost.pure (x:α):Cost 0 (fun s=>(x,s):DM α):=fun n s hs=>hs
end
end Go.Proofs.YtflaacndokbddaaGreat
namespace Go.Proofs.YtflaacndokbddaaGreat
open Go.RowKit
set_option linter.unusedSimpArgs false
set_option linter.unusedVariables false
section
variable {α:Type}
end
end Go.Proofs.YtflaacndokbddaaGreat
namespace Go.Proofs.YtflaacndokbddaaGreat
open Go.RowKit
set_option linter.unusedSimpArgs false
set_option linter.unusedVariables false
end Go.Proofs.YtflaacndokbddaaGreat
set_option linter.unusedSimpArgs false
set_option linter.unusedVariables false
namespace Go.Proofs.YtflaacndokbddaaGreat
open Go.RowKit
structure DivOk (E:Nat→Nat→Bool) (i:Nat) (d:List Int × List Nat):Prop where
 len:d.1.length=i
 lt :∀c,c < d.2.length→d.2.getD c 0 < i
 at_ :∀k,k < i→∃ c:Nat,d.1.getD k 0=(c:Int)∧c < d.2.length∧E (d.2.getD c 0) k=true
 ne :∀c c',c < c'→c' < d.2.length→E (d.2.getD c 0) (d.2.getD c' 0)=false
section
variable {E:Nat→Nat→Bool} {n:Nat} (rfl' :∀k,E k k=true) (sym :∀k i,E k i=true→E i k=true) (tr :∀k i j,E k i=true→E i j=true→E k j=true)
include sym tr in
theorem DivOk.uniq {i:Nat} {d:List Int × List Nat} (h:DivOk E i d) {c c':Nat} (hc:c < d.2.length) (hc':c' < d.2.length) {k:Nat} (h1:E (d.2.getD c 0) k=true) (h2:E (d.2.getD c' 0) k=true):c=c':=by
 have h3:=tr _ _ _ h1 (sym _ _ h2)
 rcases Nat.lt_trichotomy c c' with e | e | e
 · rw [h.ne c c' e hc'] at h3; cases h3
 · exact e
 · have h4:=sym _ _ h3
   rw [h.ne c' c e hc] at h4; cases h4
include sym tr in
theorem DivOk.rel {i:Nat} {d:List Int × List Nat} (h:DivOk E i d) {k j:Nat} (hk:k < i) (hj:j < i):d.1.getD k 0=d.1.getD j 0↔E k j=true:=by
 obtain ⟨c,c1,c2,c3⟩:=h.at_ k hk
 obtain ⟨c',c1',c2',c3'⟩:=h.at_ j hj
 rw [c1,c1']
 constructor
 · intro e
   obtain rfl:c=c':=by omega
   exact tr _ _ _ (sym _ _ c3) c3'
 · intro e
   rw [h.uniq sym tr c2 c2' (tr _ _ _ c3 e) c3']
end
section
variable {κ:Type} [DecidableEq κ] {f:Nat→κ}
end
end Go.Proofs.YtflaacndokbddaaGreat
namespace Go.Proofs.YtflaacndokbddaaGreat
open Go.RowKit
def keyOf (ts:List (List Int)) (n:NodeD):Int × Int × Int × List Int:=match decide (n.1=13) with
 | true=>(n.1,n.2.2.1,0,ts.getD n.2.1.toNat [])
 | false=>(n.1,n.2.2.1,n.2.1,[])
theorem keyOf_t {ts:List (List Int)} {n:NodeD} (h:n.1=13):keyOf ts n=(n.1,n.2.2.1,0,ts.getD n.2.1.toNat []):=by unfold keyOf; rw [decide_eq_true h]
theorem keyOf_f {ts:List (List Int)} {n:NodeD} (h:¬ n.1=13):keyOf ts n=(n.1,n.2.2.1,n.2.1,[]):=by unfold keyOf; rw [decide_eq_false h]
theorem keyOf_k {ts:List (List Int)} {n:NodeD}:(keyOf ts n).1=n.1∧(keyOf ts n).2.1=n.2.2.1:=by unfold keyOf; split<;>exact ⟨rfl,rfl⟩
def swapB (n:NodeD):Bool:=decide (n.1=3) || decide (n.1=9)
def srt:List Int→List Int
 | [a,b]=>match decide (b < a) with | true=>[b,a] | false=>[a,b]
 | l=>l
def clsM (cl fr:List Int):List Int:=fr.map fun q=>cl.getD q.toNat 0
section
variable {ts:List (List Int)} {ns:List NodeD}
end
end Go.Proofs.YtflaacndokbddaaGreat
namespace Go.Proofs.YtflaacndokbddaaGreat
open Go.RowKit
def tabIx (ts:List (List Int)) (n:NodeD):Prop:=n.1=13→0≤n.2.1∧n.2.1 < ts.length
def insIx (m:Nat) (n:NodeD):Prop:=n.2.2.2.length≤3∧idxs m n.2.2.2=true∧(swapB n=true→n.2.2.2.length=2)
def uOk (ts:List (List Int)) (ns:List NodeD):Prop:=ns.length≤48∧∀ n∈ns,tabIx ts n∧insIx ns.length n
theorem node_len {p:PatchD} {n:NodeD} (q:nodeB n p.2.1.length=true):n.2.2.2.length≤3∧(swapB n=true→n.2.2.2.length=2)∧(n.1=13→0≤n.2.1∧n.2.1 < p.2.1.length):=by
 obtain ⟨kd,a,b,fr⟩:=n
 obtain ⟨h1,h2,_⟩:=nodeB_parts q
 obtain ⟨_,_,_,_,_,h13,_,h3,h4,h5,h6⟩:=nodeB_ab q
 simp only at h1 h2 h13 ⊢
 refine ⟨?_,fun hs=>?_,fun e=>⟨(h13 e).1,(h13 e).2.2⟩⟩
 · have e3:(kd=3∨kd=4∨kd=9∨kd=16)∨(kd=5∨kd=6∨kd=7∨kd=8∨kd=10∨kd=11∨kd=12∨kd=13∨kd=17)∨kd=15∨(kd=1∨kd=2∨kd=14):=by omega
   rcases e3 with e | e | e | e
   · have:=h3 e; omega
   · have:=h4 e; omega
   · have:=h5 e; omega
   · have:=h6 e; omega
 · simp only [swapB,Bool.or_eq_true,decide_eq_true_eq] at hs
   exact h3 (by omega)
theorem uOk_patch {p:PatchD} (h:formedB p=true):uOk p.2.1 p.2.2.1:=by
 refine ⟨by have:=(formedB_parts h).1; omega,fun n hn=>?_⟩
 obtain ⟨q1,q2,_⟩:=nodeIn_parts (List.all_eq_true.1 (formedB_parts h).2.2.2.2.2.2 n hn)
 obtain ⟨a,b,c⟩:=node_len (p:=p) q1
 exact ⟨c,a,q2,b⟩
section
variable {E:Nat→Nat→Bool} {n i:Nat}
end
section
variable {p:PatchD} {cl:List Int}
end
end Go.Proofs.YtflaacndokbddaaGreat
namespace Go.Proofs.YtflaacndokbddaaGreat
open Go.RowKit
def mrgX (cl:List Int) (n:NodeD):NodeD:=(n.1,n.2.1,n.2.2.1,clsM cl n.2.2.2)
end Go.Proofs.YtflaacndokbddaaGreat
namespace Go.Proofs.YtflaacndokbddaaGreat
open Go.RowKit
def byL (n:Nat) (kp:List Int):Nat→List Int
 | 0=>List.replicate n 0
 | k+1=>(byL n kp k).set (kp.getD k 0).toNat (k:Int)
theorem byL_len (n:Nat) (kp:List Int) :∀k,(byL n kp k).length=n:=by
 intro k
 induction k with
 | zero=>simp [byL]
 | succ k ih=>simp [byL,ih]
theorem byL_at {n:Nat} {kp:List Int} (hr :∀j,j < kp.length→0≤kp.getD j 0∧kp.getD j 0 < n) (hd :∀i j,i < kp.length→j < kp.length→kp.getD i 0=kp.getD j 0→i=j) :∀k,k≤kp.length→∀ j,j < k→(byL n kp k).getD (kp.getD j 0).toNat 0=(j:Int):=by
 intro k
 induction k with
 | zero=>intro _ j hj; omega
 | succ k ih =>
   intro hk j hj
   have h1:=hr k (by omega)
   have h2:=hr j (by omega)
   have hl:=byL_len n kp k
   simp only [byL]
   rw [getD_set (by omega)]
   by_cases e:(kp.getD k 0).toNat=(kp.getD j 0).toNat
   · rw [if_pos e]
     have:k=j:=hd k j (by omega) (by omega) (by omega)
     rw [this]
   · rw [if_neg e]
     refine ih (by omega) j ?_
     rcases Nat.lt_or_ge j k with h | h
     · exact h
     · have:j=k:=by omega
       subst this; exact absurd rfl e
def keepN (ns:List NodeD) (b:List Int) (f:Int):NodeD:=mrgX b (ns.getD f.toNat n0)
def keepP (p:PatchD) (kp:List Int):PatchD:=(p.1,p.2.1,kp.map (keepN p.2.2.1 (byL p.2.2.1.length kp kp.length)),clsM (byL p.2.2.1.length kp kp.length) p.2.2.2)
structure KeepOk (p:PatchD) (kp:List Int):Prop where
 fits:fitsP p
 n24:p.2.2.1.length≤24
 k24:kp.length≤24
 rng:idxs p.2.2.1.length kp=true
 frs :∀x∈p.2.2.1,x.2.2.2.length≤23∧idxs p.2.2.1.length x.2.2.2=true
 o4:p.2.2.2.length≤4
 outs:idxs p.2.2.1.length p.2.2.2=true
theorem idxs_of {n:Nat} {l:List Int} (h :∀j,j < l.length→0≤l.getD j 0∧l.getD j 0 < n):idxs n l=true:=by
 refine List.all_eq_true.2 fun q hq=>?_
 obtain ⟨i,hi,rfl⟩:=List.mem_iff_getElem.1 hq
 have:=h i hi
 rw [List.getD_eq_getElem?_getD,List.getElem?_eq_getElem hi] at this
 simp only [Option.getD_some] at this
 exact inR_iff.2 ⟨this.1,by omega⟩
theorem map_nx {α β:Type} {f:α→β} {xs:List α} {k:Nat} (d:α) (h:k < xs.length):(xs.take k).map f++[f (xs.getD k d)]=(xs.take (k+1)).map f:=by
 rw [take_next (d:=d) h,List.map_append]; rfl
end Go.Proofs.YtflaacndokbddaaGreat
