/-
  Texts of this claim, joined (part 15). No condition beyond those of the theorems.
-/
import Derived.Test.YtenjbehedcegdaaR05
set_option linter.unusedSimpArgs false
set_option linter.unusedVariables false
namespace Go.Proofs.Ytenjbehedcegdaa
open Go.RowKit
theorem getD_out {xs:List Int} {i:Nat} (h:xs.length≤i):xs.getD i 0=0:=by
 rw[List.getD_eq_getElem?_getD,List.getElem?_eq_none h];rfl
def frameAt (ins:List (List Int)) (i:Int):List Int:=ins.map fun a=>a.getD i.toNat 0
def addOut (outs:List (List Int)) (xs:List Int):List (List Int):=List.zipWith (fun l x=>l++[x]) outs xs
def sigB (p:PatchD) (ins:List (List Int)):Bool:=decide ((ins.length:Int)=p.1) && ins.all l03B
def insOk (p:PatchD) (ins:List (List Int)):Prop:=(ins.length:Int)=p.1∧∀a∈ins,a.length≤4000∧smps a=true
theorem sigB_iff {p:PatchD} {ins:List (List Int)}:sigB p ins=true↔insOk p ins:=by
 simp only[sigB,insOk,Bool.and_eq_true,decide_eq_true_eq,List.all_eq_true,l03B]
theorem frameAt_ok {p:PatchD} {ins:List (List Int)} (h:insOk p ins) (i:Int):((frameAt ins i).length:Int)=p.1∧smps (frameAt ins i)=true:=by
 refine⟨by simp only[frameAt,List.length_map];exact h.1,smps_iff.2 fun x hx=>?_⟩
 obtain⟨a,ha,rfl⟩:=List.mem_map.1 hx
 exact smps_at (h.2 a ha).2 _
theorem addOut_len {outs:List (List Int)} {xs:List Int} (h:outs.length=xs.length):(addOut outs xs).length=xs.length:=by simp[addOut,h]
theorem addOut_at {outs:List (List Int)} {xs:List Int} {i:Nat} (h:i < outs.length) (h2:i < xs.length):(addOut outs xs).getD i []=outs.getD i []++[xs.getD i 0]:=by
 have e:(List.zipWith (fun (l:List Int) (x:Int)=>l++[x]) outs xs)[i]?=some (outs[i]++[xs[i]]):=by
  rw[List.getElem?_eq_getElem (by simp;omega),List.getElem_zipWith]
 have e1:outs.getD i []=outs[i]:=by simp[List.getD,h]
 have e2:xs.getD i 0=xs[i]:=by simp[List.getD,h2]
 rw[e1,e2,addOut,List.getD_eq_getElem?_getD,e];rfl
def blend {α:Type} (A B:List α) (m:Nat):List α:=A.take m++B.drop m
section
variable {α:Type} {A B:List α} {m:Nat}
theorem blend_len (h:A.length=B.length) (hm:m≤A.length):(blend A B m).length=A.length:=by
 simp only[blend,List.length_append,List.length_take,List.length_drop];omega
theorem blend_at (d:α) (h:A.length=B.length) (hm:m < A.length):(blend A B m).getD m d=B.getD m d:=by
 unfold blend
 rw[List.getD_eq_getElem?_getD,List.getD_eq_getElem?_getD,List.getElem?_append_right (by rw[List.length_take];omega),List.getElem?_drop,List.length_take]
 congr 2;omega
theorem blend_set (d:α) (h:A.length=B.length) (hm:m < A.length):(blend A B m).set m (A.getD m d)=blend A B (m+1):=by
 unfold blend
 rw[take_next (d:=d) hm,List.set_append_right _ _ (by rw[List.length_take];omega),List.length_take,(by omega:m - min m A.length=0),List.drop_eq_getElem_cons (show m < B.length by omega),List.set_cons_zero,List.append_assoc]
 rfl
theorem blend_zero:blend A B 0=B:=by simp[blend]
theorem blend_all (h:A.length=B.length) (hm:A.length≤m):blend A B m=A:=by
 unfold blend;rw[List.take_of_length_le hm,List.drop_of_length_le (by omega),List.append_nil]
end
theorem frameAt_at {ins:List (List Int)} {i:Int} {m:Nat} (h:m < ins.length):(frameAt ins i).getD m 0=(ins.getD m []).getD i.toNat 0:=by simp[frameAt,List.getD,h]
open Go.RowKit
def behind (a b:List (List Int)):List (List Int):=List.zipWith (·++·) a b
abbrev SrcD:=List Int × Int × Int
abbrev DM (α:Type):=SrcD→α × SrcD
def srcOk (n:Nat) (s:SrcD):Prop:=(∀b∈s.1,0≤b∧b≤255)∧0≤s.2.1∧s.2.1+n≤4611686018427387904
theorem srcOk.le {n m:Nat} {s:SrcD} (h:srcOk n s) (k:m≤n):srcOk m s:=⟨h.1,h.2.1,by have:=h.2.2;omega⟩
section
variable {α β:Type}
def bnd (m:DM α) (f:α→DM β):DM β:=fun s=>f (m s).1 (m s).2
def itD (f:α→DM α):Nat→α→DM α
 | 0,x=>fun s=>(x,s)
 | k+1,x=>bnd (itD f k x) f
def Cost (c:Nat) (m:DM α):Prop:=∀n s,srcOk (n+c) s→srcOk n (m s).2
theorem Cost.at {c:Nat} {m:DM α} (h:Cost c m) {n:Nat} {s s':SrcD} {x:α} (hs:srcOk n s) (hc:c≤n) (e:m s=(x,s')):srcOk (n - c) s':=by
 have:=h (n - c) s (by rw[Nat.sub_add_cancel hc];exact hs)
 rw[e] at this;exact this
theorem Cost.le {c d:Nat} {m:DM α} (h:Cost c m) (k:c≤d):Cost d m:=fun n s hs=>h n s (hs.le (by omega))
theorem Cost.pure (x:α):Cost 0 (fun s=>(x,s):DM α):=fun n s hs=>hs
theorem Cost.bnd {a b:Nat} {m:DM α} {f:α→DM β} (h:Cost a m) (k:∀x,Cost b (f x)):Cost (a+b) (bnd m f):=fun n s hs =>
 k _ n _ (h (n+b) s (hs.le (by omega)))
theorem Cost.it {c:Nat} {f:α→DM α} (h:∀x,Cost c (f x)) (k:Nat) (x:α):Cost (c * k) (itD f k x):=by
 induction k with
 | zero=>exact Cost.pure x
 | succ k ih=>rw[Nat.mul_succ];exact ih.bnd h
end
section
variable {α:Type}
end
structure DivOk (E:Nat→Nat→Bool) (i:Nat) (d:List Int × List Nat):Prop where
 len:d.1.length=i
 lt:∀c,c < d.2.length→d.2.getD c 0 < i
 at_:∀k,k < i→∃c:Nat,d.1.getD k 0=(c:Int)∧c < d.2.length∧E (d.2.getD c 0) k=true
 ne:∀c c',c < c'→c' < d.2.length→E (d.2.getD c 0) (d.2.getD c' 0)=false
section
variable {E:Nat→Nat→Bool} {n:Nat} (rfl':∀k,E k k=true) (sym:∀k i,E k i=true→E i k=true) (tr:∀k i j,E k i=true→E i j=true→E k j=true)
include sym tr in
theorem DivOk.uniq {i:Nat} {d:List Int × List Nat} (h:DivOk E i d) {c c':Nat} (hc:c < d.2.length) (hc':c' < d.2.length) {k:Nat} (h1:E (d.2.getD c 0) k=true) (h2:E (d.2.getD c' 0) k=true):c=c':=by
 have h3:=tr _ _ _ h1 (sym _ _ h2)
 rcases Nat.lt_trichotomy c c' with e|e|e
 · rw[h.ne c c' e hc'] at h3;cases h3
 · exact e
 · have h4:=sym _ _ h3
   rw[h.ne c' c e hc] at h4;cases h4
include sym tr in
theorem DivOk.rel {i:Nat} {d:List Int × List Nat} (h:DivOk E i d) {k j:Nat} (hk:k < i) (hj:j < i):d.1.getD k 0=d.1.getD j 0↔E k j=true:=by
 obtain⟨c,c1,c2,c3⟩:=h.at_ k hk
 obtain⟨c',c1',c2',c3'⟩:=h.at_ j hj
 rw[c1,c1']
 constructor
 · intro e
   obtain rfl:c=c':=by omega
   exact tr _ _ _ (sym _ _ c3) c3'
 · intro e
   rw[h.uniq sym tr c2 c2' (tr _ _ _ c3 e) c3']
end
section
variable {κ:Type} [DecidableEq κ] {f:Nat→κ}
end
open Go.RowKit
def keyOf (ts:List (List Int)) (n:NodeD):Int × Int × Int × List Int:=match decide (n.1=13) with
 | true=>(n.1,n.2.2.1,0,ts.getD n.2.1.toNat [])
 | false=>(n.1,n.2.2.1,n.2.1,[])
def swapB (n:NodeD):Bool:=decide (n.1=3) || decide (n.1=9)
section
variable {ts:List (List Int)} {ns:List NodeD}
end
open Go.RowKit
section
variable {E:Nat→Nat→Bool} {n i:Nat}
end
section
variable {p:PatchD} {cl:List Int}
end
open Go.RowKit
open Go.RowKit
structure KeepOk (p:PatchD) (kp:List Int):Prop where
 fits:fitsP p
 n24:p.2.2.1.length≤24
 k24:kp.length≤24
 rng:idxs p.2.2.1.length kp=true
 frs:∀x∈p.2.2.1,x.2.2.2.length≤23∧idxs p.2.2.1.length x.2.2.2=true
 o4:p.2.2.2.length≤4
 outs:idxs p.2.2.1.length p.2.2.2=true
open Go.RowKit
open Go.RowKit
open Go.RowKit
def FromR (R:Nat→Nat→Prop) (l m:List Int):Prop:=l.length=m.length∧∀k,k < l.length→∃a b:Nat,l.getD k 0=(a:Int)∧m.getD k 0=(b:Int)∧R a b
def SwapR (R:Nat→Nat→Prop) (l m:List Int):Prop:=l.length=2∧m.length=2∧∃a b c d:Nat,l.getD 0 0=(a:Int)∧l.getD 1 0=(b:Int)∧m.getD 0 0=(c:Int)∧m.getD 1 0=(d:Int)∧R a d∧R b c
structure NSim (ts ts':List (List Int)) (R:Nat→Nat→Prop) (x y:NodeD):Prop where
 key:keyOf ts x=keyOf ts' y
 ins:FromR R x.2.2.2 y.2.2.2∨(swapB x=true∧SwapR R x.2.2.2 y.2.2.2)
structure PSim (p q:PatchD) (R:Nat→Nat→Prop):Prop where
 inp:p.1=q.1
 node:∀i c,R i c→i < p.2.2.1.length∧c < q.2.2.1.length∧NSim p.2.1 q.2.1 R (p.2.2.1.getD i n0) (q.2.2.1.getD c n0)
 outs:FromR R p.2.2.2 q.2.2.2
section
variable {p q:PatchD} {R:Nat→Nat→Prop} (hp:patchB p=true) (hq:patchB q=true) (hS:PSim p q R)
end
open Go.RowKit
section
variable {p:PatchD}
end
section
variable {p:PatchD}
end
open Go.RowKit
end Go.Proofs.Ytenjbehedcegdaa
