/-
  Texts of this claim, joined (part 23). No condition beyond those of the theorems.
-/
import Derived.Test.YtenjbehedcegdaaGreatQ22
namespace Go.Proofs.YtenjbehedcegdaaGreat
open Go.RowKit
set_option linter.unusedSimpArgs false
set_option linter.unusedVariables false
def B1Y (code:List A1):Prop:=code.length≤48∧∀x∈code,(0≤xN x∧xN x≤23)∧1≤x.1∧x.1≤18
def mkW (n:Int) (s:List Int):List Bool:=(List.range n.toNat).map fun (i:Nat)=>s.contains (i:Int)
theorem B84 (n:Int) (s:List Int):(mkW n s).length=n.toNat:=by simp[mkW]
theorem B6d {n r:Int} {s:List Int} (h0:0≤r) (h1:r < n):(mkW n s).getD r.toNat false=s.contains r:=by
 have h:r.toNat < n.toNat:=by omega
 simp[mkW,List.getD,h,Int.toNat_of_nonneg h0]
theorem B7e (n:Int):List.replicate n.toNat false=mkW n []:=by
 refine List.ext_getElem (by simp[mkW]) fun i h1 h2=>?_
 simp[mkW]
theorem B7Q {n r:Int} {s:List Int} (h0:0≤r) (h1:r < n):(mkW n s).set r.toNat true=mkW n (s++[r]):=by
 refine List.ext_getElem (by simp[mkW]) fun i h2 h3=>?_
 simp only[mkW,List.length_map,List.length_range] at h3
 by_cases e:r.toNat=i
 · subst e;rw[List.getElem_set_self];simp[mkW,Int.toNat_of_nonneg h0]
 · rw[List.getElem_set_ne e];have:¬(i:Int)=r:=by omega
   simp[mkW,this]
theorem A05 (rg tb kd a bb nd:Int) (fr:List Int) (tt:Int):A12 rg tb (kd,a,bb,nd,fr,tt)=(I6 nd 0 23 && (N2 rg fr && (match decide (kd=18) with
 | true=>decide ((fr.length:Int)=1) && (decide (a=0) && (decide (bb=0) && decide (tt=0)))
 | false => I6 tt 0 (rg - 1) && (match decide (kd = 6) with
   | true=>I6 a 1 16 && (decide (bb=0) && decide ((fr.length:Int)=0))
   | false=>O7 (kd,a,bb,fr) tb)))):=by
 have e1:decide ((fr.length:Int)=1)=decide (fr.length=1):=decide_eq_decide.2 (by omega)
 have e2:decide ((fr.length:Int)=0)=decide (fr.length=0):=decide_eq_decide.2 (by omega)
 rw[e1,e2]
 rfl
theorem U5 {x:Int} (h:I6 x 0 24=true):I6 x (-9223372036854775807) 9223372036854775807=true:=by
 have:=B4.1 h
 exact L8 (by omega) (by omega)
def b5 (g:G0) (x:A1):Bool:=A12 g.2.1 g.2.2.1.length x && !(decide (x.1=1) && decide (g.1≤x.2.1))
theorem B63 {g:G0} {x:A1} (h:A12 g.2.1 g.2.2.1.length x=true) (h2:¬(x.1=1∧g.1≤x.2.1)):b5 g x=true:=by
 unfold b5;rw[h]
 by_cases e:x.1=1
 · have e2:¬g.1≤x.2.1:=fun e2=>h2 ⟨e,e2⟩
   simp[e2]
 · simp[e]
theorem Z6 {g:G0} {x:A1} (h:b5 g x=true):A12 g.2.1 g.2.2.1.length x=true∧¬(x.1=1∧g.1≤x.2.1):=by
 simp only[b5,Bool.and_eq_true,Bool.not_eq_true',Bool.and_eq_false_iff,decide_eq_false_iff_not] at h
 exact⟨h.1,fun e=>by rcases h.2 with h2|h2;exact h2 e.1;exact h2 e.2⟩
def wOk (g:G0):Prop:=(0≤g.2.1∧g.2.1≤24)∧g.2.2.2.1.length≤48∧(∀x∈g.2.2.2.1,N2 g.2.1 (xF x)=true∧(¬x.1=18→0≤xT x∧xT x < g.2.1))∧N2 g.2.1 g.2.2.2.2=true
def WrtI (code:List A1) (p:Nat × List Int):Prop:=p.1≤code.length∧A2M code p.1=some p.2
theorem WrtI.start (code:List A1):WrtI code (0,[]):=⟨Nat.zero_le _,rfl⟩
theorem WrtI.node {code:List A1} {k:Nat} {s:List Int} (h:WrtI code (k,s)) (hk:k < code.length) (ha:(xF (code.getD k x0)).all (fun f=>s.contains f)=true) (h18:¬(code.getD k x0).1=18):WrtI code (k+1,s++[xT (code.getD k x0)]):=by
 obtain⟨h1,h2⟩:=h;refine⟨hk,?_⟩
 show (A2M code k).bind (A2N (code.getD k x0))=_
 rw[h2];show A2N _ s=_
 unfold A2N;rw[ha,decide_eq_false h18]
theorem WrtI.store {code:List A1} {k:Nat} {s:List Int} (h:WrtI code (k,s)) (hk:k < code.length) (ha:(xF (code.getD k x0)).all (fun f=>s.contains f)=true) (h18:(code.getD k x0).1=18):WrtI code (k+1,s):=by
 obtain⟨h1,h2⟩:=h;refine⟨hk,?_⟩
 show (A2M code k).bind (A2N (code.getD k x0))=_
 rw[h2];show A2N _ s=_
 unfold A2N;rw[ha,decide_eq_true h18]
theorem B4J {code:List A1} {k:Nat} (h:A2M code k=none):∀m,k≤m→A2M code m=none:=by
 intro m hm
 induction hm with
 | refl=>exact h
 | step _ ih=>show (A2M code _).bind _=none;rw[ih];rfl
theorem WrtI.no {code:List A1} {os:List Int} {k:Nat} {s:List Int} (h:WrtI code (k,s)) (hk:k < code.length) (ha:(xF (code.getD k x0)).all (fun f=>s.contains f)=false):A2r code os=false:=by
 have h1:A2M code (k+1)=none:=by
  show (A2M code k).bind (A2N (code.getD k x0))=_
  rw[h.2];show A2N _ s=_
  unfold A2N;rw[ha]
 unfold A2r;rw[B4J h1 _ hk]
theorem WrtI.fin {code:List A1} {os:List Int} {k:Nat} {s:List Int} (h:WrtI code (k,s)) (hk:code.length≤k):A2r code os=os.all fun f=>s.contains f:=by
 have h1:=h.1
 have e:k=code.length:=by omega
 subst e;have h2:=h.2
 unfold A2r;rw[h2]
theorem B7h {code:List A1} {r:Int} (hr:∀x∈code,¬x.1=18→0≤xT x∧xT x < r):∀k,k≤code.length→∀s,A2M code k=some s→∀f∈s,0≤f∧f < r:=by
 intro k
 induction k with
 | zero=>intro _ s h f hf;cases h;cases hf
 | succ k ih =>
   intro hk s h f hf
   have h0:(A2M code k).bind (A2N (code.getD k x0))=some s:=h
   cases e:A2M code k with
   | none=>rw[e] at h0;cases h0
   | some t =>
     rw[e] at h0;have h0:A2N (code.getD k x0) t=some s:=h0
     unfold A2N at h0
     split at h0
     · split at h0
       · cases h0;exact ih (by omega) _ e f hf
       · rename_i hd
         cases h0
         rcases List.mem_append.1 hf with h1|h1
         · exact ih (by omega) _ e f h1
         · rw[List.mem_singleton.1 h1];exact hr _ (C6 (by omega)) (of_decide_eq_false hd)
     · cases h0
theorem A9K {code:List A1} {os:List Int} {r:Int} (hr:∀x∈code,¬x.1=18→0≤xT x∧xT x < r) (h:A2r code os=true):N2 r os=true:=by
 unfold A2r at h;cases e:A2M code code.length with
 | none=>rw[e] at h;cases h
 | some s =>
   rw[e] at h;refine List.all_eq_true.2 fun f hf=>?_
   have h1:=List.contains_iff_mem.1 (List.all_eq_true.1 h f hf)
   have h2:=B7h hr _ (Nat.le_refl _) s e f h1
   exact L8 h2.1 (by omega)
def A2O (g:G0):Bool:=I6 g.1 0 4 && (I6 g.2.1 0 24 && (Y6 g.2.2.1 && (decide (g.2.2.2.1.length≤48) && (decide (g.2.2.2.2.length≤4) && N2 g.2.1 g.2.2.2.2))))
def A4h (g:G0):Bool:=I6 g.1 0 4 && (I6 g.2.1 0 24 && (Y6 g.2.2.1 && (decide (g.2.2.2.1.length≤48) && decide (g.2.2.2.2.length≤4))))
theorem A3W (g:G0):O0 g=(A4h g && (g.2.2.2.1.all (b5 g) && (b9 g.2.2.2.1 && A2r g.2.2.2.1 g.2.2.2.2))):=by
 unfold O0 A4h;simp only[Bool.and_assoc]
 rfl
theorem B2M {g:G0} (hl:g.2.2.2.1.length≤48) (h:g.2.2.2.1.all (b5 g)=true):B1Y g.2.2.2.1 :=
 ⟨hl,fun x hx=>by
  have h1:=(Z6 (List.all_eq_true.1 h x hx)).1
  exact⟨(G7 h1).1,A3H h1⟩⟩
theorem B61 {g:G0} (h:g.2.2.2.1.all (b5 g)=true):A47 g.2.2.2.1=b9 g.2.2.2.1:=B6c fun t ht=>by
 have h1:=(Z6 (List.all_eq_true.1 h _ (C6 (d:=x0) ht))).1
 exact⟨(G7 h1).1,by have:=A3H h1;omega⟩
theorem A6P (g:G0):O0 g=(A2O g && (g.2.2.2.1.all (b5 g) && (A47 g.2.2.2.1 && A2r g.2.2.2.1 g.2.2.2.2))):=by
 rw[A3W];cases h:g.2.2.2.1.all (b5 g) with
 | false=>simp
 | true =>
   rw[B61 h];have e:A2O g=(A4h g && N2 g.2.1 g.2.2.2.2):=by unfold A2O A4h;simp only[Bool.and_assoc]
   rw[e];cases hw:A2r g.2.2.2.1 g.2.2.2.2 with
   | false=>simp
   | true =>
     have hi:=A9K (r:=g.2.1) (fun x hx h18=>(G7 (Z6 (List.all_eq_true.1 h x hx)).1).2.2.2.1 h18) hw
     rw[hi];simp
theorem A1s {g:G0} (h:A2O g=true):(0≤g.1∧g.1≤4)∧(0≤g.2.1∧g.2.1≤24)∧Y6 g.2.2.1=true∧g.2.2.2.1.length≤48∧g.2.2.2.2.length≤4∧N2 g.2.1 g.2.2.2.2=true:=by
 simp only[A2O,Bool.and_eq_true,decide_eq_true_eq] at h
 exact⟨B4.1 h.1,B4.1 h.2.1,h.2.2.1,h.2.2.2.1,h.2.2.2.2.1,h.2.2.2.2.2⟩
theorem B8l {g:G0} (hA:A2O g=true) (h:g.2.2.2.1.all (b5 g)=true):wOk g:=by
 obtain⟨_,h2,_,h4,_,h6⟩:=A1s hA
 refine⟨h2,h4,fun x hx=>?_,h6⟩
 have h1:=G7 (Z6 (List.all_eq_true.1 h x hx)).1
 exact⟨h1.2.1,h1.2.2.2.1⟩
def PairI (code:List A1) (p:Nat × List Int × List Int):Prop:=p.1≤code.length∧R7 code p.1=some p.2∧p.2.1.length≤p.1∧p.2.2.length≤p.1
theorem A60 {code:List A1} {k:Nat} (h:R7 code k=none):∀m,k≤m→R7 code m=none:=by
 intro m hm
 induction hm with
 | refl=>exact h
 | step _ ih=>show (R7 code _).bind _=none;rw[ih];rfl
section
variable {code:List A1} {k:Nat} {s o:List Int} (h:PairI code (k,s,o)) (hk:k < code.length)
include h
theorem PairI.step:R7 code (k+1)=Y7 (code.getD k x0) (s,o):=by
 show (R7 code k).bind (Y7 (code.getD k x0))=_
 rw[h.2.1];rfl
include hk
theorem PairI.lone (h18:(code.getD k x0).1=18) (hc:o.contains (xN (code.getD k x0))=false):b9 code=false:=by
 have h1:R7 code (k+1)=none:=by rw[h.step];unfold Y7;rw[decide_eq_true h18];simp only;rw[hc]
 unfold b9;rw[A60 h1 _ hk]
theorem PairI.twice (h18:¬(code.getD k x0).1=18) (hc:s.contains (xN (code.getD k x0))=true):b9 code=false:=by
 have h1:R7 code (k+1)=none:=by rw[h.step];unfold Y7;rw[decide_eq_false h18];simp only;rw[hc]
 unfold b9;rw[A60 h1 _ hk]
theorem PairI.store (h18:(code.getD k x0).1=18) (hc:o.contains (xN (code.getD k x0))=true):PairI code (k+1,s,o.filter fun y=>!decide (y=xN (code.getD k x0))):=by
 obtain⟨_,_,h3,h4⟩:=id h
 simp only at h3 h4
 refine⟨hk,?_,by show s.length≤k+1;omega,?_⟩
 · show R7 code (k+1)=_
   rw[h.step];unfold Y7;rw[decide_eq_true h18];simp only;rw[hc]
 · have:=List.length_filter_le (fun y=>!decide (y=xN (code.getD k x0))) o
   show (o.filter _).length≤k+1
   omega
theorem PairI.delay (h18:¬(code.getD k x0).1=18) (hc:s.contains (xN (code.getD k x0))=false) (h6:(code.getD k x0).1=6):PairI code (k+1,s++[xN (code.getD k x0)],o++[xN (code.getD k x0)]):=by
 obtain⟨_,_,h3,h4⟩:=id h
 simp only at h3 h4
 refine⟨hk,?_,by show (s++[_]).length≤k+1;simp;omega,by show (o++[_]).length≤k+1;simp;omega⟩
 show R7 code (k+1)=_
 rw[h.step];unfold Y7;rw[decide_eq_false h18];simp only;rw[hc];simp only;rw[decide_eq_true h6]
theorem PairI.node (h18:¬(code.getD k x0).1=18) (hc:s.contains (xN (code.getD k x0))=false) (h6:¬(code.getD k x0).1=6):PairI code (k+1,s++[xN (code.getD k x0)],o):=by
 obtain⟨_,_,h3,h4⟩:=id h
 simp only at h3 h4
 refine⟨hk,?_,by show (s++[_]).length≤k+1;simp;omega,by show o.length≤k+1;omega⟩
 show R7 code (k+1)=_
 rw[h.step];unfold Y7;rw[decide_eq_false h18];simp only;rw[hc];simp only;rw[decide_eq_false h6]
end
theorem PairI.fin {code:List A1} {k:Nat} {s o:List Int} (h:PairI code (k,s,o)) (hk:code.length≤k):b9 code=decide (o.length=0):=by
 have h1:=h.1
 have e:k=code.length:=by omega
 subst e;have h2:=h.2.1
 unfold b9;rw[h2]
theorem B51 {l:List Int} {n:Int} {m:Nat} (h:m < l.length) (c:¬l.getD m 0=n):(l.take m).filter (fun y=>!decide (y=n))++[l.getD m 0]=(l.take (m+1)).filter fun y=>!decide (y=n):=by
 have e:l.getD m 0=l[m]:=by simp[List.getD,h]
 rw[e] at c ⊢
 rw[List.take_succ_eq_append_getElem h,List.filter_append];simp[c]
theorem B6i {l:List Int} {n:Int} {m:Nat} (h:m < l.length) (c:l.getD m 0=n):(l.take (m+1)).filter (fun y=>!decide (y=n))=(l.take m).filter fun y=>!decide (y=n):=by
 have e:l.getD m 0=l[m]:=by simp[List.getD,h]
 rw[e] at c;rw[List.take_succ_eq_append_getElem h,List.filter_append];simp[c]
end Go.Proofs.YtenjbehedcegdaaGreat
