/-
  Texts of this claim, joined (part 20). No condition beyond those of the theorems.
-/
import Derived.Test.YtenjbehedcegdaaR19
namespace Go.Proofs.Ytenjbehedcegdaa
open Go.RowKit
set_option linter.unusedSimpArgs false
set_option linter.unusedVariables false
def smallI (code:List InstrD):Prop:=code.length≤48∧∀x∈code,(0≤xN x∧xN x≤23)∧1≤x.1∧x.1≤18
def mkW (n:Int) (s:List Int):List Bool:=(List.range n.toNat).map fun (i:Nat)=>s.contains (i:Int)
theorem mkW_len (n:Int) (s:List Int):(mkW n s).length=n.toNat:=by simp[mkW]
theorem mkW_at {n r:Int} {s:List Int} (h0:0≤r) (h1:r < n):(mkW n s).getD r.toNat false=s.contains r:=by
 have h:r.toNat < n.toNat:=by omega
 simp[mkW,List.getD,h,Int.toNat_of_nonneg h0]
theorem mkW_nil (n:Int):List.replicate n.toNat false=mkW n []:=by
 refine List.ext_getElem (by simp[mkW]) fun i h1 h2=>?_
 simp[mkW]
theorem mkW_set {n r:Int} {s:List Int} (h0:0≤r) (h1:r < n):(mkW n s).set r.toNat true=mkW n (s++[r]):=by
 refine List.ext_getElem (by simp[mkW]) fun i h2 h3=>?_
 simp only[mkW,List.length_map,List.length_range] at h3
 by_cases e:r.toNat=i
 · subst e
   rw[List.getElem_set_self]
   simp[mkW,Int.toNat_of_nonneg h0]
 · rw[List.getElem_set_ne e]
   have:¬(i:Int)=r:=by omega
   simp[mkW,this]
theorem insB_v (rg tb kd a bb nd:Int) (fr:List Int) (tt:Int):insB rg tb (kd,a,bb,nd,fr,tt)=(inR nd 0 23 && (idxs rg fr && (match decide (kd=18) with
 | true=>decide ((fr.length:Int)=1) && (decide (a=0) && (decide (bb=0) && decide (tt=0)))
 | false => inR tt 0 (rg - 1) && (match decide (kd = 6) with
   | true=>inR a 1 16 && (decide (bb=0) && decide ((fr.length:Int)=0))
   | false=>nodeB (kd,a,bb,fr) tb)))):=by
 have e1:decide ((fr.length:Int)=1)=decide (fr.length=1):=decide_eq_decide.2 (by omega)
 have e2:decide ((fr.length:Int)=0)=decide (fr.length=0):=decide_eq_decide.2 (by omega)
 rw[e1,e2]
 rfl
theorem inR_wide {x:Int} (h:inR x 0 24=true):inR x (-9223372036854775807) 9223372036854775807=true:=by
 have:=inR_iff.1 h
 exact inR_t (by omega) (by omega)
def insG (g:ProgD) (x:InstrD):Bool:=insB g.2.1 g.2.2.1.length x && !(decide (x.1=1) && decide (g.1≤x.2.1))
theorem insG_t {g:ProgD} {x:InstrD} (h:insB g.2.1 g.2.2.1.length x=true) (h2:¬(x.1=1∧g.1≤x.2.1)):insG g x=true:=by
 unfold insG;rw[h]
 by_cases e:x.1=1
 · have e2:¬g.1≤x.2.1:=fun e2=>h2 ⟨e,e2⟩
   simp[e2]
 · simp[e]
theorem insG_parts {g:ProgD} {x:InstrD} (h:insG g x=true):insB g.2.1 g.2.2.1.length x=true∧¬(x.1=1∧g.1≤x.2.1):=by
 simp only[insG,Bool.and_eq_true,Bool.not_eq_true',Bool.and_eq_false_iff,decide_eq_false_iff_not] at h
 exact⟨h.1,fun e=>by rcases h.2 with h2|h2;exact h2 e.1;exact h2 e.2⟩
def wOk (g:ProgD):Prop:=(0≤g.2.1∧g.2.1≤24)∧g.2.2.2.1.length≤48∧(∀x∈g.2.2.2.1,idxs g.2.1 (xF x)=true∧(¬x.1=18→0≤xT x∧xT x < g.2.1))∧idxs g.2.1 g.2.2.2.2=true
def WrtI (code:List InstrD) (p:Nat × List Int):Prop:=p.1≤code.length∧wrtK code p.1=some p.2
theorem WrtI.start (code:List InstrD):WrtI code (0,[]):=⟨Nat.zero_le _,rfl⟩
theorem WrtI.node {code:List InstrD} {k:Nat} {s:List Int} (h:WrtI code (k,s)) (hk:k < code.length) (ha:(xF (code.getD k x0)).all (fun f=>s.contains f)=true) (h18:¬(code.getD k x0).1=18):WrtI code (k+1,s++[xT (code.getD k x0)]):=by
 obtain⟨h1,h2⟩:=h
 refine⟨hk,?_⟩
 show (wrtK code k).bind (wrtS (code.getD k x0))=_
 rw[h2]
 show wrtS _ s=_
 unfold wrtS
 rw[ha,decide_eq_false h18]
theorem WrtI.store {code:List InstrD} {k:Nat} {s:List Int} (h:WrtI code (k,s)) (hk:k < code.length) (ha:(xF (code.getD k x0)).all (fun f=>s.contains f)=true) (h18:(code.getD k x0).1=18):WrtI code (k+1,s):=by
 obtain⟨h1,h2⟩:=h
 refine⟨hk,?_⟩
 show (wrtK code k).bind (wrtS (code.getD k x0))=_
 rw[h2]
 show wrtS _ s=_
 unfold wrtS
 rw[ha,decide_eq_true h18]
theorem wrtK_none {code:List InstrD} {k:Nat} (h:wrtK code k=none):∀m,k≤m→wrtK code m=none:=by
 intro m hm
 induction hm with
 | refl=>exact h
 | step _ ih=>show (wrtK code _).bind _=none;rw[ih];rfl
theorem WrtI.no {code:List InstrD} {os:List Int} {k:Nat} {s:List Int} (h:WrtI code (k,s)) (hk:k < code.length) (ha:(xF (code.getD k x0)).all (fun f=>s.contains f)=false):wrtB code os=false:=by
 have h1:wrtK code (k+1)=none:=by
  show (wrtK code k).bind (wrtS (code.getD k x0))=_
  rw[h.2]
  show wrtS _ s=_
  unfold wrtS
  rw[ha]
 unfold wrtB;rw[wrtK_none h1 _ hk]
theorem WrtI.fin {code:List InstrD} {os:List Int} {k:Nat} {s:List Int} (h:WrtI code (k,s)) (hk:code.length≤k):wrtB code os=os.all fun f=>s.contains f:=by
 have h1:=h.1
 have e:k=code.length:=by omega
 subst e
 have h2:=h.2
 unfold wrtB;rw[h2]
theorem wrt_rng {code:List InstrD} {r:Int} (hr:∀x∈code,¬x.1=18→0≤xT x∧xT x < r):∀k,k≤code.length→∀s,wrtK code k=some s→∀f∈s,0≤f∧f < r:=by
 intro k
 induction k with
 | zero=>intro _ s h f hf;cases h;cases hf
 | succ k ih =>
   intro hk s h f hf
   have h0:(wrtK code k).bind (wrtS (code.getD k x0))=some s:=h
   cases e:wrtK code k with
   | none=>rw[e] at h0;cases h0
   | some t =>
     rw[e] at h0
     have h0:wrtS (code.getD k x0) t=some s:=h0
     unfold wrtS at h0
     split at h0
     · split at h0
       · cases h0;exact ih (by omega) _ e f hf
       · rename_i hd
         cases h0
         rcases List.mem_append.1 hf with h1|h1
         · exact ih (by omega) _ e f h1
         · rw[List.mem_singleton.1 h1];exact hr _ (getD_mem (by omega)) (of_decide_eq_false hd)
     · cases h0
theorem wrt_idx {code:List InstrD} {os:List Int} {r:Int} (hr:∀x∈code,¬x.1=18→0≤xT x∧xT x < r) (h:wrtB code os=true):idxs r os=true:=by
 unfold wrtB at h
 cases e:wrtK code code.length with
 | none=>rw[e] at h;cases h
 | some s =>
   rw[e] at h
   refine List.all_eq_true.2 fun f hf=>?_
   have h1:=List.contains_iff_mem.1 (List.all_eq_true.1 h f hf)
   have h2:=wrt_rng hr _ (Nat.le_refl _) s e f h1
   exact inR_t h2.1 (by omega)
def progA (g:ProgD):Bool:=inR g.1 0 4 && (inR g.2.1 0 24 && (tabsB g.2.2.1 && (decide (g.2.2.2.1.length≤48) && (decide (g.2.2.2.2.length≤4) && idxs g.2.1 g.2.2.2.2))))
def progC (g:ProgD):Bool:=inR g.1 0 4 && (inR g.2.1 0 24 && (tabsB g.2.2.1 && (decide (g.2.2.2.1.length≤48) && decide (g.2.2.2.2.length≤4))))
theorem progC_eq (g:ProgD):progB g=(progC g && (g.2.2.2.1.all (insG g) && (pairB g.2.2.2.1 && wrtB g.2.2.2.1 g.2.2.2.2))):=by
 unfold progB progC
 simp only[Bool.and_assoc]
 rfl
theorem code_small {g:ProgD} (hl:g.2.2.2.1.length≤48) (h:g.2.2.2.1.all (insG g)=true):smallI g.2.2.2.1 :=
 ⟨hl,fun x hx=>by
  have h1:=(insG_parts (List.all_eq_true.1 h x hx)).1
  exact⟨(ins_parts h1).1,ins_kind h1⟩⟩
theorem code_has {g:ProgD} (h:g.2.2.2.1.all (insG g)=true):hasB g.2.2.2.1=pairB g.2.2.2.1:=has_pair fun t ht=>by
 have h1:=(insG_parts (List.all_eq_true.1 h _ (getD_mem (d:=x0) ht))).1
 exact⟨(ins_parts h1).1,by have:=ins_kind h1;omega⟩
theorem progA_eq (g:ProgD):progB g=(progA g && (g.2.2.2.1.all (insG g) && (hasB g.2.2.2.1 && wrtB g.2.2.2.1 g.2.2.2.2))):=by
 rw[progC_eq]
 cases h:g.2.2.2.1.all (insG g) with
 | false=>simp
 | true =>
   rw[code_has h]
   have e:progA g=(progC g && idxs g.2.1 g.2.2.2.2):=by unfold progA progC;simp only[Bool.and_assoc]
   rw[e]
   cases hw:wrtB g.2.2.2.1 g.2.2.2.2 with
   | false=>simp
   | true =>
     have hi:=wrt_idx (r:=g.2.1) (fun x hx h18=>(ins_parts (insG_parts (List.all_eq_true.1 h x hx)).1).2.2.2.1 h18) hw
     rw[hi];simp
theorem progA_parts {g:ProgD} (h:progA g=true):(0≤g.1∧g.1≤4)∧(0≤g.2.1∧g.2.1≤24)∧tabsB g.2.2.1=true∧g.2.2.2.1.length≤48∧g.2.2.2.2.length≤4∧idxs g.2.1 g.2.2.2.2=true:=by
 simp only[progA,Bool.and_eq_true,decide_eq_true_eq] at h
 exact⟨inR_iff.1 h.1,inR_iff.1 h.2.1,h.2.2.1,h.2.2.2.1,h.2.2.2.2.1,h.2.2.2.2.2⟩
theorem code_w {g:ProgD} (hA:progA g=true) (h:g.2.2.2.1.all (insG g)=true):wOk g:=by
 obtain⟨_,h2,_,h4,_,h6⟩:=progA_parts hA
 refine⟨h2,h4,fun x hx=>?_,h6⟩
 have h1:=ins_parts (insG_parts (List.all_eq_true.1 h x hx)).1
 exact⟨h1.2.1,h1.2.2.2.1⟩
def PairI (code:List InstrD) (p:Nat × List Int × List Int):Prop:=p.1≤code.length∧pairK code p.1=some p.2∧p.2.1.length≤p.1∧p.2.2.length≤p.1
theorem pairK_none {code:List InstrD} {k:Nat} (h:pairK code k=none):∀m,k≤m→pairK code m=none:=by
 intro m hm
 induction hm with
 | refl=>exact h
 | step _ ih=>show (pairK code _).bind _=none;rw[ih];rfl
section
variable {code:List InstrD} {k:Nat} {s o:List Int} (h:PairI code (k,s,o)) (hk:k < code.length)
include h
theorem PairI.step:pairK code (k+1)=pairS (code.getD k x0) (s,o):=by
 show (pairK code k).bind (pairS (code.getD k x0))=_
 rw[h.2.1];rfl
include hk
theorem PairI.lone (h18:(code.getD k x0).1=18) (hc:o.contains (xN (code.getD k x0))=false):pairB code=false:=by
 have h1:pairK code (k+1)=none:=by rw[h.step];unfold pairS;rw[decide_eq_true h18];simp only;rw[hc]
 unfold pairB;rw[pairK_none h1 _ hk]
theorem PairI.twice (h18:¬(code.getD k x0).1=18) (hc:s.contains (xN (code.getD k x0))=true):pairB code=false:=by
 have h1:pairK code (k+1)=none:=by rw[h.step];unfold pairS;rw[decide_eq_false h18];simp only;rw[hc]
 unfold pairB;rw[pairK_none h1 _ hk]
theorem PairI.store (h18:(code.getD k x0).1=18) (hc:o.contains (xN (code.getD k x0))=true):PairI code (k+1,s,o.filter fun y=>!decide (y=xN (code.getD k x0))):=by
 obtain⟨_,_,h3,h4⟩:=id h
 simp only at h3 h4
 refine⟨hk,?_,by show s.length≤k+1;omega,?_⟩
 · show pairK code (k+1)=_
   rw[h.step];unfold pairS;rw[decide_eq_true h18];simp only;rw[hc]
 · have:=List.length_filter_le (fun y=>!decide (y=xN (code.getD k x0))) o
   show (o.filter _).length≤k+1
   omega
theorem PairI.delay (h18:¬(code.getD k x0).1=18) (hc:s.contains (xN (code.getD k x0))=false) (h6:(code.getD k x0).1=6):PairI code (k+1,s++[xN (code.getD k x0)],o++[xN (code.getD k x0)]):=by
 obtain⟨_,_,h3,h4⟩:=id h
 simp only at h3 h4
 refine⟨hk,?_,by show (s++[_]).length≤k+1;simp;omega,by show (o++[_]).length≤k+1;simp;omega⟩
 show pairK code (k+1)=_
 rw[h.step];unfold pairS;rw[decide_eq_false h18];simp only;rw[hc];simp only;rw[decide_eq_true h6]
theorem PairI.node (h18:¬(code.getD k x0).1=18) (hc:s.contains (xN (code.getD k x0))=false) (h6:¬(code.getD k x0).1=6):PairI code (k+1,s++[xN (code.getD k x0)],o):=by
 obtain⟨_,_,h3,h4⟩:=id h
 simp only at h3 h4
 refine⟨hk,?_,by show (s++[_]).length≤k+1;simp;omega,by show o.length≤k+1;omega⟩
 show pairK code (k+1)=_
 rw[h.step];unfold pairS;rw[decide_eq_false h18];simp only;rw[hc];simp only;rw[decide_eq_false h6]
end
theorem PairI.fin {code:List InstrD} {k:Nat} {s o:List Int} (h:PairI code (k,s,o)) (hk:code.length≤k):pairB code=decide (o.length=0):=by
 have h1:=h.1
 have e:k=code.length:=by omega
 subst e
 have h2:=h.2.1
 unfold pairB;rw[h2]
theorem flt_next {l:List Int} {n:Int} {m:Nat} (h:m < l.length) (c:¬l.getD m 0=n):(l.take m).filter (fun y=>!decide (y=n))++[l.getD m 0]=(l.take (m+1)).filter fun y=>!decide (y=n):=by
 have e:l.getD m 0=l[m]:=by simp[List.getD,h]
 rw[e] at c ⊢
 rw[List.take_succ_eq_append_getElem h,List.filter_append]
 simp[c]
theorem flt_skip {l:List Int} {n:Int} {m:Nat} (h:m < l.length) (c:l.getD m 0=n):(l.take (m+1)).filter (fun y=>!decide (y=n))=(l.take m).filter fun y=>!decide (y=n):=by
 have e:l.getD m 0=l[m]:=by simp[List.getD,h]
 rw[e] at c
 rw[List.take_succ_eq_append_getElem h,List.filter_append]
 simp[c]
end Go.Proofs.Ytenjbehedcegdaa
