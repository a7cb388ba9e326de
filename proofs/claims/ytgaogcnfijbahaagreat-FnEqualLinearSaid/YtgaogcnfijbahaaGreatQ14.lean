/-
  Texts of this claim, joined (part 14). No condition beyond those of the theorems.
-/
import Derived.Test.YtgaogcnfijbahaaGreatQ05
import Derived.Test.YtgaogcnfijbahaaGreatQ13
set_option linter.unusedSimpArgs false
set_option linter.unusedVariables false
namespace Go.Proofs.YtgaogcnfijbahaaGreat
open Go.RowKit
def stN (p:A3) (ins:List (List Int)) (i:Nat):List (List Int):=(C2 p ins 0 i (W9 p,List.replicate p.2.2.2.length [])).1
def A9D (p:A3) (ins:List (List Int)) (i:Nat):List Int:=E8 p (stN p ins i) (C7 ins (i:Int))
theorem A9u (p:A3) (ins:List (List Int)):stN p ins 0=W9 p:=rfl
theorem A9C (p:A3) (ins:List (List Int)) (i:Nat):stN p ins (i+1)=S6 p (stN p ins i) (C7 ins (i:Int)) (A9D p ins i):=by
 unfold stN A9D;simp only[C2,Int.zero_add]
 rfl
theorem B6R {p:A3} {ins:List (List Int)} (h:C0 p=true) (hi:J9 p ins) (i:Nat):U3 p (stN p ins i):=(A0y h (n8 h) hi (by simp) i).1
theorem C48 {p:A3} {ins:List (List Int)} (h:C0 p=true) (hi:J9 p ins) {k i:Nat} (hk:k < p.2.2.2.length):∀m,i < m→((H9 p ins m).getD k []).getD i 0=(J4 p (A9D p ins i)).getD k 0:=by
 intro m
 induction m with
 | zero=>intro h;omega
 | succ m ih =>
   intro him;have hb:=(A0y (frm:=0) h (n8 h) hi (o:=List.replicate p.2.2.2.length []) (by simp) m).2
   have hl:=A4S (frm:=0) h (n8 h) hi (o:=List.replicate p.2.2.2.length []) (m:=0) (by simp) (by intro i hi;simp[List.getD] at hi ⊢;simp[hi]) m k hk
   have e:(H9 p ins (m+1)).getD k []=(H9 p ins m).getD k []++[(J4 p (A9D p ins m)).getD k 0]:=by
    unfold H9;simp only[C2,Int.zero_add];rw[A4H (by omega) (by rw[U8];omega)]
    rfl
   have hl':((H9 p ins m).getD k []).length=m:=by unfold H9;omega
   rw[e,List.getD_eq_getElem?_getD]
   by_cases hc:i < m
   · rw[List.getElem?_append_left (by omega),←List.getD_eq_getElem?_getD];exact ih hc
   · obtain rfl:i=m:=by omega
     rw[List.getElem?_append_right (by omega),hl',Nat.sub_self];rfl
theorem B2d {p:A3} {ins:List (List Int)} (h:C0 p=true) (hi:J9 p ins) {k:Nat} (hk:k < p.2.2.2.length) (m:Nat):((H9 p ins m).getD k []).length=m:=by
 have hl:=A4S (frm:=0) h (n8 h) hi (o:=List.replicate p.2.2.2.length []) (m:=0) (by simp) (by intro i hi;simp[List.getD] at hi ⊢;simp[hi]) m k hk
 unfold H9;omega
open Go.RowKit
theorem A0g {α:Type} (f:Nat→α) (k:Nat):(List.range k).map f++[f k]=(List.range (k+1)).map f:=by simp[List.range_succ]
open Go.RowKit
open Go.RowKit
def B2b (ns:List A6):Prop:=∀P:Nat→Prop,(∀i:Nat,i < ns.length→(∀f∈J5 (ns.getD i n0),∃j:Nat,f=(j:Int)∧j < ns.length∧P j)→P i)→∀i,i < ns.length→P i
theorem B1q {ns:List A6} (hl:(C6 ns).length=ns.length):B2b ns:=by
 intro P h
 have hg:=Y5 ns
 have key:∀k,k≤(C6 ns).length→∀x∈(C6 ns).take k,P x.toNat:=by
  intro k
  induction k with
  | zero=>intro _ x hx;simp at hx
  | succ k ih =>
    intro hk x hx
    rw[E7 (d:=0) (by omega),List.mem_append,List.mem_singleton] at hx
    rcases hx with hx|rfl
    · exact ih (by omega) x hx
    · obtain⟨i,h1,h2,h3,h4⟩:=hg k (by omega)
      rw[h1,Int.toNat_natCast];refine h i h2 fun f hf=>?_
      have hm:=h4 f hf
      obtain⟨j,rfl,hj⟩:=hg.at (A1U hm)
      exact⟨j,rfl,hj,by have:=ih (by omega) _ hm;rwa [Int.toNat_natCast] at this⟩
 intro i hi
 have:=key _ (Nat.le_refl _) i (by rw[List.take_length];exact hg.full hl hi)
 rwa [Int.toNat_natCast] at this
theorem C0S:∀(m:Nat) (l:List Int),(∀i:Nat,i < m→(i:Int)∈l)→m≤l.length:=by
 intro m
 induction m with
 | zero=>intro l _;omega
 | succ m ih =>
   intro l h
   have h1:=ih (l.erase (m:Int)) fun i hi=>(List.mem_erase_of_ne (by omega)).2 (h i (by omega))
   have h2:=List.length_erase_of_mem (h m (by omega))
   have h3:0 < l.length:=List.length_pos_of_mem (h m (by omega))
   omega
theorem B9d {ns:List A6} (hw:B2b ns):∀(k:Nat) {o:List Int},o.length+k=ns.length→(A1Q ns k o).length=ns.length:=by
 intro k
 induction k with
 | zero=>intro o h;simpa [A1Q] using h
 | succ k ih =>
   intro o h
   simp only[A1Q]
   split
   · rename_i hn
     exfalso
     have hall:∀i:Nat,i < ns.length→(i:Int)∈o:=hw (fun i=>(i:Int)∈o) fun i hi hf=>by
      apply Classical.byContradiction
      intro hc;have h1:=List.find?_eq_none.1 hn i (List.mem_range.2 hi)
      apply h1
      simp only[U1,Bool.and_eq_true,Bool.not_eq_true',List.all_eq_true,List.contains_eq_mem,decide_eq_true_eq,decide_eq_false_iff_not];refine⟨hc,fun f hf'=>?_⟩
      obtain⟨j,rfl,hj,hm⟩:=hf f hf'
      exact hm
     have:=C0S _ _ hall
     omega
   · exact ih (by simp;omega)
theorem C2t {ns:List A6} (hw:B2b ns):(C6 ns).length=ns.length:=B9d hw _ (by simp)
theorem B8a {p:A3} {s:List (List Int)} {fr:List Int} (h:B9 p=true) {i:Nat} (hi:i < p.2.2.1.length):(E8 p s fr).getD i 0=A07 p s fr (E8 p s fr) i:=by
 obtain⟨hf,ho⟩:=B8 h
 have hg:=Y5 p.2.2.1
 have:=A8R (s:=s) (fr:=fr) (v0:=List.replicate p.2.2.1.length 0) hg (by simp) (i:Int) (hg.full ho hi)
 rwa [Int.toNat_natCast] at this
theorem C7a {a b:List Int} (hl:a.length=b.length) (h:∀j,j < b.length→a.getD j 0=b.getD j 0):a=b:=by
 refine List.ext_getElem hl fun i h1 h2=>?_
 have:=h i h2
 simpa only [List.getD_eq_getElem?_getD,List.getElem?_eq_getElem h1,List.getElem?_eq_getElem h2,Option.getD_some] using this
theorem C9f {a b:List (List Int)} (hl:a.length=b.length) (h:∀j,j < b.length→a.getD j []=b.getD j []):a=b:=by
 refine List.ext_getElem hl fun i h1 h2=>?_
 have:=h i h2
 simpa only [List.getD_eq_getElem?_getD,List.getElem?_eq_getElem h1,List.getElem?_eq_getElem h2,Option.getD_some] using this
def C2d (R:Nat→Nat→Prop) (l m:List Int):Prop:=l.length=m.length∧∀k,k < l.length→∃a b:Nat,l.getD k 0=(a:Int)∧m.getD k 0=(b:Int)∧R a b
def C8t (R:Nat→Nat→Prop) (l m:List Int):Prop:=l.length=2∧m.length=2∧∃a b c d:Nat,l.getD 0 0=(a:Int)∧l.getD 1 0=(b:Int)∧m.getD 0 0=(c:Int)∧m.getD 1 0=(d:Int)∧R a d∧R b c
structure NSim (ts:List (List Int)) (R:Nat→Nat→Prop) (x y:A6):Prop where
 key:A0e ts x=A0e ts y
 ins:C2d R x.2.2.2 y.2.2.2∨(A9r x=true∧C8t R x.2.2.2 y.2.2.2)
structure PSim (p q:A3) (R:Nat→Nat→Prop):Prop where
 inp:p.1=q.1
 tabs:p.2.1=q.2.1
 node:∀i c,R i c→i < p.2.2.1.length∧c < q.2.2.1.length∧NSim p.2.1 R (p.2.2.1.getD i n0) (q.2.2.1.getD c n0)
 outs:C2d R p.2.2.2 q.2.2.2
theorem A0K {ts:List (List Int)} {x y:A6} (h:A0e ts x=A0e ts y):x.1=y.1∧x.2.2.1=y.2.2.1∧(x.1≠13→x.2.1=y.2.1)∧(x.1=13→ts.getD x.2.1.toNat []=ts.getD y.2.1.toNat []):=by
 have h1:x.1=y.1:=by rw[←(A8W (ts:=ts) (n:=x)).1,h,A8W.1]
 have h2:x.2.2.1=y.2.2.1:=by rw[←(A8W (ts:=ts) (n:=x)).2,h,A8W.2]
 refine⟨h1,h2,fun h3=>?_,fun h3=>?_⟩
 · rw[B9T h3,B9T (h1 ▸ h3)] at h
   exact congrArg (fun (z:Int × Int × Int × List Int)=>z.2.2.1) h
 · rw[B8n h3,B8n (h1 ▸ h3)] at h
   exact congrArg (fun (z:Int × Int × Int × List Int)=>z.2.2.2) h
theorem C20 {ts:List (List Int)} {x y:A6} (h:A0e ts x=A0e ts y) (i s:List Int):o7 x.1 x.2.1 ts i s=o7 y.1 y.2.1 ts i s:=by
 obtain⟨h1,_,h3,h4⟩:=A0K h
 by_cases h13:x.1=13
 · rw[←h1,h13];show B5J (ts.getD x.2.1.toNat []) (i.getD 0 0)=B5J (ts.getD y.2.1.toNat []) (i.getD 0 0)
   rw[h4 h13]
 · rw[←h1,h3 h13]
theorem B7e {ts:List (List Int)} {x y:A6} (h:A0e ts x=A0e ts y):D4 x=D4 y:=by
 obtain⟨h1,h2,h3,h4⟩:=A0K h
 by_cases h13:x.1=13
 · unfold D4;rw[←h1,h13];rfl
 · unfold D4;rw[←h1,←h2,←h3 h13]
theorem A4K {n:A6} {fr v:List Int} (h:n.1≠1) {k:Nat} (hk:k < n.2.2.2.length):(Q8 n fr v).getD k 0=v.getD (n.2.2.2.getD k 0).toNat 0:=by
 unfold Q8;rw[decide_eq_false h];simp[List.getD,hk]
theorem B7c {n:A6} {fr v:List Int} (h:n.1≠1):(Q8 n fr v).length=n.2.2.2.length:=by
 unfold Q8;rw[decide_eq_false h];simp
theorem B8L {ts:List (List Int)} {R:Nat→Nat→Prop} {x y:A6} {fr v w:List Int} (h:NSim ts R x y) (hv:∀a b:Nat,(a:Int)∈x.2.2.2→R a b→v.getD a 0=w.getD b 0) :
 Q8 x fr v=Q8 y fr w∨(A9r x=true∧(Q8 x fr v).getD 0 0=(Q8 y fr w).getD 1 0∧(Q8 x fr v).getD 1 0=(Q8 y fr w).getD 0 0):=by
 obtain⟨h1,_,h3,_⟩:=A0K h.key
 by_cases k1:x.1=1
 · left
   unfold Q8;rw[decide_eq_true k1,decide_eq_true (show y.1=1 by omega),h3 (by omega)]
 have k2:y.1≠1:=by omega
 rcases h.ins with⟨e,hk⟩|⟨hs,l1,l2,a,b,c,d,q1,q2,q3,q4,r1,r2⟩
 · left
   refine C7a (by rw[B7c k1,B7c k2,e]) fun k hk2=>?_
   rw[B7c k2] at hk2;obtain⟨a,b,e1,e2,r⟩:=hk k (by omega)
   rw[A4K k1 (by omega),A4K k2 hk2,e1,e2,Int.toNat_natCast,Int.toNat_natCast]
   exact hv a b (by rw[←e1];exact D6 (by omega)) r
 · right
   refine⟨hs,?_,?_⟩
   · rw[A4K k1 (by omega),A4K k2 (by omega),q1,q4,Int.toNat_natCast,Int.toNat_natCast]
     exact hv a d (by rw[←q1];exact D6 (by omega)) r1
   · rw[A4K k1 (by omega),A4K k2 (by omega),q2,q3,Int.toNat_natCast,Int.toNat_natCast]
     exact hv b c (by rw[←q2];exact D6 (by omega)) r2
theorem C0u {kd a:Int} {ts:List (List Int)} {i j s:List Int} (h:kd=3∨kd=9) (e1:i.getD 0 0=j.getD 1 0) (e2:i.getD 1 0=j.getD 0 0):o7 kd a ts i s=o7 kd a ts j s:=by
 rcases h with rfl|rfl
 · show wrap32 (i.getD 0 0+i.getD 1 0)=wrap32 (j.getD 0 0+j.getD 1 0)
   rw[e1,e2,Int.add_comm]
 · show wrap32 (i.getD 0 0 * i.getD 1 0)=wrap32 (j.getD 0 0 * j.getD 1 0)
   rw[e1,e2,Int.mul_comm]
theorem B3O {n:A6} (h:A9r n=true):n.1=3∨n.1=9:=by simpa [A9r] using h
theorem NSim.back {ts:List (List Int)} {R:Nat→Nat→Prop} {x y:A6} (h:NSim ts R x y) {f:Int} (hf:f∈y.2.2.2):∃a b:Nat,(a:Int)∈x.2.2.2∧f=(b:Int)∧R a b:=by
 obtain⟨k,hk,rfl⟩:=List.mem_iff_getElem.1 hf
 have e:y.2.2.2[k]=y.2.2.2.getD k 0:=by simp[List.getD,hk]
 rcases h.ins with⟨e1,h1⟩|⟨_,l1,l2,a,b,c,d,q1,q2,q3,q4,r1,r2⟩
 · obtain⟨a,b,e2,e3,r⟩:=h1 k (by omega)
   exact⟨a,b,by rw[←e2];exact D6 (by omega),by rw[e,e3],r⟩
 · have h01:k=0∨k=1:=by omega
   rcases h01 with rfl|rfl
   · exact⟨b,c,by rw[←q2];exact D6 (by omega),by rw[e,q3],r2⟩
   · exact⟨a,d,by rw[←q1];exact D6 (by omega),by rw[e,q4],r1⟩
theorem B7d {p q:A3} {R:Nat→Nat→Prop} (hp:B9 p=true) (hS:PSim p q R) (hcov:∀c,c < q.2.2.1.length→∃i,R i c):B2b q.2.2.1:=by
 intro P h c hc
 obtain⟨i,hi⟩:=hcov c hc
 refine B1q (B8 hp).2 (fun i=>∀c,R i c→P c) ?_ i (hS.node i c hi).1 c hi
 intro i hi hf c hRc
 obtain⟨_,hc2,hN⟩:=hS.node i c hRc
 refine h c hc2 fun f hf'=>?_
 have hk:=(A0K hN.key).1
 have h6:¬(q.2.2.1.getD c n0).1=6:=fun h6=>by unfold J5 at hf';rw[decide_eq_true h6] at hf';cases hf'
 have hf2:f∈(q.2.2.1.getD c n0).2.2.2:=by unfold J5 at hf';rw[decide_eq_false h6] at hf';exact hf'
 obtain⟨a,b,ha,rfl,r⟩:=hN.back hf2
 obtain⟨j,e,hj,hP⟩:=hf (a:Int) (by unfold J5;rw[decide_eq_false (by omega)];exact ha)
 obtain rfl:a=j:=by omega
 exact⟨b,rfl,(hS.node a b r).2.1,hP b r⟩
theorem B6k {x:A6} {fr:List Int} {tb:Int} (h:M6 x tb=true) (hl:fr.length=x.2.2.2.length) (hr:∀f∈fr,0≤f∧f≤23):M6 (x.1,x.2.1,x.2.2.1,fr) tb=true:=by
 simp only[M6,Bool.and_eq_true] at h ⊢
 obtain⟨⟨⟨⟨⟨h1,h2⟩,h3⟩,h4⟩,h5⟩,h6⟩:=h
 exact⟨⟨⟨⟨⟨h1,h2⟩,h3⟩,List.all_eq_true.2 fun f hf=>J8 (hr f hf).1 (hr f hf).2⟩,by rw[hl];exact h5⟩,h6⟩
section
variable {p q:A3} {R:Nat→Nat→Prop} (hp:B9 p=true) (hq:B9 q=true) (hS:PSim p q R)
include hp hq hS in
theorem B4I {s s':List (List Int)} {fr:List Int} (hst:∀i c,R i c→s.getD i []=s'.getD c []):∀i c,R i c→(E8 p s fr).getD i 0=(E8 q s' fr).getD c 0:=by
 intro i c h
 refine B1q (B8 hp).2 (fun i=>∀c,R i c→(E8 p s fr).getD i 0=(E8 q s' fr).getD c 0) ?_ i (hS.node i c h).1 c h
 intro i hi hf c hc
 obtain⟨_,hc2,hN⟩:=hS.node i c hc
 have hk:=(A0K hN.key).1
 rw[B8a hp hi,B8a hq hc2];unfold A07;rw[←hS.tabs,←C20 hN.key,hst i c hc]
 by_cases h6:(p.2.2.1.getD i n0).1=6
 · rw[h6];rfl
 · rcases B8L (fr:=fr) hN (v:=E8 p s fr) (w:=E8 q s' fr) (fun a b ha hab=>by
    obtain⟨j,e,hj,hP⟩:=hf (a:Int) (by unfold J5;rw[decide_eq_false h6];exact ha)
    obtain rfl:a=j:=by omega
    exact hP b hab) with e|⟨hsw,e1,e2⟩
   · rw[e]
   · exact C0u (B3O hsw) e1 e2
theorem A9x {kd:Int} {i s:List Int} {o:Int} (h:kd=3∨kd=9):m0 kd i s o=[]:=by rcases h with rfl|rfl<;>rfl
include hS in
theorem C31 {s s':List (List Int)} {fr v w:List Int} (hst:∀i c,R i c→s.getD i []=s'.getD c []) (hv:∀i c,R i c→v.getD i 0=w.getD c 0):∀i c,R i c→(S6 p s fr v).getD i []=(S6 q s' fr w).getD c []:=by
 intro i c h
 obtain⟨hi,hc,hN⟩:=hS.node i c h
 have hk:=(A0K hN.key).1
 rw[A1G hi,A1G hc];unfold w7;rw[←hk,hst i c h,hv i c h];rcases B8L (fr:=fr) hN (v:=v) (w:=w) (fun a b _ hab=>hv a b hab) with e|⟨hsw,e1,e2⟩
 · rw[e]
 · rw[A9x (B3O hsw),A9x (B3O hsw)]
include hS in
theorem C06:∀i c,R i c→(W9 p).getD i []=(W9 q).getD c []:=by
 intro i c h
 obtain⟨hi,hc,hN⟩:=hS.node i c h
 have e1:(W9 p).getD i []=D4 (p.2.2.1.getD i n0):=by simp[W9,List.getD,hi]
 have e2:(W9 q).getD c []=D4 (q.2.2.1.getD c n0):=by simp[W9,List.getD,hc]
 rw[e1,e2,B7e hN.key]
include hp hq hS in
theorem C7t (ins:List (List Int)):∀m i c,R i c→(stN p ins m).getD i []=(stN q ins m).getD c []:=by
 intro m
 induction m with
 | zero=>exact C06 hS
 | succ m ih =>
   rw[A9C,A9C];exact C31 hS ih (B4I hp hq hS ih)
include hp hq hS in
theorem C5O (ins:List (List Int)) (m:Nat):∀i c,R i c→(A9D p ins m).getD i 0=(A9D q ins m).getD c 0:=B4I hp hq hS (C7t hp hq hS ins m)
include hS in
theorem C37 {v w:List Int} (hv:∀i c,R i c→v.getD i 0=w.getD c 0):J4 p v=J4 q w:=by
 obtain⟨hl,ho⟩:=hS.outs;refine C7a (by rw[U8,U8,hl]) fun k hk=>?_
 rw[U8] at hk;obtain⟨a,b,e1,e2,r⟩:=ho k (by omega)
 have f1:(J4 p v).getD k 0=v.getD (p.2.2.2.getD k 0).toNat 0:=by simp[J4,List.getD,show k < p.2.2.2.length by omega]
 have f2:(J4 q w).getD k 0=w.getD (q.2.2.2.getD k 0).toNat 0:=by simp[J4,List.getD,hk]
 rw[f1,f2,e1,e2,Int.toNat_natCast,Int.toNat_natCast];exact hv a b r
include hp hq hS in
theorem B7k {ins:List (List Int)} (hi:J9 p ins) (m:Nat):H9 p ins m=H9 q ins m:=by
 have hF:=(B8 hp).1
 have hG:=(B8 hq).1
 have hj:J9 q ins:=⟨by rw[←hS.inp];exact hi.1,hi.2⟩
 have hl:=hS.outs.1
 refine C9f (by rw[T1 hF hi,T1 hG hj,hl]) fun k hk=>?_
 rw[T1 hG hj] at hk;have l1:=B2d hF hi (k:=k) (by omega) m
 have l2:=B2d hG hj (k:=k) hk m
 refine C7a (by omega) fun i hi2=>?_
 rw[C48 hF hi (by omega) m (by omega),C48 hG hj hk m (by omega),C37 hS (C5O hp hq hS ins i)]
end
open Go.RowKit
section
variable {p:A3}
end
section
variable {p:A3}
end
open Go.RowKit
def B1A (k:Int):Prop:=k=1∨k=3∨k=4∨k=5∨k=6∨k=7∨k=8∨k=17
def A5m (p:A3):Prop:=∀nd∈p.2.2.1,B1A nd.1
theorem r4 (a b:Int):wrap32 (wrap32 a+b)=wrap32 (a+b):=by unfold wrap32;omega
theorem A9J (a b:Int):wrap32 (a+wrap32 b)=wrap32 (a+b):=by unfold wrap32;omega
theorem B2h (a b:Int):wrap32 (wrap32 a - b)=wrap32 (a - b):=by unfold wrap32;omega
theorem A9o (a b:Int):wrap32 (a - wrap32 b)=wrap32 (a - b):=by unfold wrap32;omega
theorem C32 (a b:Int):wrap32 (wrap32 a * b)=wrap32 (a * b):=by apply A2U;rw[Int.mul_emod,A2Z,←Int.mul_emod]
theorem i7 (a b:Int):wrap32 (a * wrap32 b)=wrap32 (a * b):=by apply A2U;rw[Int.mul_emod,A2Z,←Int.mul_emod]
theorem A4e (a b c:Int):wrap32 (a * wrap32 b+c)=wrap32 (a * b+c):=by rw[←r4 (a * wrap32 b),i7,r4]
theorem A4Z (a b c:Int):wrap32 (c+a * wrap32 b)=wrap32 (c+a * b):=by rw[←A9J c (a * wrap32 b),i7,A9J]
theorem j9:wrap32 0=0:=by unfold wrap32;omega
def CB (α β:Int) (a b c:List Int):Prop:=a.length=c.length∧b.length=c.length∧∀j,c.getD j 0=wrap32 (α * a.getD j 0+β * b.getD j 0)
def SB (α β:Int) (s1 s2 s3:List (List Int)):Prop:=s1.length=s3.length∧s2.length=s3.length∧∀i,CB α β (s1.getD i []) (s2.getD i []) (s3.getD i [])
section
variable {α β:Int}
theorem D7 {α:Type} {l:List α} {i:Nat} {d:α} (h:l.length≤i):l.getD i d=d:=by rw[List.getD_eq_getElem?_getD,List.getElem?_eq_none h];rfl
theorem CB.nil:CB α β [] [] []:=⟨rfl,rfl,fun j=>by simp[j9]⟩
theorem CB.one {x y z:Int} (h:z=wrap32 (α * x+β * y)):CB α β [x] [y] [z]:=⟨rfl,rfl,fun j=>by
 cases j with
 | zero=>exact h
 | succ j=>simp[j9]⟩
theorem CB.set {a b c:List Int} (h:CB α β a b c) (i:Nat) {x y z:Int} (hz:z=wrap32 (α * x+β * y)):CB α β (a.set i x) (b.set i y) (c.set i z):=by
 obtain⟨h1,h2,h3⟩:=h;refine⟨by simpa using h1,by simpa using h2,fun j=>?_⟩
 by_cases hi:i < c.length
 · rw[N1 hi,N1 (by omega),N1 (by omega)]
   split
   · exact hz
   · exact h3 j
 · rw[List.set_eq_of_length_le (by omega),List.set_eq_of_length_le (by omega),List.set_eq_of_length_le (by omega)];exact h3 j
theorem A7c {l:List Int} {x:Int} {j:Nat}:(l++[x]).getD j 0=if j < l.length then l.getD j 0 else if j=l.length then x else 0:=by
 rw[List.getD_eq_getElem?_getD]
 by_cases h:j < l.length
 · rw[List.getElem?_append_left h,if_pos h,List.getD_eq_getElem?_getD]
 · rw[List.getElem?_append_right (by omega),if_neg h]
   by_cases h2:j=l.length
   · subst h2;simp
   · rw[if_neg h2,List.getElem?_eq_none (by simp;omega)];rfl
theorem CB.snoc {a b c:List Int} (h:CB α β a b c) {x y z:Int} (hz:z=wrap32 (α * x+β * y)):CB α β (a++[x]) (b++[y]) (c++[z]):=by
 obtain⟨h1,h2,h3⟩:=h;refine⟨by simp[h1],by simp[h2],fun j=>?_⟩
 rw[A7c,A7c,A7c,h1,h2]
 split
 · exact h3 j
 · split
   · exact hz
   · simp[j9]
theorem CB.drop {a b c:List Int} (h:CB α β a b c) (n:Nat):CB α β (a.drop n) (b.drop n) (c.drop n):=by
 obtain⟨h1,h2,h3⟩:=h;refine⟨by simp[h1],by simp[h2],fun j=>?_⟩
 have e:∀l:List Int,(l.drop n).getD j 0=l.getD (n+j) 0:=fun l=>by rw[List.getD_eq_getElem?_getD,List.getElem?_drop,List.getD_eq_getElem?_getD]
 rw[e,e,e];exact h3 _
theorem CB.map {a b c:List Int} (h:CB α β a b c) (l:List Int):CB α β (l.map fun i=>a.getD i.toNat 0) (l.map fun i=>b.getD i.toNat 0) (l.map fun i=>c.getD i.toNat 0):=by
 refine⟨by simp,by simp,fun j=>?_⟩
 by_cases hj:j < l.length
 · have e:∀v:List Int,(l.map fun i=>v.getD i.toNat 0).getD j 0=v.getD (l.getD j 0).toNat 0:=fun v=>by simp[List.getD,hj]
   rw[e,e,e];exact h.2.2 _
 · rw[D7 (by simp;omega),D7 (by simp;omega),D7 (by simp;omega)];simp[j9]
theorem CB.rep (n:Nat):CB α β (List.replicate n 0) (List.replicate n 0) (List.replicate n 0):=by
 refine⟨rfl,rfl,fun j=>?_⟩
 have e:(List.replicate n (0:Int)).getD j 0=0:=by
  by_cases hj:j < n
  · simp[List.getD,hj]
  · rw[D7 (by simp;omega)]
 rw[e];simp[j9]
theorem C66 {k a:Int} {tabs:List (List Int)} {i1 i2 i3 s1 s2 s3:List Int} (hk:B1A k) (hi:CB α β i1 i2 i3) (hs:CB α β s1 s2 s3) :
 o7 k a tabs i3 s3=wrap32 (α * o7 k a tabs i1 s1+β * o7 k a tabs i2 s2):=by
 have h0:=hi.2.2 0
 have h1:=hi.2.2 1
 have g0:=hs.2.2 0
 rcases hk with rfl|rfl|rfl|rfl|rfl|rfl|rfl|rfl
 · exact h0
 · show wrap32 (i3.getD 0 0+i3.getD 1 0)=wrap32 (α * wrap32 (i1.getD 0 0+i1.getD 1 0)+β * wrap32 (i2.getD 0 0+i2.getD 1 0))
   rw[h0,h1];simp only[r4,A9J,A4e,A4Z];congr 1;grind
 · show wrap32 (i3.getD 0 0 - i3.getD 1 0)=wrap32 (α * wrap32 (i1.getD 0 0 - i1.getD 1 0)+β * wrap32 (i2.getD 0 0 - i2.getD 1 0))
   rw[h0,h1];simp only[B2h,A9o,A4e,A4Z];congr 1;grind
 · show wrap32 (a * i3.getD 0 0)=wrap32 (α * wrap32 (a * i1.getD 0 0)+β * wrap32 (a * i2.getD 0 0))
   rw[h0];simp only[i7,A4e,A4Z];congr 1;grind
 · exact g0
 · show wrap32 (s3.getD 0 0+i3.getD 0 0)=wrap32 (α * wrap32 (s1.getD 0 0+i1.getD 0 0)+β * wrap32 (s2.getD 0 0+i2.getD 0 0))
   rw[h0,g0];simp only[r4,A9J,A4e,A4Z];congr 1;grind
 · show wrap32 (i3.getD 0 0 - s3.getD 0 0)=wrap32 (α * wrap32 (i1.getD 0 0 - s1.getD 0 0)+β * wrap32 (i2.getD 0 0 - s2.getD 0 0))
   rw[h0,g0];simp only[B2h,A9o,A4e,A4Z];congr 1;grind
 · show wrap32 (i3.getD 0 0+a * s3.getD 0 0)=wrap32 (α * wrap32 (i1.getD 0 0+a * s1.getD 0 0)+β * wrap32 (i2.getD 0 0+a * s2.getD 0 0))
   rw[h0,g0];simp only[r4,A9J,A4e,A4Z];congr 1;grind
theorem C3o {k:Int} {i1 i2 i3 s1 s2 s3:List Int} {o1 o2 o3:Int} (hk:B1A k) (hi:CB α β i1 i2 i3) (hs:CB α β s1 s2 s3) (ho:o3=wrap32 (α * o1+β * o2)) :
 CB α β (m0 k i1 s1 o1) (m0 k i2 s2 o2) (m0 k i3 s3 o3):=by
 have h0:=hi.2.2 0
 rcases hk with rfl|rfl|rfl|rfl|rfl|rfl|rfl|rfl
 · exact CB.nil
 · exact CB.nil
 · exact CB.nil
 · exact CB.nil
 · exact(hs.drop 1).snoc h0
 · exact CB.one ho
 · exact CB.one h0
 · exact(hs.drop 1).snoc ho
theorem B8d {n:A6} {f1 f2 f3 v1 v2 v3:List Int} (hf:CB α β f1 f2 f3) (hv:CB α β v1 v2 v3):CB α β (Q8 n f1 v1) (Q8 n f2 v2) (Q8 n f3 v3):=by
 unfold Q8
 split
 · exact CB.one (hf.2.2 _)
 · exact hv.map _
section
variable {p:A3} {s1 s2 s3:List (List Int)} {f1 f2 f3:List Int}
theorem C2L (hp:A5m p) {i:Nat} (hi:i < p.2.2.1.length):B1A (p.2.2.1.getD i n0).1:=hp _ (D6 hi)
theorem C4Q (hp:A5m p) (hs:SB α β s1 s2 s3) (hf:CB α β f1 f2 f3) {v1 v2 v3:List Int} (hv:CB α β v1 v2 v3) {i:Nat} (hi:i < p.2.2.1.length):A07 p s3 f3 v3 i=wrap32 (α * A07 p s1 f1 v1 i+β * A07 p s2 f2 v2 i) :=
 C66 (C2L hp hi) (B8d hf hv) (hs.2.2 i)
theorem C1u (hp:A5m p) (hs:SB α β s1 s2 s3) (hf:CB α β f1 f2 f3):CB α β (E8 p s1 f1) (E8 p s2 f2) (E8 p s3 f3):=by
 have key:∀k,k≤(C6 p.2.2.1).length→CB α β (P6 p s1 f1 (List.replicate p.2.2.1.length 0) ((C6 p.2.2.1).take k)) (P6 p s2 f2 (List.replicate p.2.2.1.length 0) ((C6 p.2.2.1).take k)) (P6 p s3 f3 (List.replicate p.2.2.1.length 0) ((C6 p.2.2.1).take k)):=by
  intro k
  induction k with
  | zero=>intro _;exact CB.rep _
  | succ k ih =>
    intro hk;have ih:=ih (by omega)
    rw[X4 (by omega),X4 (by omega),X4 (by omega)]
    obtain⟨i,h1,h2,_⟩:=Y5 p.2.2.1 k (by omega)
    rw[h1];simp only[R4,Int.toNat_natCast];exact ih.set i (C4Q hp hs hf ih h2)
 have:=key _ (Nat.le_refl _)
 rwa [List.take_length] at this
theorem C2O (hp:A5m p) (hs:SB α β s1 s2 s3) (hf:CB α β f1 f2 f3) {v1 v2 v3:List Int} (hv:CB α β v1 v2 v3):SB α β (S6 p s1 f1 v1) (S6 p s2 f2 v2) (S6 p s3 f3 v3):=by
 refine⟨by rw[U7,U7],by rw[U7,U7],fun i=>?_⟩
 by_cases hi:i < p.2.2.1.length
 · rw[A1G hi,A1G hi,A1G hi];exact C3o (C2L hp hi) (B8d hf hv) (hs.2.2 i) (hv.2.2 i)
 · rw[D7 (by rw[U7];omega),D7 (by rw[U7];omega),D7 (by rw[U7];omega)];exact CB.nil
theorem C2F {v1 v2 v3:List Int} (hv:CB α β v1 v2 v3):CB α β (J4 p v1) (J4 p v2) (J4 p v3):=hv.map _
end
end
theorem CB.zero {a b c:List Int} (h:CB 0 0 a b c) (j:Nat):c.getD j 0=0:=by have:=h.2.2 j;rw[this];simp[j9]
theorem C0K {c:List Int} (h:∀j,c.getD j 0=0):c=List.replicate c.length 0:=by
 refine List.ext_getElem (by simp) fun i h1 h2=>?_
 have:=h i
 simp only[List.getD_eq_getElem?_getD,List.getElem?_eq_getElem h1,Option.getD_some] at this
 rw[this];simp
theorem B5r {n:A6} (hk:B1A n.1) (j:Nat):(D4 n).getD j 0=0:=by
 have hr:∀m:Nat,(List.replicate m (0:Int)).getD j 0=0:=fun m=>by
  by_cases hj:j < m
  · simp[List.getD,hj]
  · rw[D7 (by simp;omega)]
 unfold D4;rcases hk with h|h|h|h|h|h|h|h<;>rw[h]<;>simp[-List.getD_eq_getElem?_getD]<;>first|exact hr _|exact hr 1|simp
theorem P0 {a b:List Int} (hl:a.length=b.length) (h:∀j,a.getD j 0=b.getD j 0):a=b:=by
 refine List.ext_getElem hl fun i h1 h2=>?_
 have:=h i
 simpa only [List.getD_eq_getElem?_getD,List.getElem?_eq_getElem h1,List.getElem?_eq_getElem h2,Option.getD_some] using this
theorem C0d {a b:List (List Int)} (hl:a.length=b.length) (h:∀j,j < b.length→a.getD j []=b.getD j []):a=b:=by
 refine List.ext_getElem hl fun i h1 h2=>?_
 have:=h i h2
 simpa only [List.getD_eq_getElem?_getD,List.getElem?_eq_getElem h1,List.getElem?_eq_getElem h2,Option.getD_some] using this
end Go.Proofs.YtgaogcnfijbahaaGreat
