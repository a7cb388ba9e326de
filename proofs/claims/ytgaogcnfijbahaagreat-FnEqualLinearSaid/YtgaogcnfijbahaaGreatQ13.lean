/-
  Texts of this claim, joined (part 13). No condition beyond those of the theorems.
-/
import Derived.Test.YtgaogcnfijbahaaGreatQ11
import Derived.Test.YtgaogcnfijbahaaGreatQ04
namespace Go.Proofs.YtgaogcnfijbahaaGreat
open Go.RowKit
set_option linter.unusedSimpArgs false
set_option linter.unusedVariables false
theorem A71 {inp out most:Int} {li:Bool} (ho:0≤out∧out≤4) (hm:1≤most∧most≤20):Cost 1300 (A3j inp out most li):=by
 refine((A44 li).bnd (b:=1150) fun ts=>?_).le (by omega)
 refine(A3F (b:=1148) fun x h0 h1 _=>?_).le (by omega)
 have h1:=h1 hm.1
 intro n s hs
 rcases hit:R7 (M3 li inp ts.length) (1+x).toNat [] s with⟨ns,s1⟩
 have hs1:=(Cost.it (A4y li inp ts.length) (1+x).toNat []).at hs (by omega) hit
 obtain⟨hl,_⟩:=A9z _ ns s1 hit
 show srcOk n (bnd (R7 (M3 li inp ts.length) (1+x).toNat []) _ s).2
 rw[L7 hit];rcases hid:itI (R5 ns.length) ns.length ns s1 with⟨ms,s2⟩
 have hs2:=(Cost.itI (A7w ns.length) ns.length ns).at hs1 (by omega) hid
 rw[L7 hid];rcases hio:R7 (I8 (A79 ns.length)) out.toNat [] s2 with⟨os,s3⟩
 have hs3:=(Cost.it (Q5 (B1o ns.length)) out.toNat []).at hs2 (by omega) hio
 rw[L7 hio];exact hs3.le (by omega)
theorem C3T {n:Nat} {inp out most:Int} {li:Bool} {s s':W5} {p:A3} (hs:srcOk n s) (hn:104≤n) (hm:1≤most∧most≤20) (e:A3j inp out most li s=(p,s')) :
 p.1=inp∧p.2.1.length≤2∧1≤p.2.2.1.length∧(p.2.2.1.length:Int)≤most∧p.2.2.2.length=out.toNat∧∀nd∈p.2.2.1,A1K nd:=by
 unfold A3j at e;rcases ht:A5G li s with⟨ts,s0⟩
 rw[L7 ht] at e;have hl1:=A9T hs (by omega) ht
 have hs0:=(A44 li).at hs (by omega) ht
 rcases hp:E5 most s0 with⟨x,s1⟩
 rw[L7 hp] at e;obtain⟨_,hx0,hx1,_⟩:=I2 hs0 (by omega) hp
 have hx1:=hx1 hm.1
 rcases hit:R7 (M3 li inp ts.length) (1+x).toNat [] s1 with⟨ns,s2⟩
 rw[L7 hit] at e;obtain⟨hl,ha⟩:=A9z _ ns s2 hit
 rcases hid:itI (R5 ns.length) ns.length ns s2 with⟨ms,s3⟩
 rw[L7 hid] at e;obtain⟨hl2,ha2⟩:=B8m ha _ ms s3 hid
 rcases hio:R7 (I8 (A79 ns.length)) out.toNat [] s3 with⟨os,s4⟩
 rw[L7 hio] at e;have hlo:os.length=out.toNat:=by have:=A08 (m:=A79 ns.length) (k:=out.toNat) (s:=s3) (xs:=[]);rw[hio] at this;simpa using this
 simp only[Prod.mk.injEq] at e
 obtain⟨e,_⟩:=e;subst e;exact⟨rfl,hl1,by simp only;omega,by simp only;omega,hlo,ha2⟩
def A4x (p:A3) (k y:Int):DM A3:=fun s=>match decide (y=0) with
 | true=>bnd (J0 [-1,0,5,4]) (fun v s=>((v,p.2.1,p.2.2.1,p.2.2.2),s)) s
 | false => match decide (y = 1) with
   | true=>bnd (J0 [(p.2.2.1.length:Int),-1,0]) (fun v s=>((p.1,p.2.1,p.2.2.1,p.2.2.2++[v]),s)) s
   | false => match decide (y = 2) with
     | true=>bnd (A5i 1) (fun nd s=>((p.1,p.2.1,p.2.2.1.set k.toNat nd,p.2.2.2),s)) s
     | false => match decide (y = 3) with
       | true=>((p.1,p.2.1,p.2.2.1++[((5,2,0,[(p.2.2.1.length:Int)]):A6)],p.2.2.2),s)
       | false => match decide (y = 4) with
         | true=>((p.1,p.2.1++[[1,2,3]],p.2.2.1,p.2.2.2),s)
         | false => match decide (y = 5) with
           | true=>bnd (A1H 2) (fun o s=>((p.1,p.2.1,p.2.2.1++List.replicate (24 - p.2.2.1.length) ((2,1,0,[]):A6)++(match o with|true=>[((14,5,0,[]):A6)]|false=>[]),p.2.2.2),s)) s
           | false=>(p,s)
theorem B6I (p:A3) (k y:Int):Cost 26 (A4x p k y) :=
 Cost.ite (((N4 _).bnd (b:=0) fun _=>Cost.pure _).le (by omega)) (Cost.ite (((N4 _).bnd (b:=0) fun _=>Cost.pure _).le (by omega)) (Cost.ite ((B1d 1).bnd (b:=0) fun _=>Cost.pure _)
  (Cost.ite ((Cost.pure _).le (by omega)) (Cost.ite ((Cost.pure _).le (by omega)) (Cost.ite (((A0b 2).bnd (b:=0) fun _=>Cost.pure _).le (by omega)) ((Cost.pure p).le (by omega)))))))
def A34:DM A3:=bnd (J0 [1,1,2,0]) fun inp s=>bnd (E5 2) (fun x s=>bnd (A1H 3) (fun o s=>bnd (A3j inp (1+x) 9 (o && decide (0 < inp))) (fun p s=>bnd (E5 p.2.2.1.length) (fun k s=>bnd (E5 24) (fun y s=>A4x p k y s) s) s) s) s) s
theorem C0e:Cost 1400 A34:=by
 refine(B1M (b:=1390) (by simp) fun inp _=>?_).le (by omega)
 refine(A3F (b:=1380) fun x h0 h1 _=>?_).le (by omega)
 have h1:=h1 (by omega)
 refine((A0b 3).bnd (b:=1370) fun o=>?_).le (by omega)
 refine((A71 (by omega) (by omega)).bnd (b:=40) fun p=>?_).le (by omega)
 refine((H0 _).bnd (b:=30) fun k=>?_).le (by omega)
 exact((H0 24).bnd (b:=26) fun y=>B6I p k y).le (by omega)
structure DivOk (E:Nat→Nat→Bool) (i:Nat) (d:List Int × List Nat):Prop where
 len:d.1.length=i
 lt:∀c,c < d.2.length→d.2.getD c 0 < i
 at_:∀k,k < i→∃c:Nat,d.1.getD k 0=(c:Int)∧c < d.2.length∧E (d.2.getD c 0) k=true
 ne:∀c c',c < c'→c' < d.2.length→E (d.2.getD c 0) (d.2.getD c' 0)=false
section
variable {E:Nat→Nat→Bool} {n:Nat} (rfl':∀k,E k k=true) (sym:∀k i,E k i=true→E i k=true) (tr:∀k i j,E k i=true→E i j=true→E k j=true)
include sym tr in
theorem DivOk.uniq {i:Nat} {d:List Int × List Nat} (h:DivOk E i d) {c c':Nat} (hc:c < d.2.length) (hc':c' < d.2.length) {k:Nat} (h1:E (d.2.getD c 0) k=true) (h2:E (d.2.getD c' 0) k=true):c=c':=by
 have h3:=tr _ _ _ h1 (sym _ _ h2)
 rcases Nat.lt_trichotomy c c' with e|e|e
 · rw[h.ne c c' e hc'] at h3;cases h3
 · exact e
 · have h4:=sym _ _ h3
   rw[h.ne c' c e hc] at h4;cases h4
include sym tr in
theorem DivOk.rel {i:Nat} {d:List Int × List Nat} (h:DivOk E i d) {k j:Nat} (hk:k < i) (hj:j < i):d.1.getD k 0=d.1.getD j 0↔E k j=true:=by
 obtain⟨c,c1,c2,c3⟩:=h.at_ k hk
 obtain⟨c',c1',c2',c3'⟩:=h.at_ j hj
 rw[c1,c1']
 constructor
 · intro e;obtain rfl:c=c':=by omega
   exact tr _ _ _ (sym _ _ c3) c3'
 · intro e;rw[h.uniq sym tr c2 c2' (tr _ _ _ c3 e) c3']
end
section
variable {κ:Type} [DecidableEq κ] {f:Nat→κ}
end
open Go.RowKit
def A0e (ts:List (List Int)) (n:A6):Int × Int × Int × List Int:=match decide (n.1=13) with
 | true=>(n.1,n.2.2.1,0,ts.getD n.2.1.toNat [])
 | false=>(n.1,n.2.2.1,n.2.1,[])
theorem B8n {ts:List (List Int)} {n:A6} (h:n.1=13):A0e ts n=(n.1,n.2.2.1,0,ts.getD n.2.1.toNat []):=by unfold A0e;rw[decide_eq_true h]
theorem B9T {ts:List (List Int)} {n:A6} (h:¬n.1=13):A0e ts n=(n.1,n.2.2.1,n.2.1,[]):=by unfold A0e;rw[decide_eq_false h]
theorem A8W {ts:List (List Int)} {n:A6}:(A0e ts n).1=n.1∧(A0e ts n).2.1=n.2.2.1:=by unfold A0e;split<;>exact⟨rfl,rfl⟩
def A9r (n:A6):Bool:=decide (n.1=3) || decide (n.1=9)
def srt:List Int→List Int
 | [a,b]=>match decide (b < a) with|true=>[b,a]|false=>[a,b]
 | l=>l
def A5p (cl fr:List Int):List Int:=fr.map fun q=>cl.getD q.toNat 0
section
variable {ts:List (List Int)} {ns:List A6}
end
open Go.RowKit
def C8e (ts:List (List Int)) (n:A6):Prop:=n.1=13→0≤n.2.1∧n.2.1 < ts.length
def C8A (m:Nat) (n:A6):Prop:=n.2.2.2.length≤3∧N9 m n.2.2.2=true∧(A9r n=true→n.2.2.2.length=2)
def uOk (ts:List (List Int)) (ns:List A6):Prop:=ns.length≤48∧∀n∈ns,C8e ts n∧C8A ns.length n
theorem C2q {p:A3} {n:A6} (q:M6 n p.2.1.length=true):n.2.2.2.length≤3∧(A9r n=true→n.2.2.2.length=2)∧(n.1=13→0≤n.2.1∧n.2.1 < p.2.1.length):=by
 obtain⟨kd,a,b,fr⟩:=n;obtain⟨h1,h2,_⟩:=b5 q
 obtain⟨_,_,_,_,_,h13,_,h3,h4,h5,h6⟩:=t6 q
 simp only at h1 h2 h13 ⊢
 refine⟨?_,fun hs=>?_,fun e=>⟨(h13 e).1,(h13 e).2.2⟩⟩
 · have e3:(kd=3∨kd=4∨kd=9∨kd=16)∨(kd=5∨kd=6∨kd=7∨kd=8∨kd=10∨kd=11∨kd=12∨kd=13∨kd=17)∨kd=15∨(kd=1∨kd=2∨kd=14):=by omega
   rcases e3 with e|e|e|e
   · have:=h3 e;omega
   · have:=h4 e;omega
   · have:=h5 e;omega
   · have:=h6 e;omega
 · simp only[A9r,Bool.or_eq_true,decide_eq_true_eq] at hs
   exact h3 (by omega)
theorem B1D {p:A3} (h:C0 p=true):uOk p.2.1 p.2.2.1:=by
 refine⟨by have:=(A8 h).1;omega,fun n hn=>?_⟩
 obtain⟨q1,q2,_⟩:=G6 (List.all_eq_true.1 (A8 h).2.2.2.2.2.2 n hn)
 obtain⟨a,b,c⟩:=C2q (p:=p) q1
 exact⟨c,a,q2,b⟩
section
variable {E:Nat→Nat→Bool} {n i:Nat}
end
section
variable {p:A3} {cl:List Int}
end
open Go.RowKit
def C47 (cl:List Int) (n:A6):A6:=(n.1,n.2.1,n.2.2.1,A5p cl n.2.2.2)
open Go.RowKit
def byL (n:Nat) (kp:List Int):Nat→List Int
 | 0=>List.replicate n 0
 | k+1=>(byL n kp k).set (kp.getD k 0).toNat (k:Int)
theorem A6I (n:Nat) (kp:List Int):∀k,(byL n kp k).length=n:=by
 intro k
 induction k with
 | zero=>simp[byL]
 | succ k ih=>simp[byL,ih]
theorem C3v {n:Nat} {kp:List Int} (hr:∀j,j < kp.length→0≤kp.getD j 0∧kp.getD j 0 < n) (hd:∀i j,i < kp.length→j < kp.length→kp.getD i 0=kp.getD j 0→i=j):∀k,k≤kp.length→∀j,j < k→(byL n kp k).getD (kp.getD j 0).toNat 0=(j:Int):=by
 intro k
 induction k with
 | zero=>intro _ j hj;omega
 | succ k ih =>
   intro hk j hj
   have h1:=hr k (by omega)
   have h2:=hr j (by omega)
   have hl:=A6I n kp k
   simp only[byL];rw[N1 (by omega)]
   by_cases e:(kp.getD k 0).toNat=(kp.getD j 0).toNat
   · rw[if_pos e];have:k=j:=hd k j (by omega) (by omega) (by omega)
     rw[this]
   · rw[if_neg e];refine ih (by omega) j ?_
     rcases Nat.lt_or_ge j k with h|h
     · exact h
     · have:j=k:=by omega
       subst this;exact absurd rfl e
def A3Y (ns:List A6) (b:List Int) (f:Int):A6:=C47 b (ns.getD f.toNat n0)
def A4v (p:A3) (kp:List Int):A3:=(p.1,p.2.1,kp.map (A3Y p.2.2.1 (byL p.2.2.1.length kp kp.length)),A5p (byL p.2.2.1.length kp kp.length) p.2.2.2)
structure KeepOk (p:A3) (kp:List Int):Prop where
 fits:B1x p
 n24:p.2.2.1.length≤24
 k24:kp.length≤24
 rng:N9 p.2.2.1.length kp=true
 frs:∀x∈p.2.2.1,x.2.2.2.length≤23∧N9 p.2.2.1.length x.2.2.2=true
 o4:p.2.2.2.length≤4
 outs:N9 p.2.2.1.length p.2.2.2=true
theorem B8W {n:Nat} {l:List Int} (h:∀j,j < l.length→0≤l.getD j 0∧l.getD j 0 < n):N9 n l=true:=by
 refine List.all_eq_true.2 fun q hq=>?_
 obtain⟨i,hi,rfl⟩:=List.mem_iff_getElem.1 hq
 have:=h i hi
 rw[List.getD_eq_getElem?_getD,List.getElem?_eq_getElem hi] at this
 simp only[Option.getD_some] at this
 exact C1.2 ⟨this.1,by omega⟩
theorem C1U {α β:Type} {f:α→β} {xs:List α} {k:Nat} (d:α) (h:k < xs.length):(xs.take k).map f++[f (xs.getD k d)]=(xs.take (k+1)).map f:=by
 rw[E7 (d:=d) h,List.map_append];rfl
end Go.Proofs.YtgaogcnfijbahaaGreat
