/-
  Texts of this claim, joined (part 24). No condition beyond those of the theorems.
-/
import Derived.Test.YtflobmmbhaofbaaGreatQ23
namespace Go.Proofs.YtflobmmbhaofbaaGreat
open Go.RowKit
set_option linter.unusedSimpArgs false
set_option linter.unusedVariables false
/-! What the reference computes. -/
def E8 (p:A6) (i:Int):A4:=p.2.2.1.getD i.toNat n0
def P4 (n:A4) (k:Nat):Int:=n.2.2.2.getD k 0
def isC (p:A6) (i:Int):Bool:=decide ((E8 p i).1=2)
def B7u (p:A6) (i:Int):Bool:=isC p i && decide ((E8 p i).2.1=0)
def A9d:List Int:=[3,4,5,9,10,11,13,15]
def A55 (p:A6) (i:Int):Bool:=A9d.contains (E8 p i).1 && (E8 p i).2.2.2.all (isC p)
def A4x (p:A6) (i:Int):Bool:=match decide ((E8 p i).1=5) || decide ((E8 p i).1=11) with
 | true=>decide ((E8 p i).2.1=0)
 | false => match decide ((E8 p i).1 = 4) with
   | true=>decide (P4 (E8 p i) 0=P4 (E8 p i) 1)
   | false => match decide ((E8 p i).1 = 6) || decide ((E8 p i).1 = 7) || decide ((E8 p i).1 = 8) || decide ((E8 p i).1 = 17) with
     | true=>B7u p (P4 (E8 p i) 0)
     | false=>false
def B5o (p:A6) (n:A4):Int:=match isC p (P4 n 0) with
 | true => match decide (0 ≤ (E8 p (P4 n 0)).2.1) with
   | true=>P4 n 1
   | false=>P4 n 2
 | false => match decide (P4 n 1 = P4 n 2) with
   | true=>P4 n 1
   | false=>-1
def Y3 (b:Bool) (x y:Int):Int:=match b with
 | true=>x
 | false=>y
def r4 (p:A6) (i:Int):Int :=
 Y3 (decide ((E8 p i).1=5)) (Y3 (decide ((E8 p i).2.1=1)) (P4 (E8 p i) 0) (-1))
 (Y3 (decide ((E8 p i).1=10)) (Y3 (decide ((E8 p i).2.1=0)) (P4 (E8 p i) 0) (-1))
 (Y3 (decide ((E8 p i).1=3)) (Y3 (B7u p (P4 (E8 p i) 0)) (P4 (E8 p i) 1) (Y3 (B7u p (P4 (E8 p i) 1)) (P4 (E8 p i) 0) (-1)))
 (Y3 (decide ((E8 p i).1=4)) (Y3 (B7u p (P4 (E8 p i) 1)) (P4 (E8 p i) 0) (-1))
 (Y3 (decide ((E8 p i).1=16)) (Y3 (isC p (P4 (E8 p i) 1) && decide (0 < (E8 p (P4 (E8 p i) 1)).2.1)) (P4 (E8 p i) 0) (-1))
 (Y3 (decide ((E8 p i).1=15)) (B5o p (E8 p i)) (-1))))))
def A8c (a b:A4):Bool:=decide (a=b)
def A9n (p:A6) (i k:Int):Bool:=decide (k < i) && A8c (E8 p k) (E8 p i)
def A2C (p:A6) (need:List Int) (i:Int):Int:=match need.find? (A9n p i) with
 | some k=>k
 | none=>-1
def A9k (p:A6) (i:Int):Bool:=decide ((E8 p i).1=9) && (isC p (P4 (E8 p i) 0) || isC p (P4 (E8 p i) 1))
def B2Z (p:A6) (i:Int):Int:=match decide ((E8 p i).2.2.2.length=1) with
 | true=>P4 (E8 p i) 0
 | false=>-1
def A9V (p:A6) (i:Int):Bool:=decide ((E8 p i).1=5) && decide ((E8 p (B2Z p i)).1=5)
def A9A (p:A6) (i:Int):Bool:=decide ((E8 p i).1=6) && (!decide (B2Z p i=i) && (decide ((E8 p (B2Z p i)).1=6) && decide ((E8 p i).2.1+(E8 p (B2Z p i)).2.1≤16)))
def s6 (p:A6) (need:List Int) (i:Int):Int:=match need.contains i with
 | false=>0
 | true => match A55 p i with
   | true=>1
   | false => match A4x p i with
     | true=>2
     | false => match decide (0 ≤ r4 p i) with
       | true=>3
       | false => match A9k p i with
         | true=>4
         | false => match A9V p i with
           | true=>5
           | false => match A9A p i with
             | true=>6
             | false => match decide (0 ≤ A2C p need i) with
               | true=>7
               | false=>0
def A4y (a b x:Int):Int:=Y3 (decide (x=a)) b x
def A5A (a b:Int) (l:List Int):List Int:=l.map (A4y a b)
def A2M (a b:Int) (n:A4):A4:=(n.1,n.2.1,n.2.2.1,A5A a b n.2.2.2)
def A0j (p:A6) (a b:Int):A6:=(p.1,p.2.1,p.2.2.1.map (A2M a b),A5A a b p.2.2.2)
def U3 (p:A6) (i:Int) (n:A4):A6:=(p.1,p.2.1,p.2.2.1.set i.toNat n,p.2.2.2)
def B9z (p:A6) (i:Int):Int:=A2f (E8 p i).1 (E8 p i).2.1 p.2.1 ((E8 p i).2.2.2.map fun f=>(E8 p f).2.1) []
def B3T (p:A6) (i:Int):A4:=match isC p (P4 (E8 p i) 0) with
 | true=>(5,(E8 p (P4 (E8 p i) 0)).2.1,0,[P4 (E8 p i) 1])
 | false=>(5,(E8 p (P4 (E8 p i) 1)).2.1,0,[P4 (E8 p i) 0])
def U7 (p:A6) (r i:Int):A6:=match decide (r=1) with
 | true=>U3 p i (2,B9z p i,0,[])
 | false => match decide (r = 2) with
   | true=>U3 p i (2,0,0,[])
   | false => match decide (r = 3) with
     | true=>A0j p i (r4 p i)
     | false => match decide (r = 4) with
       | true=>U3 p i (B3T p i)
       | false => match decide (r = 5) with
         | true=>U3 p i (5,wrap32 ((E8 p i).2.1 * (E8 p (P4 (E8 p i) 0)).2.1),0,(E8 p (P4 (E8 p i) 0)).2.2.2)
         | false => match decide (r = 6) with
           | true=>U3 p i (6,(E8 p i).2.1+(E8 p (P4 (E8 p i) 0)).2.1,0,(E8 p (P4 (E8 p i) 0)).2.2.2)
           | false=>A0j p i (A2C p (F0 p) i)
def B45 (p:A6) (i:Int):Option (Int × Int):=match decide (s6 p (F0 p) i=0) with
 | true=>none
 | false=>some (s6 p (F0 p) i,i)
def A0h (p:A6):Option (Int × Int):=(F0 p).findSome? (B45 p)
def A75 (p:A6):A6:=match A0h p with
 | none=>p
 | some (r,i)=>U7 p r i
def Z3:Nat→A6→A6
 | 0,p=>p
 | k+1,p=>A75 (Z3 k p)
theorem A6O (k:Nat):∀p,Z3 k (A75 p)=Z3 (k+1) p:=by
 induction k with
 | zero=>intro p;rfl
 | succ k ih=>intro p;show A75 (Z3 k (A75 p))=_;rw[ih];rfl
/-! Which rule it is. -/
inductive RulI (p:A6) (i:Int):Int→Prop
 | con (h:A55 p i=true):RulI p i 1
 | nul (h:A4x p i=true):RulI p i 2
 | sam (h:0≤r4 p i):RulI p i 3
 | fac (h:A9k p i=true):RulI p i 4
 | gai (h:A9V p i=true):RulI p i 5
 | del (h:A9A p i=true):RulI p i 6
 | twn (h:0≤A2C p (F0 p) i):RulI p i 7
theorem A4d {p:A6} {r i:Int} (h:A0h p=some (r,i)):i∈F0 p∧RulI p i r:=by
 obtain⟨l,j,l',e,hr,_⟩:=List.findSome?_eq_some_iff.1 h
 unfold B45 at hr;cases hz:decide (s6 p (F0 p) j=0) with
 | true=>rw[hz] at hr;cases hr
 | false =>
   rw[hz] at hr;simp only[Option.some.injEq,Prod.mk.injEq] at hr
   obtain⟨e1,rfl⟩:=hr;have hz:=of_decide_eq_false hz
   rw[e1] at hz;have hm:j∈F0 p:=by rw[e];simp
   refine⟨hm,?_⟩
   unfold s6 at e1;cases h0:(F0 p).contains j with
   | false=>rw[h0] at e1;exact absurd e1.symm hz
   | true =>
     rw[h0] at e1;simp only at e1
     cases h1:A55 p j with
     | true=>rw[h1] at e1;subst e1;exact .con h1
     | false =>
       rw[h1] at e1;simp only at e1
       cases h2:A4x p j with
       | true=>rw[h2] at e1;subst e1;exact .nul h2
       | false =>
         rw[h2] at e1;simp only at e1
         cases h3:decide (0≤r4 p j) with
         | true=>rw[h3] at e1;subst e1;exact .sam (of_decide_eq_true h3)
         | false =>
           rw[h3] at e1;simp only at e1
           cases h4:A9k p j with
           | true=>rw[h4] at e1;subst e1;exact .fac h4
           | false =>
             rw[h4] at e1;simp only at e1
             cases h5:A9V p j with
             | true=>rw[h5] at e1;subst e1;exact .gai h5
             | false =>
               rw[h5] at e1;simp only at e1
               cases h6:A9A p j with
               | true=>rw[h6] at e1;subst e1;exact .del h6
               | false =>
                 rw[h6] at e1;simp only at e1
                 cases h7:decide (0≤A2C p (F0 p) j) with
                 | true=>rw[h7] at e1;subst e1;exact .twn (of_decide_eq_true h7)
                 | false=>rw[h7] at e1;exact absurd e1.symm hz
/-! Nodes of a valid patch. -/
section
variable {p:A6} (hF:C5 p=true) {i:Int} (hi:0≤i∧i < p.2.2.1.length)
include hF hi
theorem B8s:K0 p (E8 p i)=true:=List.all_eq_true.1 (A8 hF).2.2.2.2.2.2 _ (B9 (by omega))
theorem O0 {f:Int} (hf:f∈(E8 p i).2.2.2):0≤f∧f < p.2.2.1.length:=by
 have:=I5 (G1 (B8s hF hi)).2.1 hf
 omega
theorem r6:smp (E8 p i).2.1=true∧((E8 p i).1=6→1≤(E8 p i).2.1∧(E8 p i).2.1≤16)∧((E8 p i).1=3∨(E8 p i).1=4∨(E8 p i).1=9∨(E8 p i).1=16→(E8 p i).2.2.2.length=2)∧((E8 p i).1=5∨(E8 p i).1=6∨(E8 p i).1=7∨(E8 p i).1=8∨(E8 p i).1=10∨(E8 p i).1=11∨(E8 p i).1=12∨(E8 p i).1=13∨(E8 p i).1=17→(E8 p i).2.2.2.length=1)∧((E8 p i).1=15→(E8 p i).2.2.2.length=3):=by
 have h:=(G1 (B8s hF hi)).1
 generalize E8 p i=n at *
 obtain⟨kd,a,b,fr⟩:=n;obtain⟨h1,_,h2,_,_,_,_,h3,h4,h5,_⟩:=f0 h
 exact⟨h1,h2,h3,h4,h5⟩
end
theorem b5 {n:A4} {k:Nat} (h:k < n.2.2.2.length):P4 n k∈n.2.2.2:=B9 h
theorem C2G {p:A6} (hF:C5 p=true) {i:Int} (hi:0≤i∧i < p.2.2.1.length) (h:0≤r4 p i):r4 p i∈D9 (E8 p i):=by
 obtain⟨_,_,h2,h1,h3⟩:=r6 hF hi
 generalize hn:E8 p i=n at *
 have key:∀k,n.1=k→k≠6→D9 n=n.2.2.2:=fun k e h=>by unfold D9;rw[decide_eq_false (by omega)]
 unfold r4 Y3 at h ⊢
 rw[hn] at h ⊢
 by_cases c5:n.1=5
 · rw[decide_eq_true c5] at h ⊢
   simp only at h ⊢
   split at h
   · rw[key 5 c5 (by omega)];exact b5 (by have:=h1 (by omega);omega)
   · omega
 rw[decide_eq_false c5] at h ⊢
 simp only at h ⊢
 by_cases c10:n.1=10
 · rw[decide_eq_true c10] at h ⊢
   simp only at h ⊢
   split at h
   · rw[key 10 c10 (by omega)];exact b5 (by have:=h1 (by omega);omega)
   · omega
 rw[decide_eq_false c10] at h ⊢
 simp only at h ⊢
 by_cases c3:n.1=3
 · rw[decide_eq_true c3] at h ⊢
   simp only at h ⊢
   have hl:=h2 (by omega)
   rw[key 3 c3 (by omega)]
   split at h
   · exact b5 (by omega)
   · split at h
     · exact b5 (by omega)
     · omega
 rw[decide_eq_false c3] at h ⊢
 simp only at h ⊢
 by_cases c4:n.1=4
 · rw[decide_eq_true c4] at h ⊢
   simp only at h ⊢
   have hl:=h2 (by omega)
   rw[key 4 c4 (by omega)]
   split at h
   · exact b5 (by omega)
   · omega
 rw[decide_eq_false c4] at h ⊢
 simp only at h ⊢
 by_cases c16:n.1=16
 · rw[decide_eq_true c16] at h ⊢
   simp only at h ⊢
   have hl:=h2 (by omega)
   rw[key 16 c16 (by omega)]
   split at h
   · exact b5 (by omega)
   · omega
 rw[decide_eq_false c16] at h ⊢
 simp only at h ⊢
 by_cases c15:n.1=15
 · rw[decide_eq_true c15] at h ⊢
   simp only at h ⊢
   have hl:=h3 c15
   rw[key 15 c15 (by omega)]
   unfold B5o at h ⊢
   split at h
   · split at h
     · exact b5 (by omega)
     · exact b5 (by omega)
   · split at h
     · exact b5 (by omega)
     · omega
 · rw[decide_eq_false c15] at h;simp only at h
   omega
theorem C38 {p:A6} {l:List Int} {i:Int} (h:0≤A2C p l i):A2C p l i∈l∧A2C p l i < i∧E8 p (A2C p l i)=E8 p i:=by
 unfold A2C at h ⊢
 split at h
 · rename_i k e
   have h1:=List.find?_some e
   simp only[A9n,A8c,Bool.and_eq_true,decide_eq_true_eq] at h1
   exact⟨List.mem_of_find?_eq_some e,h1.1,h1.2⟩
 · omega
/-! A node set anew. -/
section
variable {p:A6} {i:Int} {n:A4}
theorem A3c:(U3 p i n).2.2.1.length=p.2.2.1.length:=by simp[U3]
theorem C31 {m:A4}:K0 (U3 p i n) m=K0 p m:=by unfold K0;rw[A3c];rfl
theorem B5V {j:Nat} (hi:0≤i∧i < p.2.2.1.length):(U3 p i n).2.2.1.getD j n0=if i.toNat=j then n else p.2.2.1.getD j n0:=A1U (by omega)
theorem A9I (hF:C5 p=true) (h:K0 p n=true):C5 (U3 p i n)=true:=by
 obtain⟨h1,h2,h3,h4,h5,h6,h7⟩:=A8 hF
 unfold C5
 have e:(U3 p i n).2.2.1.all (K0 (U3 p i n))=true:=List.all_eq_true.2 fun m hm=>by
  rw[C31];rcases List.mem_or_eq_of_mem_set hm with h'|rfl
  · exact List.all_eq_true.1 h7 m h'
  · exact h
 rw[e,A3c];show (O7 p.1 0 4 && y2 p.2.1 && decide (p.2.2.1.length≤24) && decide (p.2.2.2.length≤4) && J4 p.2.2.1.length p.2.2.2 && true)=true
 rw[L2 h4 h5,h3,decide_eq_true h1,decide_eq_true h2,h6];rfl
theorem C1U (hi:0≤i∧i < p.2.2.1.length) (hw:A15 p.2.2.1) (hn:∀f∈D9 n,f∈D9 (E8 p i)∨∃g∈D9 (E8 p i),f∈D9 (E8 p g)):A15 (U3 p i n).2.2.1:=by
 intro P h
 rw[A3c] at h ⊢
 have key:∀j,j < p.2.2.1.length→(P j∧∀f∈D9 (p.2.2.1.getD j n0),∃m:Nat,f=(m:Int)∧m < p.2.2.1.length∧P m):=by
  refine hw _ fun j hj hq=>?_
  refine⟨h j hj fun f hf=>?_,fun f hf=>?_⟩
  · rw[B5V hi] at hf
    by_cases e:i.toNat=j
    · rw[if_pos e] at hf;have ej:p.2.2.1.getD j n0=E8 p i:=by rw[←e];rfl
      rcases hn f hf with hf|⟨g,hg,hf⟩
      · obtain⟨m,e1,e2,e3,_⟩:=hq f (by rw[ej];exact hf)
        exact⟨m,e1,e2,e3⟩
      · obtain⟨m,rfl,e2,_,e3⟩:=hq g (by rw[ej];exact hg)
        have e4:E8 p (m:Int)=p.2.2.1.getD m n0:=by unfold E8;rw[Int.toNat_natCast]
        rw[e4] at hf;exact e3 f hf
    · rw[if_neg e] at hf;obtain⟨m,e1,e2,e3,_⟩:=hq f hf
      exact⟨m,e1,e2,e3⟩
  · obtain⟨m,e1,e2,e3,_⟩:=hq f hf
    exact⟨m,e1,e2,e3⟩
 exact fun j hj=>(key j hj).1
end
theorem B2t {p:A6} (hF:C5 p=true) (hw:A15 p.2.2.1):C7 p=true:=by
 have e:(O4 p.2.2.1).length=p.2.2.1.length:=B0W hw p.2.2.1.length (o:=[]) (by simp)
 unfold C7;rw[hF,decide_eq_true e];rfl
theorem B0L {p:A6} (h:C7 p=true):A15 p.2.2.1:=A6C (A9 h).2
/-! A node replaced. -/
theorem A7E {a b x:Int} {l:List Int}:x∈A5A a b l↔(x∈l∧x≠a)∨(x=b∧a∈l):=by
 simp only[A5A,List.mem_map]
 constructor
 · rintro⟨y,hy,e⟩
   unfold A4y Y3 at e
   by_cases c:y=a
   · rw[decide_eq_true c] at e;simp only at e;exact .inr ⟨e.symm,c ▸ hy⟩
   · rw[decide_eq_false c] at e;simp only at e;exact .inl ⟨e ▸ hy,e ▸ c⟩
 · rintro (⟨h1,h2⟩|⟨rfl,h⟩)
   · exact⟨x,h1,by unfold A4y Y3;rw[decide_eq_false h2]⟩
   · exact⟨a,h,by unfold A4y Y3;rw[decide_eq_true rfl]⟩
theorem B3j {n:Nat} {a b:Int} {l:List Int} (h:J4 n l=true) (hb:0≤b∧b < n):J4 n (A5A a b l)=true:=by
 refine List.all_eq_true.2 fun x hx=>?_
 rcases A7E.1 hx with⟨h1,_⟩|⟨rfl,_⟩
 · exact List.all_eq_true.1 h x h1
 · exact L2 hb.1 (by omega)
theorem B0I {a b:Int} (n:A4):D9 (A2M a b n)=A5A a b (D9 n):=by
 by_cases c:n.1=6
 · have e:∀m:A4,m.1=6→D9 m=[]:=fun m h=>by unfold D9;rw[decide_eq_true h]
   rw[e n c,e _ (by exact c)];rfl
 · have e:∀m:A4,¬m.1=6→D9 m=m.2.2.2:=fun m h=>by unfold D9;rw[decide_eq_false h]
   rw[e n c,e _ (by exact c)];rfl
section
variable {p:A6} {a b:Int}
theorem A5I:(A0j p a b).2.2.1.length=p.2.2.1.length:=by simp[A0j]
theorem B5x {j:Nat} (hj:j < p.2.2.1.length):(A0j p a b).2.2.1.getD j n0=A2M a b (p.2.2.1.getD j n0):=by simp[A0j,List.getD,hj]
theorem A8C (hF:C5 p=true) (hb:0≤b∧b < p.2.2.1.length):C5 (A0j p a b)=true:=by
 obtain⟨h1,h2,h3,h4,h5,h6,h7⟩:=A8 hF
 unfold C5
 have e:(A0j p a b).2.2.1.all (K0 (A0j p a b))=true:=List.all_eq_true.2 fun m hm=>by
  obtain⟨n,hn,rfl⟩:=List.mem_map.1 hm
  have h8:=List.all_eq_true.1 h7 n hn
  obtain⟨q1,q2,q3⟩:=G1 h8
  have e2:N5 (A2M a b n) p.2.1.length=true:=by
   have h24:∀x∈n.2.2.2,O7 x 0 23=true:=fun x hx=>by
    have:=I5 q2 hx
    exact L2 (by omega) (by omega)
   unfold N5 at q1 ⊢
   have e3:(A2M a b n).2.2.2.all (fun f=>O7 f 0 23)=true:=List.all_eq_true.2 fun x hx=>by
    rcases A7E.1 hx with⟨h,_⟩|⟨rfl,_⟩
    · exact h24 x h
    · exact L2 hb.1 (by omega)
   have e4:n.2.2.2.all (fun f=>O7 f 0 23)=true:=List.all_eq_true.2 h24
   have e5:(A2M a b n).2.2.2.length=n.2.2.2.length:=by simp[A2M,A5A]
   rw[e3,e5];rw[e4] at q1;exact q1
  unfold K0;have e6:J4 (A0j p a b).2.2.1.length (A2M a b n).2.2.2=true:=by rw[A5I];exact B3j q2 hb
  rw[e6];have e7:N5 (A2M a b n) (A0j p a b).2.1.length=true:=e2
  rw[e7]
  have e8:(!(decide ((A2M a b n).1=1) && decide ((A0j p a b).1≤(A2M a b n).2.1)))=true:=by
   have:¬(n.1=1∧p.1≤n.2.1):=q3
   show (!(decide (n.1=1) && decide (p.1≤n.2.1)))=true
   rw[Bool.not_eq_true',Bool.and_eq_false_iff,decide_eq_false_iff_not,decide_eq_false_iff_not]
   by_cases c:n.1=1
   · exact .inr fun h=>this ⟨c,h⟩
   · exact .inl c
  rw[e8];rfl
 rw[e,A5I];have e9:J4 p.2.2.1.length (A0j p a b).2.2.2=true:=B3j h6 hb
 have e10:(A0j p a b).2.2.2.length=p.2.2.2.length:=by simp[A0j,A5A]
 rw[e9,e10];show (O7 p.1 0 4 && y2 p.2.1 && decide (p.2.2.1.length≤24) && decide (p.2.2.2.length≤4) && true && true)=true
 rw[L2 h4 h5,h3,decide_eq_true h1,decide_eq_true h2];rfl
theorem C1H (ha:0≤a∧a < p.2.2.1.length) (hb:0≤b∧b < p.2.2.1.length) (hw:A15 p.2.2.1) (h:b∈D9 (E8 p a)∨E8 p b=E8 p a):A15 (A0j p a b).2.2.1:=by
 intro P hP
 rw[A5I] at hP ⊢
 have hbn:((b.toNat:Nat):Int)=b:=Int.toNat_of_nonneg hb.1
 have key:∀j,j < p.2.2.1.length→(P j∧((j:Int)=a→P b.toNat)):=by
  refine hw _ fun j hj hq=>?_
  -- what is known of a node with the same list, swapped
  have kw:∀f∈A5A a b (D9 (p.2.2.1.getD j n0)),∃m:Nat,f=(m:Int)∧m < p.2.2.1.length∧P m:=fun f hf=>by
   rcases A7E.1 hf with⟨h1,_⟩|⟨rfl,h1⟩
   · obtain⟨m,e1,e2,e3,_⟩:=hq f h1
     exact⟨m,e1,e2,e3⟩
   · obtain⟨m,e1,e2,_,e3⟩:=hq a h1
     exact⟨f.toNat,hbn.symm,by omega,e3 e1.symm⟩
  refine⟨hP j hj fun f hf=>kw f (by rw[B5x hj,B0I] at hf;exact hf),fun ej=>?_⟩
  have ea:E8 p a=p.2.2.1.getD j n0:=by unfold E8;rw[←ej,Int.toNat_natCast]
  rcases h with h|h
  · obtain⟨m,e1,e2,e3,_⟩:=hq b (by rw[←ea];exact h)
    rw[e1,Int.toNat_natCast];exact e3
  · refine hP b.toNat (by omega) fun f hf=>kw f ?_
    rw[B5x (by omega),B0I] at hf
    have eb:p.2.2.1.getD b.toNat n0=E8 p a:=h
    rw[eb,ea] at hf;exact hf
 exact fun j hj=>(key j hj).1
end
/-! One rewrite. -/
theorem M7 {p:A6} {i:Int} (h:i∈F0 p):0≤i∧i < p.2.2.1.length:=by
 obtain⟨j,h1,_,rfl⟩:=A0J.1 h
 omega
theorem C0w (p:A6) {v:Int} (h:smp v=true):K0 p (2,v,0,[])=true:=by
 obtain⟨h1,h2⟩:=n7.1 h
 have e:O7 v (-2147483648) 2147483647=true:=L2 h1 h2
 unfold K0 N5;simp[kT,A6v,e,O7,J4]
 omega
theorem B6r (p:A6) (hl:p.2.2.1.length≤24) {v x:Int} (h:smp v=true) (hx:0≤x∧x < p.2.2.1.length):K0 p (5,v,0,[x])=true:=by
 obtain⟨h1,h2⟩:=n7.1 h
 have e:O7 v (-2147483648) 2147483647=true:=L2 h1 h2
 have e2:O7 x 0 23=true:=L2 hx.1 (by omega)
 have e3:O7 x 0 ((p.2.2.1.length:Int) - 1)=true:=L2 hx.1 (by omega)
 unfold K0 N5;simp[kT,A6v,J4,e2,e3,e]
 decide
theorem C0D (p:A6) (hl:p.2.2.1.length≤24) {v x:Int} (h:1≤v∧v≤16) (hx:0≤x∧x < p.2.2.1.length):K0 p (6,v,0,[x])=true:=by
 have e:O7 v 1 16=true:=L2 h.1 h.2
 have e2:O7 x 0 23=true:=L2 hx.1 (by omega)
 have e3:O7 x 0 ((p.2.2.1.length:Int) - 1)=true:=L2 hx.1 (by omega)
 unfold K0 N5;simp[kT,A6v,J4,e2,e3,e]
 decide
theorem B3M {l:List Int} (h:l.length=1):l=[l.getD 0 0]:=by
 match l,h with
 | [x],_=>rfl
end Go.Proofs.YtflobmmbhaofbaaGreat
