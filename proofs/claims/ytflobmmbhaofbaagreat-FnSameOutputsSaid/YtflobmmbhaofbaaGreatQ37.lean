/-
  Texts of this claim, joined (part 37). No condition beyond those of the theorems.
-/
import Derived.Test.YtflobmmbhaofbaaGreatQ36
import Derived.Test.YtflobmmbhaofbaaGreatQ25
import Derived.Test.YtflobmmbhaofbaaGreatQ20
namespace Go.Proofs.YtflobmmbhaofbaaGreat
open Go.RowKit
set_option linter.unusedSimpArgs false
set_option linter.unusedVariables false
theorem B1q {p q:A6} (h:j8 p q=0):C7 p=true∧C7 q=true∧p.1=q.1:=by
 unfold j8 at h;cases h1:C7 p with
 | false=>rw[h1] at h;cases h
 | true =>
   cases h2:C7 q with
   | false=>rw[h1,h2] at h;cases h
   | true =>
     rw[h1,h2] at h;cases h3:decide (p.1=q.1) with
     | false=>rw[h3] at h;cases h
     | true=>exact⟨rfl,rfl,of_decide_eq_true h3⟩
theorem C18 {p q:A6} (h1:C7 p=true) (h2:C7 q=true) (h3:p.1=q.1):j8 p q=0:=by unfold j8;rw[h1,h2,decide_eq_true h3];rfl
theorem A9L (p q:A6):j8 p q=j8 q p:=by
 unfold j8;rw[Bool.and_comm,show decide (p.1=q.1)=decide (q.1=p.1) from decide_eq_decide.2 ⟨Eq.symm,Eq.symm⟩]
abbrev A4B (p q:A6):List Int:=H1 (A84 p q) (A5K p q)
section
variable {p q:A6} (hp:C7 p=true) (hq:C7 q=true)
include hp in
theorem B3P {k:Nat} (hk:k < p.2.2.2.length):∃a:Nat,p.2.2.2.getD k 0=(a:Int)∧a < p.2.2.1.length∧(M3 p q).getD k 0=(A4B p q).getD a 0:=by
 obtain⟨a,e1,e2⟩:=Y8 (A8 (A9 hp).1).2.2.2.2.2.1 hk
 refine⟨a,e1,e2,?_⟩
 rw[B48 (by rw[z7];omega)]
 have e3:(S9 p q).2.2.2.getD k 0=p.2.2.2.getD k 0:=by
  show (p.2.2.2++_).getD k 0=_
  rw[List.getD_eq_getElem?_getD,List.getElem?_append_left hk,←List.getD_eq_getElem?_getD]
 rw[e3,e1,Int.toNat_natCast]
include hp hq in
theorem B2p {k:Nat} (hk:k < q.2.2.2.length):∃c:Nat,q.2.2.2.getD k 0=(c:Int)∧c < q.2.2.1.length∧(M3 p q).getD (p.2.2.2.length+k) 0=(A4B p q).getD (p.2.2.1.length+c) 0:=by
 obtain⟨c,e1,e2⟩:=Y8 (A8 (A9 hq).1).2.2.2.2.2.1 hk
 have np:=(A8 (A9 hp).1).1
 have nq:=(A8 (A9 hq).1).1
 refine⟨c,e1,e2,?_⟩
 rw[B48 (by rw[z7];omega)]
 have e3:(S9 p q).2.2.2.getD (p.2.2.2.length+k) 0=j7 p.2.2.1.length (q.2.2.2.getD k 0):=by
  show (p.2.2.2++_).getD _ 0=_
  rw[List.getD_eq_getElem?_getD,List.getElem?_append_right (by omega),Nat.add_sub_cancel_left]
  simp[List.getD,hk]
 rw[e3,e1,B1j np (by omega),show ((c:Int)+(p.2.2.1.length:Int)).toNat=p.2.2.1.length+c by omega]
include hp in
theorem A6A {a b:Nat} (h:a < p.2.2.1.length∧a=b):a < p.2.2.1.length∧b < p.2.2.1.length∧NSim p.2.1 p.2.1 (fun a b=>a < p.2.2.1.length∧a=b) (p.2.2.1.getD a n0) (p.2.2.1.getD b n0):=by
 obtain⟨h1,rfl⟩:=h;obtain⟨g1,_⟩:=l8 (A9 hp).1 h1
 refine⟨h1,h1,rfl,.inl ⟨rfl,fun k hk=>?_⟩⟩
 obtain⟨u,e1,e2⟩:=Y8 g1 hk
 exact⟨u,u,e1,e1,e2,rfl⟩
include hp in
theorem B6I {a:Nat} (ha:a < p.2.2.1.length) (hs:I3 (p.2.2.1.getD a n0)=true):(p.2.2.1.getD a n0).2.2.2.length=2:=(l8 (A9 hp).1 ha).2 hs
include hp in
theorem B4e:r5 p p=(true,0):=by
 refine A5G (C18 hp hp rfl) rfl fun k hk=>?_
 obtain⟨a,e1,e2,e3⟩:=B3P (q:=p) hp hk
 obtain⟨c,f1,f2,f3⟩:=B2p hp hp hk
 have e:a=c:=by omega
 subst e;rw[e3,f3];exact(B1v (B16 hp hp (fun a b h=>A6A hp h) (fun a b h=>A6A hp h) fun a ha hs=>B6I hp ha hs) (a':=a) (b':=a) (.inl ⟨e2,e2,rfl⟩) (.inr ⟨a,rfl,e2,rfl⟩)).2 rfl
include hp in
theorem B43:r5 p (Y1 p)=(true,0):=by
 have hr:=B3h hp
 have hS:=B00 (A9 hp).1
 refine A5G (C18 hp hr rfl) hS.outs.1 fun k hk=>?_
 obtain⟨a,e1,e2,e3⟩:=B3P (q:=Y1 p) hp hk
 obtain⟨c,f1,f2,f3⟩:=B2p hp hr (k:=k) (by rw[←hS.outs.1];exact hk)
 obtain⟨a',c',g1,g2,g3⟩:=hS.outs.2 k hk
 have ea:a=a':=by omega
 have ec:c=c':=by omega
 subst ea ec
 rw[e3,f3];exact(B1v (B16 hp hr (fun a b h=>hS.node a b h) (fun a b h=>A6A hr h) fun a ha hs=>B6I hr ha hs) (a':=c) (b':=c) (.inl ⟨e2,g3⟩) (.inr ⟨c,rfl,f2,rfl⟩)).2 rfl
include hp hq in
theorem C2H {a c:Nat} (ha:a < p.2.2.1.length) (hc:c < q.2.2.1.length):(A4B p q).getD a 0=(A4B p q).getD (p.2.2.1.length+c) 0↔(A4B q p).getD (q.2.2.1.length+a) 0=(A4B q p).getD c 0:=by
 refine B1v (B16 hp hq (ts':=A84 q p) (ns':=A5K q p) (S:=fun a b=>a < p.2.2.1.length∧b=q.2.2.1.length+a) (T:=fun c b=>c < q.2.2.1.length∧b=c) (fun a b h=>?_) (fun c b h=>?_) fun a ha hs=>((B0c hq hp).2 _ (B9 (d:=n0) ha)).2.2.2 hs) (.inl ⟨ha,ha,rfl⟩) (.inr ⟨c,rfl,hc,rfl⟩)
 · obtain⟨h1,rfl⟩:=h;rw[A4k,B8q h1];refine⟨h1,by omega,(B98 hq hp h1).symm,.inl ⟨A2A.symm,fun k hk=>?_⟩⟩
   obtain⟨u,e1,e2,e3⟩:=A8Z hq hp h1 hk
   exact⟨u,_,e1,e3,e2,rfl⟩
 · obtain⟨h1,rfl⟩:=h;rw[A4k,B9Q h1];obtain⟨g1,_⟩:=l8 (A9 hq).1 h1
   refine⟨h1,by omega,(B9G hq h1).symm,.inl ⟨rfl,fun k hk=>?_⟩⟩
   obtain⟨u,e1,e2⟩:=Y8 g1 hk
   exact⟨u,u,e1,e1,e2,rfl⟩
theorem B7l (p q:A6):r5 p q=r5 q p:=by
 by_cases h:j8 p q=0
 · have h':j8 q p=0:=by rw[A9L];exact h
   obtain⟨hp,hq,_⟩:=B1q h
   by_cases hl:p.2.2.2.length=q.2.2.2.length
   · have key:∀k,k < p.2.2.2.length→((M3 p q).getD k 0=(M3 p q).getD (p.2.2.2.length+k) 0↔(M3 q p).getD k 0=(M3 q p).getD (q.2.2.2.length+k) 0):=fun k hk=>by
      obtain⟨a,e1,e2,e3⟩:=B3P (q:=q) hp hk
      obtain⟨c,f1,f2,f3⟩:=B2p hp hq (k:=k) (by omega)
      obtain⟨c',e1',e2',e3'⟩:=B3P (q:=p) hq (k:=k) (by omega)
      obtain⟨a',f1',f2',f3'⟩:=B2p hq hp (k:=k) hk
      have ec:c=c':=by omega
      have ea:a=a':=by omega
      subst ec ea
      rw[e3,f3,e3',f3']
      have:=C2H hp hq e2 f2
      exact⟨fun h=>(this.1 h).symm,fun h=>this.2 h.symm⟩
     by_cases hc:∀k,k < p.2.2.2.length→(M3 p q).getD k 0=(M3 p q).getD (p.2.2.2.length+k) 0
     · rw[A5G h hl hc,A5G h' hl.symm fun k hk=>(key k (by omega)).1 (hc k (by omega))]
     · obtain⟨k,hc⟩:=Classical.not_forall.1 hc
       obtain⟨hk,hne⟩:=Classical.not_imp.1 hc
       rw[B2v h hk hne,B2v h' (k:=k) (by omega) fun e=>hne ((key k hk).2 e)]
   · rw[B09 h hl,B09 h' fun e=>hl e.symm]
 · rw[A5T h,A5T (by rw[A9L];exact h),A9L]
def C4Q (p q:A6) (a c:Nat):Prop:=a < p.2.2.1.length∧c < q.2.2.1.length∧(A4B p q).getD a 0=(A4B p q).getD (p.2.2.1.length+c) 0
include hp hq in
theorem A4v {a c:Nat} (ha:a < p.2.2.1.length) (hc:c < q.2.2.1.length) {k:Nat} (hk:k < (p.2.2.1.getD a n0).2.2.2.length) {k':Nat} (hk':k' < (q.2.2.1.getD c n0).2.2.2.length)
 (h:(H2 (A4B p q) (p.2.2.1.getD a n0).2.2.2).getD k 0=(H2 (A4B p q) (M2 p.2.2.1.length p.2.1.length (q.2.2.1.getD c n0)).2.2.2).getD k' 0):∃u v:Nat,(p.2.2.1.getD a n0).2.2.2.getD k 0=(u:Int)∧(q.2.2.1.getD c n0).2.2.2.getD k' 0=(v:Int)∧C4Q p q u v:=by
 obtain⟨g1,_⟩:=l8 (A9 hp).1 ha
 obtain⟨u,e1,e2⟩:=Y8 g1 hk
 obtain⟨v,e3,e4,e5⟩:=A8Z hp hq hc hk'
 rw[P8 hk,P8 (by rw[A2A];exact hk'),e1,e5,Int.toNat_natCast,Int.toNat_natCast] at h
 exact⟨u,v,e1,e3,e2,e4,h⟩
theorem B9W {ec:Int} (h:r5 p q=(true,ec)) (h0:j8 p q=0):PSim p q (C4Q p q):=by
 obtain⟨hp,hq,hi⟩:=B1q h0
 refine⟨hi,fun a c hr=>?_,?_⟩
 · obtain⟨ha,hc,e⟩:=hr;refine⟨ha,hc,?_⟩
   have h1:a < (A5K p q).length:=by rw[A4k];omega
   have h2:p.2.2.1.length+c < (A5K p q).length:=by rw[A4k];omega
   have e2:Q6 (A84 p q) (A5K p q) (A4B p q) a=Q6 (A84 p q) (A5K p q) (A4B p q) (p.2.2.1.length+c):=by
    have:=X1 (f:=Q6 (A84 p q) (A5K p q) (A4B p q)) h1 h2
    rw[show P9 (Q6 (A84 p q) (A5K p q) (A4B p q)) (A5K p q).length=A4B p q from A5V] at this
    exact this.1 e
   obtain⟨k1,k2⟩:=A5e e2
   rw[B9Q ha,B8q hc] at k1 k2
   have hk:=(Q4 k1).1
   rw[B9G hp ha,B98 hp hq hc] at k1;refine⟨k1,?_⟩
   have hsw:=A0Q hk
   cases hs:I3 (p.2.2.1.getD a n0) with
   | false =>
     left
     rw[Z1 hs,Z1 (by rw[←hsw];exact hs)] at k2
     have hl:(p.2.2.1.getD a n0).2.2.2.length=(q.2.2.1.getD c n0).2.2.2.length:=by have:=congrArg List.length k2;rwa [L5,L5,A2A] at this
     exact⟨hl,fun k hk=>A4v hp hq ha hc hk (by omega) (by rw[k2])⟩
   | true =>
     have l1:=B6I hp ha hs
     have l2:=B6I hq hc (by rw[hsw] at hs;exact hs)
     rw[V6 hs,V6 (by rw[←hsw];exact hs)] at k2
     rcases (A8i (by rw[L5];exact l1) (by rw[L5,A2A];exact l2)).1 k2 with e|⟨e1,e2⟩
     · left;exact⟨by omega,fun k hk=>A4v hp hq ha hc hk (by omega) (by rw[e])⟩
     · right
       obtain⟨u,v,f1,f2,f3⟩:=A4v hp hq ha hc (k:=0) (k':=1) (by omega) (by omega) e1
       obtain⟨u',v',g1,g2,g3⟩:=A4v hp hq ha hc (k:=1) (k':=0) (by omega) (by omega) e2
       exact⟨rfl,l1,l2,u,u',v',v,f1,g1,g2,f2,f3,g3⟩
 · rw[A0q h0] at h;have h1:eqD ((M3 p q).take p.2.2.2.length) ((M3 p q).drop p.2.2.2.length)=true:=congrArg Prod.fst h
   have h1:=B9k h1
   have hl:=z7 p q
   have hll:p.2.2.2.length=q.2.2.2.length:=by
    have:=congrArg List.length h1
    rw[List.length_take,List.length_drop] at this;omega
   refine⟨hll,fun k hk=>?_⟩
   obtain⟨a,e1,e2,e3⟩:=B3P (q:=q) hp hk
   obtain⟨c,f1,f2,f3⟩:=B2p hp hq (k:=k) (by omega)
   refine⟨a,c,e1,f1,e2,f2,?_⟩
   rw[←e3,←f3];have:((M3 p q).take p.2.2.2.length).getD k 0=((M3 p q).drop p.2.2.2.length).getD k 0:=by rw[h1]
   rwa [B2L hk,B2P] at this
end
theorem B3v {p q:A6} {ec:Int} (h:r5 p q=(true,ec)) (h0:j8 p q=0) {ins:List (List Int)} (hi:d9 p ins) (m:Nat):P7 p ins m=P7 q ins m:=by
 obtain⟨hp,hq,_⟩:=B1q h0
 exact B4s hp hq (B9W h h0) hi m
/-! Two patches drawn. -/
def C2f (p:A6):DM (A6 × A6):=bnd l9 fun q s=>((p,q),s)
def C4e (p:A6):DM (A6 × A6):=bnd (A3E p) fun q s=>((p,q),s)
def C4G (p:A6) (w:Bool):DM (A6 × A6):=fun s=>match w with
 | true=>((p,C3H p),s)
 | false=>C4e p s
def C1M (p:A6) (v:Bool):DM (A6 × A6):=fun s=>match v with
 | true=>C2f p s
 | false=>bnd (U4 3) (C4G p) s
def C0B (p:A6):DM (A6 × A6):=fun s=>match C7 p with
 | false=>C2f p s
 | true=>bnd (U4 5) (C1M p) s
def A1W:DM (A6 × A6):=bnd l9 C0B
def C2n (cd:List Int):A6 × A6:=(A1W (cd,0,0)).1
section
variable {p q:A6} {s s1 s2 s3 s4:T4}
theorem C3p (h:l9 s=(p,s1)) (k:C7 p=false) (h2:l9 s1=(q,s2)):A1W s=((p,q),s2):=by
 unfold A1W;rw[M5 h];unfold C0B;rw[k];unfold C2f;rw[M5 h2]
theorem C3z (h:l9 s=(p,s1)) (k:C7 p=true) (h1:U4 5 s1=(true,s2)) (h2:l9 s2=(q,s3)):A1W s=((p,q),s3):=by
 unfold A1W;rw[M5 h];unfold C0B;rw[k];simp only;rw[M5 h1];unfold C1M C2f;simp only;rw[M5 h2]
theorem C3C (h:l9 s=(p,s1)) (k:C7 p=true) (h1:U4 5 s1=(false,s2)) (h2:U4 3 s2=(true,s3)):A1W s=((p,C3H p),s3):=by
 unfold A1W;rw[M5 h];unfold C0B;rw[k];simp only;rw[M5 h1];unfold C1M;simp only;rw[M5 h2];rfl
theorem C30 (h:l9 s=(p,s1)) (k:C7 p=true) (h1:U4 5 s1=(false,s2)) (h2:U4 3 s2=(false,s3)) (h3:A3E p s3=(q,s4)):A1W s=((p,q),s4):=by
 unfold A1W;rw[M5 h];unfold C0B;rw[k];simp only;rw[M5 h1];unfold C1M;simp only;rw[M5 h2];unfold C4G C4e;simp only;rw[M5 h3]
end
/-! The inputs. -/
def sgQ (mr:List Int) (i k:Nat):Int:=9000000 * (atD mr (8 * i+k) 256 - 128)
def inQ (mr:List Int) (n:Nat):List (List Int):=(List.range n).map fun i=>A7l (sgQ mr i) 8
theorem C0f (mr:List Int) (n:Nat):inQ mr n++[A7l (sgQ mr n) 8]=inQ mr (n+1):=by simp[inQ,List.range_succ]
theorem B6L (mr:List Int) (n:Nat):(inQ mr n).length=n:=by simp[inQ]
theorem C1s {mr:List Int} (h:∀b∈mr,0≤b∧b≤255) (i k:Nat):-1152000000≤sgQ mr i k∧sgQ mr i k≤1143000000:=by
 have:=B6R (i:=8 * (i:Int)+k) (n:=256) h (by omega) (by omega)
 unfold sgQ;omega
theorem C3a {mr:List Int} (h:∀b∈mr,0≤b∧b≤255) {p:A6} {n:Nat} (hn:(n:Int)=p.1):d9 p (inQ mr n):=by
 refine⟨by rw[B6L];exact hn,fun a ha=>?_⟩
 obtain⟨i,_,rfl⟩:=List.mem_map.1 ha
 refine⟨by rw[A8B];omega,V7.2 fun x hx=>?_⟩
 obtain⟨k,_,rfl⟩:=List.mem_map.1 hx
 have:=C1s h i k
 exact n7.2 ⟨by omega,by omega⟩
/-! What SameOutputs answers. -/
theorem C1q {p q:A6} {sm:Bool} {ec:Int} (h:r5 p q=(sm,ec)):ec=j8 p q:=by
 by_cases k:j8 p q=0
 · rw[A0q k] at h;rw[k];exact(congrArg Prod.snd h).symm
 · rw[A5T k] at h;exact(congrArg Prod.snd h).symm
end Go.Proofs.YtflobmmbhaofbaaGreat
