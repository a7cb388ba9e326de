/-
  Texts of this claim, joined (part 36). No condition beyond those of the theorems.
-/
import Derived.Test.YtflobmmbhaofbaaGreatQ35
import Derived.Test.YtflobmmbhaofbaaGreatQ20
namespace Go.Proofs.YtflobmmbhaofbaaGreat
open Go.RowKit
set_option linter.unusedSimpArgs false
set_option linter.unusedVariables false
theorem FromR.mono {R S:Nat→Nat→Prop} {l m:List Int} (h:FromR R l m) (k:∀a b,R a b→S a b):FromR S l m :=
 ⟨h.1,fun i hi=>by obtain⟨a,b,e1,e2,r⟩:=h.2 i hi;exact⟨a,b,e1,e2,k a b r⟩⟩
theorem SwapR.mono {R S:Nat→Nat→Prop} {l m:List Int} (h:SwapR R l m) (k:∀a b,R a b→S a b):SwapR S l m:=by
 obtain⟨h1,h2,a,b,c,d,q1,q2,q3,q4,r1,r2⟩:=h;exact⟨h1,h2,a,b,c,d,q1,q2,q3,q4,k _ _ r1,k _ _ r2⟩
abbrev C4c (R:Nat→Nat→Prop) (b a:Nat):Prop:=R a b
theorem NSim.inv {ts ts':List (List Int)} {R:Nat→Nat→Prop} {x y:A4} (h:NSim ts ts' R x y):NSim ts' ts (C4c R) y x:=by
 refine⟨h.key.symm,?_⟩
 rcases h.ins with⟨e,h1⟩|⟨hs,h1,h2,a,b,c,d,q1,q2,q3,q4,r1,r2⟩
 · left
   refine⟨e.symm,fun k hk=>?_⟩
   obtain⟨a,b,e1,e2,r⟩:=h1 k (by omega)
   exact⟨b,a,e2,e1,r⟩
 · right
   refine⟨by rw[←A0Q (Q4 h.key).1];exact hs,h2,h1,c,d,a,b,q3,q4,q1,q2,r2,r1⟩
theorem B6F {ts ts':List (List Int)} {R:Nat→Nat→Prop} {x y:A4} (h:NSim ts ts' R x y) (hl:x.2.2.2.length=2):y.2.2.2.length=2∧∃u0 u1 p0 p1:Nat,(x.2.2.2.getD 0 0=(u0:Int)∧x.2.2.2.getD 1 0=(u1:Int))∧(y.2.2.2.getD 0 0=(p0:Int)∧y.2.2.2.getD 1 0=(p1:Int))∧((R u0 p0∧R u1 p1)∨(R u0 p1∧R u1 p0)):=by
 rcases h.ins with⟨e,h1⟩|⟨hs,h1,h2,a,b,c,d,q1,q2,q3,q4,r1,r2⟩
 · obtain⟨a,b,e1,e2,r⟩:=h1 0 (by omega)
   obtain⟨a',b',e1',e2',r'⟩:=h1 1 (by omega)
   exact⟨by omega,a,a',b,b',⟨e1,e1'⟩,⟨e2,e2'⟩,.inl ⟨r,r'⟩⟩
 · exact⟨h2,a,b,c,d,⟨q1,q2⟩,⟨q3,q4⟩,.inr ⟨r1,r2⟩⟩
theorem C3m {a b:List Int} (ha:a.length=2) (hb:b.length=2) (h0:a.getD 0 0=b.getD 0 0) (h1:a.getD 1 0=b.getD 1 0):a=b :=
 B96 (by omega) fun j hj=>by
  have:j=0∨j=1:=by omega
  rcases this with rfl|rfl
  · exact h0
  · exact h1
theorem C2A {ts ts':List (List Int)} {R:Nat→Nat→Prop} {cl cl':List Int} {x y x' y':A4} (hx:NSim ts ts' R x x') (hy:NSim ts ts' R y y') (hk:x.1=y.1) (l2:I3 x=true→x.2.2.2.length=2∧y.2.2.2.length=2)
 (ih:∀u v u' v',R u u'→R v v'→cl.getD u 0=cl.getD v 0→cl'.getD u' 0=cl'.getD v' 0) (h:A0t x cl=A0t y cl):A0t x' cl'=A0t y' cl':=by
 have sx:I3 x'=I3 x:=(A0Q (Q4 hx.key).1).symm
 have sy:I3 y=I3 x:=A0Q hk.symm
 have sy':I3 y'=I3 x:=by rw[←sy];exact(A0Q (Q4 hy.key).1).symm
 cases hs:I3 x with
 | false =>
   rw[Z1 hs,Z1 (by rw[sy,hs])] at h
   rw[Z1 (by rw[sx,hs]),Z1 (by rw[sy',hs])]
   rcases hx.ins with⟨ex,fx⟩|⟨hc,_⟩
   · rcases hy.ins with⟨ey,fy⟩|⟨hc,_⟩
     · have hl:x.2.2.2.length=y.2.2.2.length:=by have:=congrArg List.length h;rwa [L5,L5] at this
       refine B96 (by rw[L5,L5];omega) fun k hk=>?_
       rw[L5] at hk;obtain⟨a,a',e1,e2,r⟩:=fx k (by omega)
       obtain⟨b,b',e3,e4,r'⟩:=fy k (by omega)
       have h2:(H2 cl x.2.2.2).getD k 0=(H2 cl y.2.2.2).getD k 0:=by rw[h]
       rw[P8 (by omega),P8 (by omega),e1,e3,Int.toNat_natCast,Int.toNat_natCast] at h2
       rw[P8 (by omega),P8 (by omega),e2,e4,Int.toNat_natCast,Int.toNat_natCast]
       exact ih a b a' b' r r' h2
     · rw[sy,hs] at hc;cases hc
   · rw[hs] at hc;cases hc
 | true =>
   obtain⟨lx,ly⟩:=l2 hs
   obtain⟨lx',u0,u1,p0,p1,⟨e1,e2⟩,⟨e3,e4⟩,hr⟩:=B6F hx lx
   obtain⟨ly',v0,v1,q0,q1,⟨f1,f2⟩,⟨f3,f4⟩,hr'⟩:=B6F hy ly
   rw[V6 hs,V6 (by rw[sy,hs])] at h
   rw[V6 (by rw[sx,hs]),V6 (by rw[sy',hs])]
   have m1:(H2 cl x.2.2.2).length=2:=by rw[L5];exact lx
   have m2:(H2 cl y.2.2.2).length=2:=by rw[L5];exact ly
   have m3:(H2 cl' x'.2.2.2).length=2:=by rw[L5];exact lx'
   have m4:(H2 cl' y'.2.2.2).length=2:=by rw[L5];exact ly'
   have A0:(H2 cl x.2.2.2).getD 0 0=cl.getD u0 0:=by rw[P8 (by omega),e1,Int.toNat_natCast]
   have A1:(H2 cl x.2.2.2).getD 1 0=cl.getD u1 0:=by rw[P8 (by omega),e2,Int.toNat_natCast]
   have B0:(H2 cl y.2.2.2).getD 0 0=cl.getD v0 0:=by rw[P8 (by omega),f1,Int.toNat_natCast]
   have B1:(H2 cl y.2.2.2).getD 1 0=cl.getD v1 0:=by rw[P8 (by omega),f2,Int.toNat_natCast]
   have C0:(H2 cl' x'.2.2.2).getD 0 0=cl'.getD p0 0:=by rw[P8 (by omega),e3,Int.toNat_natCast]
   have C1:(H2 cl' x'.2.2.2).getD 1 0=cl'.getD p1 0:=by rw[P8 (by omega),e4,Int.toNat_natCast]
   have D0:(H2 cl' y'.2.2.2).getD 0 0=cl'.getD q0 0:=by rw[P8 (by omega),f3,Int.toNat_natCast]
   have D1:(H2 cl' y'.2.2.2).getD 1 0=cl'.getD q1 0:=by rw[P8 (by omega),f4,Int.toNat_natCast]
   have hh:(cl.getD u0 0=cl.getD v0 0∧cl.getD u1 0=cl.getD v1 0)∨(cl.getD u0 0=cl.getD v1 0∧cl.getD u1 0=cl.getD v0 0):=by
    rcases (A8i m1 m2).1 h with e|⟨e,e'⟩
    · left;rw[←A0,←A1,←B0,←B1,e];exact⟨rfl,rfl⟩
    · right;rw[←A0,←A1,←B0,←B1];exact⟨e,e'⟩
   have gg:(cl'.getD p0 0=cl'.getD q0 0∧cl'.getD p1 0=cl'.getD q1 0)∨(cl'.getD p0 0=cl'.getD q1 0∧cl'.getD p1 0=cl'.getD q0 0):=by
    rcases hr with⟨r0,r1⟩|⟨r0,r1⟩<;>rcases hr' with⟨s0,s1⟩|⟨s0,s1⟩<;>rcases hh with⟨g0,g1⟩|⟨g0,g1⟩
    · exact .inl ⟨ih _ _ _ _ r0 s0 g0,ih _ _ _ _ r1 s1 g1⟩
    · exact .inr ⟨ih _ _ _ _ r0 s1 g0,ih _ _ _ _ r1 s0 g1⟩
    · exact .inr ⟨ih _ _ _ _ r0 s0 g0,ih _ _ _ _ r1 s1 g1⟩
    · exact .inl ⟨ih _ _ _ _ r0 s1 g0,ih _ _ _ _ r1 s0 g1⟩
    · exact .inr ⟨ih _ _ _ _ r1 s1 g1,ih _ _ _ _ r0 s0 g0⟩
    · exact .inl ⟨ih _ _ _ _ r1 s0 g1,ih _ _ _ _ r0 s1 g0⟩
    · exact .inl ⟨ih _ _ _ _ r1 s1 g1,ih _ _ _ _ r0 s0 g0⟩
    · exact .inr ⟨ih _ _ _ _ r1 s0 g1,ih _ _ _ _ r0 s1 g0⟩
   refine(A8i m3 m4).2 ?_
   rcases gg with⟨g0,g1⟩|⟨g0,g1⟩
   · left;exact C3m m3 m4 (by rw[C0,D0,g0]) (by rw[C1,D1,g1])
   · right;rw[C0,C1,D0,D1];exact⟨g0,g1⟩
structure CSim (ts ts':List (List Int)) (ns ns':List A4) (R:Nat→Nat→Prop):Prop where
 node:∀a b,R a b→a < ns.length∧b < ns'.length∧NSim ts ts' R (ns.getD a n0) (ns'.getD b n0)
 two:∀a,a < ns.length→I3 (ns.getD a n0)=true→(ns.getD a n0).2.2.2.length=2
 two':∀a,a < ns'.length→I3 (ns'.getD a n0)=true→(ns'.getD a n0).2.2.2.length=2
section
variable {ts ts':List (List Int)} {ns ns':List A4} {R:Nat→Nat→Prop}
theorem CSim.inv (h:CSim ts ts' ns ns' R):CSim ts' ts ns' ns (C4c R):=⟨fun a b r=>by obtain⟨h1,h2,h3⟩:=h.node b a r;exact⟨h2,h1,h3.inv⟩,h.two',h.two⟩
theorem B79 (h:CSim ts ts' ns ns' R) {cl cl':List Int} (ih:∀u v u' v',R u u'→R v v'→cl.getD u 0=cl.getD v 0→cl'.getD u' 0=cl'.getD v' 0) {a b a' b':Nat} (ha:R a a') (hb:R b b') (e:Q6 ts ns cl a=Q6 ts ns cl b):Q6 ts' ns' cl' a'=Q6 ts' ns' cl' b':=by
 obtain⟨a1,a2,a3⟩:=h.node a a' ha
 obtain⟨b1,b2,b3⟩:=h.node b b' hb
 obtain⟨e2,e3⟩:=A5e e
 have hk:=(Q4 e2).1
 unfold Q6;rw[ih a b a' b' ha hb (B2x e),←a3.key,←b3.key,e2,C2A a3 b3 hk (fun hs=>⟨h.two a a1 hs,h.two b b1 (by rw[←A0Q hk];exact hs)⟩) ih e3]
theorem C0C (h:CSim ts ts' ns ns' R):∀j,(∀a b a' b',R a a'→R b b'→((M4 ts ns j).getD a 0=(M4 ts ns j).getD b 0↔(M4 ts' ns' j).getD a' 0=(M4 ts' ns' j).getD b' 0)):=by
 intro j
 induction j with
 | zero =>
   intro a b a' b' ha hb
   obtain⟨a1,a2,a3⟩:=h.node a a' ha
   obtain⟨b1,b2,b3⟩:=h.node b b' hb
   show (P9 (J7 ts ns) ns.length).getD a 0=(P9 (J7 ts ns) ns.length).getD b 0↔(P9 (J7 ts' ns') ns'.length).getD a' 0=(P9 (J7 ts' ns') ns'.length).getD b' 0
   rw[X1 a1 b1,X1 a2 b2];unfold J7;rw[a3.key,b3.key]
 | succ j ih =>
   intro a b a' b' ha hb
   obtain⟨a1,a2,a3⟩:=h.node a a' ha
   obtain⟨b1,b2,b3⟩:=h.node b b' hb
   show (P9 (Q6 ts ns (M4 ts ns j)) ns.length).getD a 0=(P9 (Q6 ts ns (M4 ts ns j)) ns.length).getD b 0↔(P9 (Q6 ts' ns' (M4 ts' ns' j)) ns'.length).getD a' 0=(P9 (Q6 ts' ns' (M4 ts' ns' j)) ns'.length).getD b' 0
   rw[X1 a1 b1,X1 a2 b2];exact⟨B79 h (fun u v u' v' hu hv=>(ih u v u' v' hu hv).1) ha hb,B79 h.inv (fun u v u' v' hu hv=>(ih u' v' u v hu hv).2) ha hb⟩
theorem B6S {j:Nat} (hj:ns.length≤j):M4 ts ns j=H1 ts ns:=by
 obtain⟨k,rfl⟩:∃k,j=ns.length+k:=⟨j - ns.length,by omega⟩
 exact B0Y (j:=ns.length) (show P9 (Q6 ts ns (H1 ts ns)) ns.length=H1 ts ns from A5V) k
theorem B1v (h:CSim ts ts' ns ns' R) {a b a' b':Nat} (ha:R a a') (hb:R b b'):(H1 ts ns).getD a 0=(H1 ts ns).getD b 0↔(H1 ts' ns').getD a' 0=(H1 ts' ns').getD b' 0:=by
 have:=C0C h (ns.length+ns'.length) a b a' b' ha hb
 rwa [B6S (by omega),B6S (by omega)] at this
end
/-! Two patches together. -/
theorem B1j {n:Nat} {f:Int} (hn:n≤24) (hf:0≤f∧f≤24):j7 n f=f+n:=by unfold j7;rw[G9 (by omega)]
section
variable {p q:A6} (hp:C7 p=true) (hq:C7 q=true)
abbrev A84 (p q:A6):List (List Int):=(S9 p q).2.1
abbrev A5K (p q:A6):List A4:=(S9 p q).2.2.1
theorem A4k:(A5K p q).length=p.2.2.1.length+q.2.2.1.length:=by simp[A5K,S9]
theorem B9Q {i:Nat} (hi:i < p.2.2.1.length):(A5K p q).getD i n0=p.2.2.1.getD i n0:=by
 show (p.2.2.1++_).getD i n0=_
 rw[List.getD_eq_getElem?_getD,List.getElem?_append_left hi,←List.getD_eq_getElem?_getD]
theorem B8q {c:Nat} (hc:c < q.2.2.1.length):(A5K p q).getD (p.2.2.1.length+c) n0=M2 p.2.2.1.length p.2.1.length (q.2.2.1.getD c n0):=by
 show (p.2.2.1++_).getD _ n0=_
 rw[List.getD_eq_getElem?_getD,List.getElem?_append_right (by omega),Nat.add_sub_cancel_left]
 simp[List.getD,hc]
include hp in
theorem B9G {i:Nat} (hi:i < p.2.2.1.length):V3 (A84 p q) (p.2.2.1.getD i n0)=V3 p.2.1 (p.2.2.1.getD i n0):=by
 have h13:=((L3 (A9 hp).1).2 _ (B9 (d:=n0) hi)).1
 generalize p.2.2.1.getD i n0=x at *
 by_cases c:x.1=13
 · have:=h13 c
   rw[A0r c,A0r c]
   have e:(A84 p q).getD x.2.1.toNat []=p.2.1.getD x.2.1.toNat []:=by
    show (p.2.1++q.2.1).getD _ []=_
    rw[List.getD_eq_getElem?_getD,List.getElem?_append_left (by omega),←List.getD_eq_getElem?_getD]
   rw[e]
 · rw[A0w c,A0w c]
include hp hq in
theorem B98 {c:Nat} (hc:c < q.2.2.1.length):V3 (A84 p q) (M2 p.2.2.1.length p.2.1.length (q.2.2.1.getD c n0))=V3 q.2.1 (q.2.2.1.getD c n0):=by
 have h13:=((L3 (A9 hq).1).2 _ (B9 (d:=n0) hc)).1
 have tp:=(a7 (A8 (A9 hp).1).2.2.1).1
 have tq:=(a7 (A8 (A9 hq).1).2.2.1).1
 generalize q.2.2.1.getD c n0=x at *
 by_cases e:x.1=13
 · have:=h13 e
   have e1:(M2 p.2.2.1.length p.2.1.length x).1=13:=e
   rw[A0r e1,A0r e]
   have e2:(M2 p.2.2.1.length p.2.1.length x).2.1=x.2.1+p.2.1.length:=by
    show (match decide (x.1=13) with|true=>j7 p.2.1.length x.2.1|false=>x.2.1)=_
    rw[decide_eq_true e];exact B1j (by omega) (by omega)
   have e3:(A84 p q).getD (M2 p.2.2.1.length p.2.1.length x).2.1.toNat []=q.2.1.getD x.2.1.toNat []:=by
    rw[e2];show (p.2.1++q.2.1).getD _ []=_
    rw[List.getD_eq_getElem?_getD,List.getElem?_append_right (by omega),←List.getD_eq_getElem?_getD]
    congr 1
    omega
   rw[e3];rfl
 · have e1:¬(M2 p.2.2.1.length p.2.1.length x).1=13:=e
   rw[A0w e1,A0w e];unfold M2;rw[decide_eq_false e]
include hp hq in
theorem A8Z {c:Nat} (hc:c < q.2.2.1.length) {k:Nat} (hk:k < (q.2.2.1.getD c n0).2.2.2.length):∃a:Nat,(q.2.2.1.getD c n0).2.2.2.getD k 0=(a:Int)∧a < q.2.2.1.length∧(M2 p.2.2.1.length p.2.1.length (q.2.2.1.getD c n0)).2.2.2.getD k 0=((p.2.2.1.length+a:Nat):Int):=by
 obtain⟨h1,_⟩:=l8 (A9 hq).1 hc
 obtain⟨a,e1,e2⟩:=Y8 h1 hk
 have np:=(A8 (A9 hp).1).1
 have nq:=(A8 (A9 hq).1).1
 refine⟨a,e1,e2,?_⟩
 have e3:(M2 p.2.2.1.length p.2.1.length (q.2.2.1.getD c n0)).2.2.2.getD k 0=j7 p.2.2.1.length ((q.2.2.1.getD c n0).2.2.2.getD k 0):=by
  have key:∀(l:List Int),k < l.length→(l.map (j7 p.2.2.1.length)).getD k 0=j7 p.2.2.1.length (l.getD k 0):=fun l h=>by simp[List.getD,h]
  exact key _ hk
 rw[e3,e1,B1j np (by omega)]
 omega
theorem A2A {n t:Int} {x:A4}:(M2 n t x).2.2.2.length=x.2.2.2.length:=by simp[M2]
def C34 (n:Nat) (S T:Nat→Nat→Prop) (a b:Nat):Prop:=(a < n∧S a b)∨∃c,a=n+c∧T c b
include hp hq in
theorem B16 {ts':List (List Int)} {ns':List A4} {S T:Nat→Nat→Prop} (h1:∀a b,S a b→a < p.2.2.1.length∧b < ns'.length∧NSim p.2.1 ts' S (p.2.2.1.getD a n0) (ns'.getD b n0)) (h2:∀a b,T a b→a < q.2.2.1.length∧b < ns'.length∧NSim q.2.1 ts' T (q.2.2.1.getD a n0) (ns'.getD b n0))
 (l2:∀a,a < ns'.length→I3 (ns'.getD a n0)=true→(ns'.getD a n0).2.2.2.length=2):CSim (A84 p q) ts' (A5K p q) ns' (C34 p.2.2.1.length S T):=by
 refine⟨fun a b r=>?_,fun a ha hs=>((B0c hp hq).2 _ (B9 (d:=n0) ha)).2.2.2 hs,l2⟩
 rw[A4k];rcases r with⟨ha,r⟩|⟨c,rfl,r⟩
 · obtain⟨a1,a2,a3⟩:=h1 a b r
   refine⟨by omega,a2,?_⟩
   rw[B9Q ha];have mo:∀u v,S u v→C34 p.2.2.1.length S T u v:=fun u v r=>.inl ⟨(h1 u v r).1,r⟩
   refine⟨(B9G hp ha).trans a3.key,?_⟩
   rcases a3.ins with h|⟨hs,h⟩
   · exact .inl (h.mono mo)
   · exact .inr ⟨hs,h.mono mo⟩
 · obtain⟨c1,c2,c3⟩:=h2 c b r
   refine⟨by omega,c2,?_⟩
   rw[B8q c1];have mo:∀u v,T u v→C34 p.2.2.1.length S T (p.2.2.1.length+u) v:=fun u v r=>.inr ⟨u,rfl,r⟩
   refine⟨(B98 hp hq c1).trans c3.key,?_⟩
   rcases c3.ins with⟨e,h⟩|⟨hs,l1,l2',a,b',c',d,q1,q2,q3,q4,r1,r2⟩
   · left
     refine⟨by rw[A2A];exact e,fun k hk=>?_⟩
     rw[A2A] at hk;obtain⟨u,v,e1,e2,r'⟩:=h k hk
     obtain⟨a,e3,_,e4⟩:=A8Z hp hq c1 hk
     have:u=a:=by omega
     subst this;exact⟨_,v,e4,e2,mo u v r'⟩
   · right
     obtain⟨a',e3,_,e4⟩:=A8Z hp hq c1 (k:=0) (by omega)
     obtain⟨b'',e5,_,e6⟩:=A8Z hp hq c1 (k:=1) (by omega)
     have e7:a=a':=by omega
     have e8:b'=b'':=by omega
     subst e7 e8
     exact⟨hs,by rw[A2A];exact l1,l2',_,_,c',d,e4,e6,q3,q4,mo _ _ r1,mo _ _ r2⟩
end
end Go.Proofs.YtflobmmbhaofbaaGreat
