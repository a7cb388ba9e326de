/-
  Texts of this claim, joined (part 11). No condition beyond those of the theorems.
-/
import Derived.Test.YtgaogcnfijbahaaGreatQ05
import Derived.Test.YtgaogcnfijbahaaGreatQ02
namespace Go.Proofs.YtgaogcnfijbahaaGreat
open Go.RowKit
set_option linter.unusedSimpArgs false
set_option linter.unusedVariables false
section
variable {α:Type}
def itI (f:Nat→α→DM α):Nat→α→DM α
 | 0,x=>fun s=>(x,s)
 | k+1,x=>bnd (itI f k x) (f k)
theorem B0A {f:Nat→α→DM α} {k:Nat} {x y:α} {s s':W5} (h:itI f k x s=(y,s')):itI f (k+1) x s=f k y s':=L7 h
theorem Cost.itI {c:Nat} {f:Nat→α→DM α} (h:∀i x,Cost c (f i x)) (k:Nat) (x:α):Cost (c * k) (itI f k x):=by
 induction k with
 | zero=>exact Cost.pure x
 | succ k ih=>rw[Nat.mul_succ];exact ih.bnd (h k)
end
theorem A9O (li:Bool):0 < (z0 li).length:=by cases li<;>decide
theorem B7J {li:Bool} {x:Int} (h:x∈z0 li):1≤x∧x≤17:=by
 cases li<;>simp[z0] at h<;>omega
def A5G (li:Bool):DM (List (List Int)):=fun s=>match li with|true=>([],s)|false=>B3a s
theorem A44 (li:Bool):Cost 102 (A5G li):=by
 cases li
 · exact C0g
 · exact(Cost.pure ([]:List (List Int))).le (by omega)
theorem C24 {n:Nat} {s s':W5} {ts:List (List Int)} (hs:srcOk n s) (hn:2≤n) (e:B3a s=(ts,s')):ts.length≤2:=by
 have h1:=A4X (n:=n - 2) (m:=2) (s:=s) (by rw[Nat.sub_add_cancel hn];exact hs)
 have h3:=h1.2.1 (by omega)
 have h5:ts=(R7 A8L (1+(E5 2 s).1).toNat [] (E5 2 s).2).1:=(congrArg Prod.fst e).symm
 rw[h5,B5d];simp only[List.length_nil];omega
theorem A9T {n:Nat} {li:Bool} {s s':W5} {ts:List (List Int)} (hs:srcOk n s) (hn:2≤n) (e:A5G li s=(ts,s')):ts.length≤2:=by
 cases li
 · exact C24 hs hn e
 · simp only[A5G,Prod.mk.injEq] at e
   rw[←e.1];simp
def B4f (inp bl k0:Int):Bool:=(decide (k0=1) && decide (inp=0)) || (decide (bl=0) && decide (0 < arL.getD k0.toNat 0))
theorem C4R {inp bl k0:Int} (h:(k0=1∧inp=0)∨(bl=0∧0 < arL.getD k0.toNat 0)):B4f inp bl k0=true:=by
 simp only[B4f,Bool.or_eq_true,Bool.and_eq_true,decide_eq_true_eq];exact h
theorem C6A {inp bl k0:Int} (h:¬((k0=1∧inp=0)∨(bl=0∧0 < arL.getD k0.toNat 0))):B4f inp bl k0=false:=by
 rw[←Bool.not_eq_true];intro e;apply h
 simpa only [B4f,Bool.or_eq_true,Bool.and_eq_true,decide_eq_true_eq] using e
def A3n (li:Bool) (inp bl k0:Int):Int:=match B4f inp bl k0 with
 | true=>(match li with|true=>1|false=>2)
 | false=>k0
theorem C0O {li:Bool} {inp bl k0:Int} (h:1≤k0∧k0≤17):1≤A3n li inp bl k0∧A3n li inp bl k0≤17:=by
 unfold A3n
 split
 · cases li<;>simp
 · exact h
def A4r (bl:Int):DM Int:=bnd (E5 2) fun v s=>(A0f 0 (bl - 1 - v),s)
def A79 (n:Int):DM Int:=bnd (E5 3) fun v s=>(A0f 0 (n - 1 - v),s)
theorem A99 (bl:Int):Cost 2 (A4r bl):=(H0 2).bnd fun _=>Cost.pure _
theorem B1o (n:Int):Cost 2 (A79 n):=(H0 3).bnd fun _=>Cost.pure _
def inA (inp kd:Int) (nd:A6):DM A6:=fun s=>match decide (kd=1) with
 | true=>bnd (E5 inp) (fun v s=>((nd.1,v,nd.2.2.1,nd.2.2.2),s)) s
 | false=>(nd,s)
theorem B65 (inp kd:Int) (nd:A6):Cost 2 (inA inp kd nd):=Cost.ite ((H0 inp).bnd (b:=0) fun _=>Cost.pure _) ((Cost.pure nd).le (by omega))
def A9I (o:Bool) (bl kd:Int):Bool:=o && (decide (0 < bl) && (!decide (kd=1) && !decide (kd=2)))
def A84 (kd tl bl:Int) (n1:A6):DM A6:=bnd (A1H 3) fun o s=>match A9I o bl kd with
 | true=>bnd (z6 kd tl 1) (fun n2 s=>bnd (R7 (I8 (A4r bl)) n2.2.2.2.length []) (fun fr s=>((n2.1,n2.2.1,n2.2.2.1,fr),s)) s) s
 | false=>(n1,s)
def A1K (nd:A6):Prop:=nd.2.2.2.length=(arL.getD nd.1.toNat 0).toNat
theorem A8P {nd:A6} (h:A1K nd):nd.2.2.2.length≤3:=by have:=A9N nd.1.toNat;unfold A1K at h;omega
theorem C7Q {nd:A6} (h:A1K nd) (k:nd.1=6):nd.2.2.2.length=1:=by unfold A1K at h;rw[k] at h;exact h
theorem B0N {kd tl bl:Int} {n1:A6}:Cost 28 (A84 kd tl bl n1):=by
 unfold A84;refine(A0b 3).bnd (b:=26) fun o=>Cost.ite ?_ ((Cost.pure n1).le (by omega))
 intro n s hs
 have h1:=(A0H kd tl 1) (n+6) s (hs.le (by omega))
 have h2:=(A5z (kd:=kd) (tb:=tl) (bl:=1) (s:=s) (nd:=(z6 kd tl 1 s).1) (s':=(z6 kd tl 1 s).2) rfl).1
 have h3:=A9N kd.toNat
 exact Cost.it (Q5 (A99 bl)) (z6 kd tl 1 s).1.2.2.2.length [] n _ (h1.le (by omega))
theorem B66 {kd tl bl:Int} {n1 nd:A6} {s s':W5} (h:A1K n1) (e:A84 kd tl bl n1 s=(nd,s')):A1K nd:=by
 unfold A84 bnd at e;simp only at e
 split at e
 · have h2:=A5z (kd:=kd) (tb:=tl) (bl:=1) (s:=(A1H 3 s).2) (nd:=(z6 kd tl 1 (A1H 3 s).2).1) (s':=(z6 kd tl 1 (A1H 3 s).2).2) rfl
   simp only[Prod.mk.injEq] at e
   rw[←e.1];unfold A1K;simp only
   rw[A08,h2.2,h2.1];simp
 · simp only[Prod.mk.injEq] at e
   rw[←e.1];exact h
theorem C3Y {inp kd:Int} {n1 nd:A6} {s s':W5} (h:A1K n1) (e:inA inp kd n1 s=(nd,s')):A1K nd:=by
 unfold inA bnd at e
 split at e
 · simp only[Prod.mk.injEq] at e;rw[←e.1];exact h
 · simp only[Prod.mk.injEq] at e;rw[←e.1];exact h
theorem B48 {kd tb bl:Int} {s s':W5} {nd:A6} (e:z6 kd tb bl s=(nd,s')):A1K nd:=by
 have h:=A5z e
 unfold A1K;rw[h.2];exact h.1
def M3 (li:Bool) (inp tl:Int) (ns:List A6):DM (List A6):=bnd (J0 (z0 li)) fun k0 s =>
 bnd (z6 (A3n li inp ns.length k0) tl ns.length) (fun nd s=>bnd (inA inp (A3n li inp ns.length k0) nd) (fun n1 s=>bnd (A84 (A3n li inp ns.length k0) tl ns.length n1) (fun x s=>(ns++[x],s)) s) s) s
theorem A4y (li:Bool) (inp tl:Int) (ns:List A6):Cost 52 (M3 li inp tl ns) :=
 (N4 _).bnd (b:=50) fun k0=>((A0H _ _ _).bnd (b:=30) fun nd=>(B65 _ _ _).bnd (b:=28) fun n1=>B0N.bnd (b:=0) fun x=>Cost.pure _)
theorem B5A {li:Bool} {inp tl:Int} {ns ms:List A6} {s s':W5} (h:∀nd∈ns,A1K nd) (e:M3 li inp tl ns s=(ms,s')):ms.length=ns.length+1∧∀nd∈ms,A1K nd:=by
 unfold M3 bnd at e;simp only[Prod.mk.injEq] at e
 rw[←e.1];refine⟨by simp,fun nd hd=>?_⟩
 rcases List.mem_append.1 hd with hd|hd
 · exact h nd hd
 · simp only[List.mem_singleton] at hd
   rw[hd];exact B66 (C3Y (B48 rfl) rfl) rfl
theorem A9z {li:Bool} {inp tl:Int} {s:W5}:∀(k:Nat) (ms:List A6) (s':W5),R7 (M3 li inp tl) k [] s=(ms,s')→ms.length=k∧∀nd∈ms,A1K nd:=by
 intro k
 induction k with
 | zero=>intro ms s' e;simp only[R7,Prod.mk.injEq] at e;rw[←e.1];exact⟨rfl,fun nd hd=>by cases hd⟩
 | succ k ih =>
   intro ms s' e
   have h:=ih _ _ (Prod.eta (R7 (M3 li inp tl) k [] s)).symm
   have h2:=B5A h.2 (show M3 li inp tl (R7 (M3 li inp tl) k [] s).1 (R7 (M3 li inp tl) k [] s).2=(ms,s') from e)
   exact⟨by rw[h2.1,h.1],h2.2⟩
def C7P (nd:A6) (v:Int):A6:=(nd.1,nd.2.1,nd.2.2.1,nd.2.2.2.set 0 v)
def R5 (n:Int) (i:Nat) (ns:List A6):DM (List A6):=fun s=>match decide ((ns.getD i n0).1=6) with
 | true => bnd (A1H 2) (fun o s => match o with
   | true=>bnd (E5 n) (fun v s=>(ns.set i (C7P (ns.getD i n0) v),s)) s
   | false=>(ns,s)) s
 | false=>(ns,s)
theorem A7w (n:Int) (i:Nat) (ns:List A6):Cost 4 (R5 n i ns) :=
 Cost.ite ((A0b 2).bnd (b:=2) fun o=>Cost.ite ((H0 n).bnd (b:=0) fun _=>Cost.pure _) ((Cost.pure ns).le (by omega))) ((Cost.pure ns).le (by omega))
theorem C1C {n:Int} {i:Nat} {ns ms:List A6} {s s':W5} (h:∀nd∈ns,A1K nd) (e:R5 n i ns s=(ms,s')):ms.length=ns.length∧∀nd∈ms,A1K nd:=by
 unfold R5 bnd at e
 split at e
 · rename_i h6
   have h6:=of_decide_eq_true h6
   simp only at e
   split at e
   · simp only[Prod.mk.injEq] at e
     rw[←e.1];refine⟨List.length_set,fun nd hd=>?_⟩
     rcases List.mem_or_eq_of_mem_set hd with hd|rfl
     · exact h nd hd
     · by_cases hi:i < ns.length
       · have:=h _ (D6 (d:=n0) hi)
         unfold A1K at this ⊢
         simp only[C7P,List.length_set];exact this
       · exfalso;rw[List.getD_eq_getElem?_getD,List.getElem?_eq_none (by omega)] at h6
         simp[n0] at h6
   · simp only[Prod.mk.injEq] at e;rw[←e.1];exact⟨rfl,h⟩
 · simp only[Prod.mk.injEq] at e;rw[←e.1];exact⟨rfl,h⟩
theorem B8m {n:Int} {ns:List A6} {s:W5} (h0:∀nd∈ns,A1K nd):∀(k:Nat) (ms:List A6) (s':W5),itI (R5 n) k ns s=(ms,s')→ms.length=ns.length∧∀nd∈ms,A1K nd:=by
 intro k
 induction k with
 | zero=>intro ms s' e;simp only[itI,Prod.mk.injEq] at e;rw[←e.1];exact⟨rfl,h0⟩
 | succ k ih =>
   intro ms s' e
   have h:=ih _ _ (Prod.eta (itI (R5 n) k ns s)).symm
   have h2:=C1C h.2 (show R5 n k (itI (R5 n) k ns s).1 (itI (R5 n) k ns s).2=(ms,s') from e)
   exact⟨by rw[h2.1,h.1],h2.2⟩
def A3j (inp out most:Int) (li:Bool):DM A3:=bnd (A5G li) fun ts s=>bnd (E5 most) (fun x s=>bnd (R7 (M3 li inp ts.length) (1+x).toNat []) (fun ns s =>
 bnd (itI (R5 ns.length) ns.length ns) (fun ms s=>bnd (R7 (I8 (A79 ns.length)) out.toNat []) (fun os s=>((inp,ts,ms,os),s)) s) s) s) s
theorem C1n {A F:List Int} {j:Nat} {x:Int} (h:A.length=j) (hj:j < F.length):(A++F.drop j).set j x=A++[x]++F.drop (j+1):=by
 rw[List.set_append_right _ _ (by omega),h,Nat.sub_self,List.drop_eq_getElem_cons hj,List.set_cons_zero,List.append_assoc];rfl
theorem C5i {li:Bool} {inp bl k0 kd:Int} (e:A3n li inp bl k0=kd) (h:(k0=1∧inp=0)∨(bl=0∧0 < arL.getD k0.toNat 0)):(li=true→kd=1)∧(li=false→kd=2):=by
 unfold A3n at e;rw[C4R h] at e
 constructor<;>(intro hl;subst hl;exact e.symm)
theorem C5L {li:Bool} {inp bl k0 kd:Int} (e:A3n li inp bl k0=kd) (h:¬((k0=1∧inp=0)∨(bl=0∧0 < arL.getD k0.toNat 0))):k0=kd:=by
 unfold A3n at e;rw[C6A h] at e;exact e
theorem C52 {bl kd:Int} (h1:0 < bl) (h2:¬kd=1) (h3:¬kd=2):A9I true bl kd=true:=by
 unfold A9I;rw[decide_eq_true h1,decide_eq_false h2,decide_eq_false h3];rfl
theorem C3e {o:Bool} {bl kd:Int} (h1:¬0 < bl∨kd=1∨kd=2):A9I o bl kd=false:=by
 unfold A9I;rcases h1 with h|h|h
 · rw[decide_eq_false h];simp
 · rw[decide_eq_true h];simp
 · rw[decide_eq_true h];simp
def B3w (S':List Nat):CV→CV
 | .rd S e t xs=>match S.all (fun n=>S'.contains n) with|true=>.rd S' e t xs|false=>.rd S e t xs
 | c=>c
theorem B9z {R:Rz} {w:World} {S':List Nat} {c:CV} {u:Value} (h:VRc R w c u):VRc R w (B3w S' c) u:=by
 cases c with
 | rd S e t xs =>
   simp only[B3w]
   split
   · rename_i hs
     refine Rd.mono h fun b hb=>?_
     rcases hb with hb|hb
     · exact .inl hb
     · exact .inr (by simpa using List.all_eq_true.1 hs _ hb)
   · exact h
 | _=>exact h
def B8e (k:Nat) (S':List Nat):Ob→Ob
 | .box l=>match l[k]? with|some c=>.box (l.set k (B3w S' c))|none=>.box l
 | o=>o
def A6j (n k:Nat) (S':List Nat):List (Nat × Ob)→List (Nat × Ob)
 | []=>[]
 | p::l=>(if p.1=n then (p.1,B8e k S' p.2) else p)::A6j n k S' l
def St.weak (σ:St) (n k:Nat) (S':List Nat):St:=⟨σ.tm,A6j n k S' σ.ob⟩
theorem VRs.setW {R:Rz} {w:World} {c:CV}:∀{l:List CV} {us:List Value} {k:Nat},VRs R w l us→(∀u,us[k]?=some u→VRc R w c u)→VRs R w (l.set k c) us:=by
 intro l
 induction l with
 | nil=>intro us k h _;exact h
 | cons d l ih =>
   intro us k h hc
   obtain⟨u,us',rfl,h1,h2⟩:=h;cases k with
   | zero=>exact⟨u,us',rfl,hc u rfl,h2⟩
   | succ k=>exact⟨u,us',rfl,h1,ih h2 fun v hv=>hc v (by simpa using hv)⟩
theorem C5R (σ:St) (n k:Nat) (S':List Nat):Wk σ (σ.weak n k S'):=fun R0 w0 R a w hs=>by
 have hC:∀p o,OR R w p o→OR R w p (B8e k S' o):=by
  intro p o ho
  cases o with
  | row e t xs S=>exact ho
  | tree e t xs h=>exact ho
  | box l =>
    simp only[B8e]
    split
    · rename_i c hc
      obtain⟨us,T,h1,h2,h3⟩:=ho;refine⟨us,T,h1,h2,h3.setW fun u hu=>B9z ?_⟩
      obtain⟨u',hu',hv⟩:=h3.get k hc
      rw[hu] at hu';cases hu';exact hv
    · exact ho
 have hN:∀l,obsOk R w l→obsOk R w (A6j n k S' l):=by
  intro l
  induction l with
  | nil=>intro _ p hp;cases hp
  | cons q l ih =>
    intro hl p hp
    simp only[A6j,List.mem_cons] at hp
    rcases hp with rfl|hp
    · split
      · exact hC _ _ (hl q List.mem_cons_self)
      · exact hl q List.mem_cons_self
    · exact ih (fun p hp=>hl p (List.mem_cons_of_mem _ hp)) p hp
 exact⟨R,hs.size,hs.tm,hN _ hs.ob,hs.os,hs.tape,hs.output,hs.grow,hs.keep,hs.pl,hs.defers⟩
attribute [go_sem] B3w B8e A6j St.weak
end Go.Proofs.YtgaogcnfijbahaaGreat
