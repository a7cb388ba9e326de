/-
  Texts of this claim, joined (part 11). No condition beyond those of the theorems.
-/
import Derived.Test.YtflobmmbhaofbaaGreatQ05
import Derived.Test.YtflobmmbhaofbaaGreatQ02
namespace Go.Proofs.YtflobmmbhaofbaaGreat
open Go.RowKit
set_option linter.unusedSimpArgs false
set_option linter.unusedVariables false
section
variable {α:Type}
def itI (f:Nat→α→DM α):Nat→α→DM α
 | 0,x=>fun s=>(x,s)
 | k+1,x=>bnd (itI f k x) (f k)
theorem U6 {f:Nat→α→DM α} {k:Nat} {x y:α} {s s':T4} (h:itI f k x s=(y,s')):itI f (k+1) x s=f k y s':=M5 h
theorem Cost.itI {c:Nat} {f:Nat→α→DM α} (h:∀i x,Cost c (f i x)) (k:Nat) (x:α):Cost (c * k) (itI f k x):=by
 induction k with
 | zero=>exact Cost.pure x
 | succ k ih=>rw[Nat.mul_succ];exact ih.bnd (h k)
end
theorem A9M (li:Bool):0 < (x7 li).length:=by cases li<;>decide
theorem B5p {li:Bool} {x:Int} (h:x∈x7 li):1≤x∧x≤17:=by
 cases li<;>simp[x7] at h<;>omega
def A4O (li:Bool):DM (List (List Int)):=fun s=>match li with|true=>([],s)|false=>B12 s
theorem A32 (li:Bool):Cost 102 (A4O li):=by
 cases li
 · exact B7p
 · exact(Cost.pure ([]:List (List Int))).le (by omega)
theorem C0e {n:Nat} {s s':T4} {ts:List (List Int)} (hs:srcOk n s) (hn:2≤n) (e:B12 s=(ts,s')):ts.length≤2:=by
 have h1:=A3a (n:=n - 2) (m:=2) (s:=s) (by rw[Nat.sub_add_cancel hn];exact hs)
 have h3:=h1.2.1 (by omega)
 have h5:ts=(X8 A7B (1+(F6 2 s).1).toNat [] (F6 2 s).2).1:=(congrArg Prod.fst e).symm
 rw[h5,B4K];simp only[List.length_nil];omega
theorem A83 {n:Nat} {li:Bool} {s s':T4} {ts:List (List Int)} (hs:srcOk n s) (hn:2≤n) (e:A4O li s=(ts,s')):ts.length≤2:=by
 cases li
 · exact C0e hs hn e
 · simp only[A4O,Prod.mk.injEq] at e
   rw[←e.1];simp
def B2q (inp bl k0:Int):Bool:=(decide (k0=1) && decide (inp=0)) || (decide (bl=0) && decide (0 < arL.getD k0.toNat 0))
theorem C2e {inp bl k0:Int} (h:(k0=1∧inp=0)∨(bl=0∧0 < arL.getD k0.toNat 0)):B2q inp bl k0=true:=by
 simp only[B2q,Bool.or_eq_true,Bool.and_eq_true,decide_eq_true_eq];exact h
theorem C1z {inp bl k0:Int} (h:¬((k0=1∧inp=0)∨(bl=0∧0 < arL.getD k0.toNat 0))):B2q inp bl k0=false:=by
 rw[←Bool.not_eq_true];intro e;apply h
 simpa only [B2q,Bool.or_eq_true,Bool.and_eq_true,decide_eq_true_eq] using e
def A2T (li:Bool) (inp bl k0:Int):Int:=match B2q inp bl k0 with
 | true=>(match li with|true=>1|false=>2)
 | false=>k0
theorem B8Q {li:Bool} {inp bl k0:Int} (h:1≤k0∧k0≤17):1≤A2T li inp bl k0∧A2T li inp bl k0≤17:=by
 unfold A2T
 split
 · cases li<;>simp
 · exact h
def A3j (bl:Int):DM Int:=bnd (F6 2) fun v s=>(A0I 0 (bl - 1 - v),s)
def A6b (n:Int):DM Int:=bnd (F6 3) fun v s=>(A0I 0 (n - 1 - v),s)
theorem A8d (bl:Int):Cost 2 (A3j bl):=(H4 2).bnd fun _=>Cost.pure _
theorem B04 (n:Int):Cost 2 (A6b n):=(H4 3).bnd fun _=>Cost.pure _
def inA (inp kd:Int) (nd:A4):DM A4:=fun s=>match decide (kd=1) with
 | true=>bnd (F6 inp) (fun v s=>((nd.1,v,nd.2.2.1,nd.2.2.2),s)) s
 | false=>(nd,s)
theorem B3g (inp kd:Int) (nd:A4):Cost 2 (inA inp kd nd):=Cost.ite ((H4 inp).bnd (b:=0) fun _=>Cost.pure _) ((Cost.pure nd).le (by omega))
def A7x (o:Bool) (bl kd:Int):Bool:=o && (decide (0 < bl) && (!decide (kd=1) && !decide (kd=2)))
def A70 (kd tl bl:Int) (n1:A4):DM A4:=bnd (U4 3) fun o s=>match A7x o bl kd with
 | true=>bnd (x8 kd tl 1) (fun n2 s=>bnd (X8 (M6 (A3j bl)) n2.2.2.2.length []) (fun fr s=>((n2.1,n2.2.1,n2.2.2.1,fr),s)) s) s
 | false=>(n1,s)
def A1b (nd:A4):Prop:=nd.2.2.2.length=(arL.getD nd.1.toNat 0).toNat
theorem A7N {nd:A4} (h:A1b nd):nd.2.2.2.length≤3:=by have:=A95 nd.1.toNat;unfold A1b at h;omega
theorem C3D {nd:A4} (h:A1b nd) (k:nd.1=6):nd.2.2.2.length=1:=by unfold A1b at h;rw[k] at h;exact h
theorem A8z {kd tl bl:Int} {n1:A4}:Cost 28 (A70 kd tl bl n1):=by
 unfold A70;refine(a6 3).bnd (b:=26) fun o=>Cost.ite ?_ ((Cost.pure n1).le (by omega))
 intro n s hs
 have h1:=(A09 kd tl 1) (n+6) s (hs.le (by omega))
 have h2:=(A4t (kd:=kd) (tb:=tl) (bl:=1) (s:=s) (nd:=(x8 kd tl 1 s).1) (s':=(x8 kd tl 1 s).2) rfl).1
 have h3:=A95 kd.toNat
 exact Cost.it (W4 (A8d bl)) (x8 kd tl 1 s).1.2.2.2.length [] n _ (h1.le (by omega))
theorem B3R {kd tl bl:Int} {n1 nd:A4} {s s':T4} (h:A1b n1) (e:A70 kd tl bl n1 s=(nd,s')):A1b nd:=by
 unfold A70 bnd at e;simp only at e
 split at e
 · have h2:=A4t (kd:=kd) (tb:=tl) (bl:=1) (s:=(U4 3 s).2) (nd:=(x8 kd tl 1 (U4 3 s).2).1) (s':=(x8 kd tl 1 (U4 3 s).2).2) rfl
   simp only[Prod.mk.injEq] at e
   rw[←e.1];unfold A1b;simp only
   rw[A0x,h2.2,h2.1];simp
 · simp only[Prod.mk.injEq] at e
   rw[←e.1];exact h
theorem B9Z {inp kd:Int} {n1 nd:A4} {s s':T4} (h:A1b n1) (e:inA inp kd n1 s=(nd,s')):A1b nd:=by
 unfold inA bnd at e
 split at e
 · simp only[Prod.mk.injEq] at e;rw[←e.1];exact h
 · simp only[Prod.mk.injEq] at e;rw[←e.1];exact h
theorem B0k {kd tb bl:Int} {s s':T4} {nd:A4} (e:x8 kd tb bl s=(nd,s')):A1b nd:=by
 have h:=A4t e
 unfold A1b;rw[h.2];exact h.1
def M0 (li:Bool) (inp tl:Int) (ns:List A4):DM (List A4):=bnd (I9 (x7 li)) fun k0 s =>
 bnd (x8 (A2T li inp ns.length k0) tl ns.length) (fun nd s=>bnd (inA inp (A2T li inp ns.length k0) nd) (fun n1 s=>bnd (A70 (A2T li inp ns.length k0) tl ns.length n1) (fun x s=>(ns++[x],s)) s) s) s
theorem A3o (li:Bool) (inp tl:Int) (ns:List A4):Cost 52 (M0 li inp tl ns) :=
 (N4 _).bnd (b:=50) fun k0=>((A09 _ _ _).bnd (b:=30) fun nd=>(B3g _ _ _).bnd (b:=28) fun n1=>A8z.bnd (b:=0) fun x=>Cost.pure _)
theorem B4J {li:Bool} {inp tl:Int} {ns ms:List A4} {s s':T4} (h:∀nd∈ns,A1b nd) (e:M0 li inp tl ns s=(ms,s')):ms.length=ns.length+1∧∀nd∈ms,A1b nd:=by
 unfold M0 bnd at e;simp only[Prod.mk.injEq] at e
 rw[←e.1];refine⟨by simp,fun nd hd=>?_⟩
 rcases List.mem_append.1 hd with hd|hd
 · exact h nd hd
 · simp only[List.mem_singleton] at hd
   rw[hd];exact B3R (B9Z (B0k rfl) rfl) rfl
theorem A97 {li:Bool} {inp tl:Int} {s:T4}:∀(k:Nat) (ms:List A4) (s':T4),X8 (M0 li inp tl) k [] s=(ms,s')→ms.length=k∧∀nd∈ms,A1b nd:=by
 intro k
 induction k with
 | zero=>intro ms s' e;simp only[X8,Prod.mk.injEq] at e;rw[←e.1];exact⟨rfl,fun nd hd=>by cases hd⟩
 | succ k ih =>
   intro ms s' e
   have h:=ih _ _ (Prod.eta (X8 (M0 li inp tl) k [] s)).symm
   have h2:=B4J h.2 (show M0 li inp tl (X8 (M0 li inp tl) k [] s).1 (X8 (M0 li inp tl) k [] s).2=(ms,s') from e)
   exact⟨by rw[h2.1,h.1],h2.2⟩
def C2v (nd:A4) (v:Int):A4:=(nd.1,nd.2.1,nd.2.2.1,nd.2.2.2.set 0 v)
def Q2 (n:Int) (i:Nat) (ns:List A4):DM (List A4):=fun s=>match decide ((ns.getD i n0).1=6) with
 | true => bnd (U4 2) (fun o s => match o with
   | true=>bnd (F6 n) (fun v s=>(ns.set i (C2v (ns.getD i n0) v),s)) s
   | false=>(ns,s)) s
 | false=>(ns,s)
theorem A6k (n:Int) (i:Nat) (ns:List A4):Cost 4 (Q2 n i ns) :=
 Cost.ite ((a6 2).bnd (b:=2) fun o=>Cost.ite ((H4 n).bnd (b:=0) fun _=>Cost.pure _) ((Cost.pure ns).le (by omega))) ((Cost.pure ns).le (by omega))
theorem B8P {n:Int} {i:Nat} {ns ms:List A4} {s s':T4} (h:∀nd∈ns,A1b nd) (e:Q2 n i ns s=(ms,s')):ms.length=ns.length∧∀nd∈ms,A1b nd:=by
 unfold Q2 bnd at e
 split at e
 · rename_i h6
   have h6:=of_decide_eq_true h6
   simp only at e
   split at e
   · simp only[Prod.mk.injEq] at e
     rw[←e.1];refine⟨List.length_set,fun nd hd=>?_⟩
     rcases List.mem_or_eq_of_mem_set hd with hd|rfl
     · exact h nd hd
     · by_cases hi:i < ns.length
       · have:=h _ (B9 (d:=n0) hi)
         unfold A1b at this ⊢
         simp only[C2v,List.length_set];exact this
       · exfalso;rw[List.getD_eq_getElem?_getD,List.getElem?_eq_none (by omega)] at h6
         simp[n0] at h6
   · simp only[Prod.mk.injEq] at e;rw[←e.1];exact⟨rfl,h⟩
 · simp only[Prod.mk.injEq] at e;rw[←e.1];exact⟨rfl,h⟩
theorem B78 {n:Int} {ns:List A4} {s:T4} (h0:∀nd∈ns,A1b nd):∀(k:Nat) (ms:List A4) (s':T4),itI (Q2 n) k ns s=(ms,s')→ms.length=ns.length∧∀nd∈ms,A1b nd:=by
 intro k
 induction k with
 | zero=>intro ms s' e;simp only[itI,Prod.mk.injEq] at e;rw[←e.1];exact⟨rfl,h0⟩
 | succ k ih =>
   intro ms s' e
   have h:=ih _ _ (Prod.eta (itI (Q2 n) k ns s)).symm
   have h2:=B8P h.2 (show Q2 n k (itI (Q2 n) k ns s).1 (itI (Q2 n) k ns s).2=(ms,s') from e)
   exact⟨by rw[h2.1,h.1],h2.2⟩
def A4U (inp out most:Int) (li:Bool):DM A6:=bnd (A4O li) fun ts s=>bnd (F6 most) (fun x s=>bnd (X8 (M0 li inp ts.length) (1+x).toNat []) (fun ns s =>
 bnd (itI (Q2 ns.length) ns.length ns) (fun ms s=>bnd (X8 (M6 (A6b ns.length)) out.toNat []) (fun os s=>((inp,ts,ms,os),s)) s) s) s) s
theorem B8k {A F:List Int} {j:Nat} {x:Int} (h:A.length=j) (hj:j < F.length):(A++F.drop j).set j x=A++[x]++F.drop (j+1):=by
 rw[List.set_append_right _ _ (by omega),h,Nat.sub_self,List.drop_eq_getElem_cons hj,List.set_cons_zero,List.append_assoc];rfl
theorem C1R {li:Bool} {inp bl k0 kd:Int} (e:A2T li inp bl k0=kd) (h:(k0=1∧inp=0)∨(bl=0∧0 < arL.getD k0.toNat 0)):(li=true→kd=1)∧(li=false→kd=2):=by
 unfold A2T at e;rw[C2e h] at e
 constructor<;>(intro hl;subst hl;exact e.symm)
theorem C29 {li:Bool} {inp bl k0 kd:Int} (e:A2T li inp bl k0=kd) (h:¬((k0=1∧inp=0)∨(bl=0∧0 < arL.getD k0.toNat 0))):k0=kd:=by
 unfold A2T at e;rw[C1z h] at e;exact e
theorem C25 {bl kd:Int} (h1:0 < bl) (h2:¬kd=1) (h3:¬kd=2):A7x true bl kd=true:=by
 unfold A7x;rw[decide_eq_true h1,decide_eq_false h2,decide_eq_false h3];rfl
theorem B9F {o:Bool} {bl kd:Int} (h1:¬0 < bl∨kd=1∨kd=2):A7x o bl kd=false:=by
 unfold A7x;rcases h1 with h|h|h
 · rw[decide_eq_false h];simp
 · rw[decide_eq_true h];simp
 · rw[decide_eq_true h];simp
def B0p (S':List Nat):CV→CV
 | .rd S e t xs=>match S.all (fun n=>S'.contains n) with|true=>.rd S' e t xs|false=>.rd S e t xs
 | c=>c
theorem B7J {R:Rz} {w:World} {S':List Nat} {c:CV} {u:Value} (h:VRc R w c u):VRc R w (B0p S' c) u:=by
 cases c with
 | rd S e t xs =>
   simp only[B0p]
   split
   · rename_i hs
     refine Rd.mono h fun b hb=>?_
     rcases hb with hb|hb
     · exact .inl hb
     · exact .inr (by simpa using List.all_eq_true.1 hs _ hb)
   · exact h
 | _=>exact h
def B71 (k:Nat) (S':List Nat):Ob→Ob
 | .box l=>match l[k]? with|some c=>.box (l.set k (B0p S' c))|none=>.box l
 | o=>o
def A5B (n k:Nat) (S':List Nat):List (Nat × Ob)→List (Nat × Ob)
 | []=>[]
 | p::l=>(if p.1=n then (p.1,B71 k S' p.2) else p)::A5B n k S' l
def St.weak (σ:St) (n k:Nat) (S':List Nat):St:=⟨σ.tm,A5B n k S' σ.ob⟩
theorem VRs.setW {R:Rz} {w:World} {c:CV}:∀{l:List CV} {us:List Value} {k:Nat},VRs R w l us→(∀u,us[k]?=some u→VRc R w c u)→VRs R w (l.set k c) us:=by
 intro l
 induction l with
 | nil=>intro us k h _;exact h
 | cons d l ih =>
   intro us k h hc
   obtain⟨u,us',rfl,h1,h2⟩:=h;cases k with
   | zero=>exact⟨u,us',rfl,hc u rfl,h2⟩
   | succ k=>exact⟨u,us',rfl,h1,ih h2 fun v hv=>hc v (by simpa using hv)⟩
theorem C2Q (σ:St) (n k:Nat) (S':List Nat):Wk σ (σ.weak n k S'):=fun R0 w0 R a w hs=>by
 have hC:∀p o,OR R w p o→OR R w p (B71 k S' o):=by
  intro p o ho
  cases o with
  | row e t xs S=>exact ho
  | tree e t xs h=>exact ho
  | box l =>
    simp only[B71]
    split
    · rename_i c hc
      obtain⟨us,T,h1,h2,h3⟩:=ho;refine⟨us,T,h1,h2,h3.setW fun u hu=>B7J ?_⟩
      obtain⟨u',hu',hv⟩:=h3.get k hc
      rw[hu] at hu';cases hu';exact hv
    · exact ho
 have hN:∀l,obsOk R w l→obsOk R w (A5B n k S' l):=by
  intro l
  induction l with
  | nil=>intro _ p hp;cases hp
  | cons q l ih =>
    intro hl p hp
    simp only[A5B,List.mem_cons] at hp
    rcases hp with rfl|hp
    · split
      · exact hC _ _ (hl q List.mem_cons_self)
      · exact hl q List.mem_cons_self
    · exact ih (fun p hp=>hl p (List.mem_cons_of_mem _ hp)) p hp
 exact⟨R,hs.size,hs.tm,hN _ hs.ob,hs.os,hs.tape,hs.output,hs.grow,hs.keep,hs.pl,hs.defers⟩
attribute [go_sem] B0p B71 A5B St.weak
end Go.Proofs.YtflobmmbhaofbaaGreat
