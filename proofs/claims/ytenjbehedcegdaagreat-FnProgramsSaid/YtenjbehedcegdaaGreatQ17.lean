/-
  Texts of this claim, joined (part 17). No condition beyond those of the theorems.
-/
import Derived.Test.YtenjbehedcegdaaGreatQ16
import Derived.Test.YtenjbehedcegdaaGreatQ04
import Derived.Test.YtenjbehedcegdaaGreatQ11
namespace Go.Proofs.YtenjbehedcegdaaGreat
open Go.RowKit
set_option linter.unusedSimpArgs false
set_option linter.unusedVariables false
section
variable {α:Type}
def itI (f:Nat→α→DM α):Nat→α→DM α
 | 0,x=>fun s=>(x,s)
 | k+1,x=>bnd (itI f k x) (f k)
theorem A6T {f:Nat→α→DM α} {k:Nat} {x y:α} {s s':S4} (h:itI f k x s=(y,s')):itI f (k+1) x s=f k y s':=S9 h
theorem Cost.itI {c:Nat} {f:Nat→α→DM α} (h:∀i x,Cost c (f i x)) (k:Nat) (x:α):Cost (c * k) (itI f k x):=by
 induction k with
 | zero=>exact Cost.pure x
 | succ k ih=>rw[Nat.mul_succ];exact ih.bnd (h k)
end
theorem A5g (li:Bool):0 < (l3 li).length:=by cases li<;>decide
theorem B1f {li:Bool} {x:Int} (h:x∈l3 li):1≤x∧x≤17:=by
 cases li<;>simp[l3] at h<;>omega
def A2c (li:Bool):DM (List (List Int)):=fun s=>match li with|true=>([],s)|false=>A86 s
theorem A1M (li:Bool):Cost 102 (A2c li):=by
 cases li
 · exact B3y
 · exact(Cost.pure ([]:List (List Int))).le (by omega)
theorem B4y {n:Nat} {s s':S4} {ts:List (List Int)} (hs:srcOk n s) (hn:2≤n) (e:A86 s=(ts,s')):ts.length≤2:=by
 have h1:=o5 (n:=n - 2) (m:=2) (s:=s) (by rw[Nat.sub_add_cancel hn];exact hs)
 have h3:=h1.2.1 (by omega)
 have h5:ts=(P3 A54 (1+(D8 2 s).1).toNat [] (D8 2 s).2).1:=(congrArg Prod.fst e).symm
 rw[h5,B0z];simp only[List.length_nil];omega
theorem A6g {n:Nat} {li:Bool} {s s':S4} {ts:List (List Int)} (hs:srcOk n s) (hn:2≤n) (e:A2c li s=(ts,s')):ts.length≤2:=by
 cases li
 · exact B4y hs hn e
 · simp only[A2c,Prod.mk.injEq] at e
   rw[←e.1];simp
def B08 (inp bl k0:Int):Bool:=(decide (k0=1) && decide (inp=0)) || (decide (bl=0) && decide (0 < arL.getD k0.toNat 0))
theorem B7y {inp bl k0:Int} (h:(k0=1∧inp=0)∨(bl=0∧0 < arL.getD k0.toNat 0)):B08 inp bl k0=true:=by
 simp only[B08,Bool.or_eq_true,Bool.and_eq_true,decide_eq_true_eq];exact h
theorem B8Q {inp bl k0:Int} (h:¬((k0=1∧inp=0)∨(bl=0∧0 < arL.getD k0.toNat 0))):B08 inp bl k0=false:=by
 rw[←Bool.not_eq_true];intro e;apply h
 simpa only [B08,Bool.or_eq_true,Bool.and_eq_true,decide_eq_true_eq] using e
def A1i (li:Bool) (inp bl k0:Int):Int:=match B08 inp bl k0 with
 | true=>(match li with|true=>1|false=>2)
 | false=>k0
theorem B40 {li:Bool} {inp bl k0:Int} (h:1≤k0∧k0≤17):1≤A1i li inp bl k0∧A1i li inp bl k0≤17:=by
 unfold A1i
 split
 · cases li<;>simp
 · exact h
def A2Q (bl:Int):DM Int:=bnd (D8 2) fun v s=>(r9 0 (bl - 1 - v),s)
def A4X (n:Int):DM Int:=bnd (D8 3) fun v s=>(r9 0 (n - 1 - v),s)
theorem A62 (bl:Int):Cost 2 (A2Q bl):=(E9 2).bnd fun _=>Cost.pure _
theorem A7N (n:Int):Cost 2 (A4X n):=(E9 3).bnd fun _=>Cost.pure _
def inA (inp kd:Int) (nd:B1):DM B1:=fun s=>match decide (kd=1) with
 | true=>bnd (D8 inp) (fun v s=>((nd.1,v,nd.2.2.1,nd.2.2.2),s)) s
 | false=>(nd,s)
theorem B0X (inp kd:Int) (nd:B1):Cost 2 (inA inp kd nd):=Cost.ite ((E9 inp).bnd (b:=0) fun _=>Cost.pure _) ((Cost.pure nd).le (by omega))
def A5v (o:Bool) (bl kd:Int):Bool:=o && (decide (0 < bl) && (!decide (kd=1) && !decide (kd=2)))
def A4m (kd tl bl:Int) (n1:B1):DM B1:=bnd (A0L 3) fun o s=>match A5v o bl kd with
 | true=>bnd (j8 kd tl 1) (fun n2 s=>bnd (P3 (I2 (A2Q bl)) n2.2.2.2.length []) (fun fr s=>((n2.1,n2.2.1,n2.2.2.1,fr),s)) s) s
 | false=>(n1,s)
def A0U (nd:B1):Prop:=nd.2.2.2.length=(arL.getD nd.1.toNat 0).toNat
theorem A5C {nd:B1} (h:A0U nd):nd.2.2.2.length≤3:=by have:=A6c nd.1.toNat;unfold A0U at h;omega
theorem B8v {nd:B1} (h:A0U nd) (k:nd.1=6):nd.2.2.2.length=1:=by unfold A0U at h;rw[k] at h;exact h
theorem A6M {kd tl bl:Int} {n1:B1}:Cost 28 (A4m kd tl bl n1):=by
 unfold A4m;refine(o8 3).bnd (b:=26) fun o=>Cost.ite ?_ ((Cost.pure n1).le (by omega))
 intro n s hs
 have h1:=(o9 kd tl 1) (n+6) s (hs.le (by omega))
 have h2:=(A3G (kd:=kd) (tb:=tl) (bl:=1) (s:=s) (nd:=(j8 kd tl 1 s).1) (s':=(j8 kd tl 1 s).2) rfl).1
 have h3:=A6c kd.toNat
 exact Cost.it (P0 (A62 bl)) (j8 kd tl 1 s).1.2.2.2.length [] n _ (h1.le (by omega))
theorem B0C {kd tl bl:Int} {n1 nd:B1} {s s':S4} (h:A0U n1) (e:A4m kd tl bl n1 s=(nd,s')):A0U nd:=by
 unfold A4m bnd at e;simp only at e
 split at e
 · have h2:=A3G (kd:=kd) (tb:=tl) (bl:=1) (s:=(A0L 3 s).2) (nd:=(j8 kd tl 1 (A0L 3 s).2).1) (s':=(j8 kd tl 1 (A0L 3 s).2).2) rfl
   simp only[Prod.mk.injEq] at e
   rw[←e.1];unfold A0U;simp only
   rw[a8,h2.2,h2.1];simp
 · simp only[Prod.mk.injEq] at e
   rw[←e.1];exact h
theorem B6X {inp kd:Int} {n1 nd:B1} {s s':S4} (h:A0U n1) (e:inA inp kd n1 s=(nd,s')):A0U nd:=by
 unfold inA bnd at e
 split at e
 · simp only[Prod.mk.injEq] at e;rw[←e.1];exact h
 · simp only[Prod.mk.injEq] at e;rw[←e.1];exact h
theorem A9B {kd tb bl:Int} {s s':S4} {nd:B1} (e:j8 kd tb bl s=(nd,s')):A0U nd:=by
 have h:=A3G e
 unfold A0U;rw[h.2];exact h.1
def J1 (li:Bool) (inp tl:Int) (ns:List B1):DM (List B1):=bnd (H5 (l3 li)) fun k0 s =>
 bnd (j8 (A1i li inp ns.length k0) tl ns.length) (fun nd s=>bnd (inA inp (A1i li inp ns.length k0) nd) (fun n1 s=>bnd (A4m (A1i li inp ns.length k0) tl ns.length n1) (fun x s=>(ns++[x],s)) s) s) s
theorem A2U (li:Bool) (inp tl:Int) (ns:List B1):Cost 52 (J1 li inp tl ns) :=
 (I8 _).bnd (b:=50) fun k0=>((o9 _ _ _).bnd (b:=30) fun nd=>(B0X _ _ _).bnd (b:=28) fun n1=>A6M.bnd (b:=0) fun x=>Cost.pure _)
theorem B0B {li:Bool} {inp tl:Int} {ns ms:List B1} {s s':S4} (h:∀nd∈ns,A0U nd) (e:J1 li inp tl ns s=(ms,s')):ms.length=ns.length+1∧∀nd∈ms,A0U nd:=by
 unfold J1 bnd at e;simp only[Prod.mk.injEq] at e
 rw[←e.1];refine⟨by simp,fun nd hd=>?_⟩
 rcases List.mem_append.1 hd with hd|hd
 · exact h nd hd
 · simp only[List.mem_singleton] at hd
   rw[hd];exact B0C (B6X (A9B rfl) rfl) rfl
theorem A6p {li:Bool} {inp tl:Int} {s:S4}:∀(k:Nat) (ms:List B1) (s':S4),P3 (J1 li inp tl) k [] s=(ms,s')→ms.length=k∧∀nd∈ms,A0U nd:=by
 intro k
 induction k with
 | zero=>intro ms s' e;simp only[P3,Prod.mk.injEq] at e;rw[←e.1];exact⟨rfl,fun nd hd=>by cases hd⟩
 | succ k ih =>
   intro ms s' e
   have h:=ih _ _ (Prod.eta (P3 (J1 li inp tl) k [] s)).symm
   have h2:=B0B h.2 (show J1 li inp tl (P3 (J1 li inp tl) k [] s).1 (P3 (J1 li inp tl) k [] s).2=(ms,s') from e)
   exact⟨by rw[h2.1,h.1],h2.2⟩
def B9I (nd:B1) (v:Int):B1:=(nd.1,nd.2.1,nd.2.2.1,nd.2.2.2.set 0 v)
def N8 (n:Int) (i:Nat) (ns:List B1):DM (List B1):=fun s=>match decide ((ns.getD i n0).1=6) with
 | true => bnd (A0L 2) (fun o s => match o with
   | true=>bnd (D8 n) (fun v s=>(ns.set i (B9I (ns.getD i n0) v),s)) s
   | false=>(ns,s)) s
 | false=>(ns,s)
theorem A4n (n:Int) (i:Nat) (ns:List B1):Cost 4 (N8 n i ns) :=
 Cost.ite ((o8 2).bnd (b:=2) fun o=>Cost.ite ((E9 n).bnd (b:=0) fun _=>Cost.pure _) ((Cost.pure ns).le (by omega))) ((Cost.pure ns).le (by omega))
theorem B3w {n:Int} {i:Nat} {ns ms:List B1} {s s':S4} (h:∀nd∈ns,A0U nd) (e:N8 n i ns s=(ms,s')):ms.length=ns.length∧∀nd∈ms,A0U nd:=by
 unfold N8 bnd at e
 split at e
 · rename_i h6
   have h6:=of_decide_eq_true h6
   simp only at e
   split at e
   · simp only[Prod.mk.injEq] at e
     rw[←e.1];refine⟨List.length_set,fun nd hd=>?_⟩
     rcases List.mem_or_eq_of_mem_set hd with hd|rfl
     · exact h nd hd
     · by_cases hi:i < ns.length
       · have:=h _ (C6 (d:=n0) hi)
         unfold A0U at this ⊢
         simp only[B9I,List.length_set];exact this
       · exfalso;rw[List.getD_eq_getElem?_getD,List.getElem?_eq_none (by omega)] at h6
         simp[n0] at h6
   · simp only[Prod.mk.injEq] at e;rw[←e.1];exact⟨rfl,h⟩
 · simp only[Prod.mk.injEq] at e;rw[←e.1];exact⟨rfl,h⟩
theorem B2X {n:Int} {ns:List B1} {s:S4} (h0:∀nd∈ns,A0U nd):∀(k:Nat) (ms:List B1) (s':S4),itI (N8 n) k ns s=(ms,s')→ms.length=ns.length∧∀nd∈ms,A0U nd:=by
 intro k
 induction k with
 | zero=>intro ms s' e;simp only[itI,Prod.mk.injEq] at e;rw[←e.1];exact⟨rfl,h0⟩
 | succ k ih =>
   intro ms s' e
   have h:=ih _ _ (Prod.eta (itI (N8 n) k ns s)).symm
   have h2:=B3w h.2 (show N8 n k (itI (N8 n) k ns s).1 (itI (N8 n) k ns s).2=(ms,s') from e)
   exact⟨by rw[h2.1,h.1],h2.2⟩
def A2e (inp out most:Int) (li:Bool):DM B7:=bnd (A2c li) fun ts s=>bnd (D8 most) (fun x s=>bnd (P3 (J1 li inp ts.length) (1+x).toNat []) (fun ns s =>
 bnd (itI (N8 ns.length) ns.length ns) (fun ms s=>bnd (P3 (I2 (A4X ns.length)) out.toNat []) (fun os s=>((inp,ts,ms,os),s)) s) s) s) s
theorem B5L {A F:List Int} {j:Nat} {x:Int} (h:A.length=j) (hj:j < F.length):(A++F.drop j).set j x=A++[x]++F.drop (j+1):=by
 rw[List.set_append_right _ _ (by omega),h,Nat.sub_self,List.drop_eq_getElem_cons hj,List.set_cons_zero,List.append_assoc];rfl
theorem B89 {li:Bool} {inp bl k0 kd:Int} (e:A1i li inp bl k0=kd) (h:(k0=1∧inp=0)∨(bl=0∧0 < arL.getD k0.toNat 0)):(li=true→kd=1)∧(li=false→kd=2):=by
 unfold A1i at e;rw[B7y h] at e
 constructor<;>(intro hl;subst hl;exact e.symm)
theorem B8H {li:Bool} {inp bl k0 kd:Int} (e:A1i li inp bl k0=kd) (h:¬((k0=1∧inp=0)∨(bl=0∧0 < arL.getD k0.toNat 0))):k0=kd:=by
 unfold A1i at e;rw[B8Q h] at e;exact e
theorem B7Y {bl kd:Int} (h1:0 < bl) (h2:¬kd=1) (h3:¬kd=2):A5v true bl kd=true:=by
 unfold A5v;rw[decide_eq_true h1,decide_eq_false h2,decide_eq_false h3];rfl
theorem B5m {o:Bool} {bl kd:Int} (h1:¬0 < bl∨kd=1∨kd=2):A5v o bl kd=false:=by
 unfold A5v;rcases h1 with h|h|h
 · rw[decide_eq_false h];simp
 · rw[decide_eq_true h];simp
 · rw[decide_eq_true h];simp
theorem A7Z {inp out most:Int} {li:Bool} (ho:0≤out∧out≤4) (hm:1≤most∧most≤20):Cost 1300 (A2e inp out most li):=by
 refine((A1M li).bnd (b:=1150) fun ts=>?_).le (by omega)
 refine(A6B (b:=1148) fun x h0 h1 _=>?_).le (by omega)
 have h1:=h1 hm.1
 intro n s hs
 rcases hit:P3 (J1 li inp ts.length) (1+x).toNat [] s with⟨ns,s1⟩
 have hs1:=(Cost.it (A2U li inp ts.length) (1+x).toNat []).at hs (by omega) hit
 obtain⟨hl,_⟩:=A6p _ ns s1 hit
 show srcOk n (bnd (P3 (J1 li inp ts.length) (1+x).toNat []) _ s).2
 rw[S9 hit];rcases hid:itI (N8 ns.length) ns.length ns s1 with⟨ms,s2⟩
 have hs2:=(Cost.itI (A4n ns.length) ns.length ns).at hs1 (by omega) hid
 rw[S9 hid];rcases hio:P3 (I2 (A4X ns.length)) out.toNat [] s2 with⟨os,s3⟩
 have hs3:=(Cost.it (P0 (A7N ns.length)) out.toNat []).at hs2 (by omega) hio
 rw[S9 hio];exact hs3.le (by omega)
theorem B5N {n:Nat} {inp out most:Int} {li:Bool} {s s':S4} {p:B7} (hs:srcOk n s) (hn:104≤n) (hm:1≤most∧most≤20) (e:A2e inp out most li s=(p,s')) :
 p.1=inp∧p.2.1.length≤2∧1≤p.2.2.1.length∧(p.2.2.1.length:Int)≤most∧p.2.2.2.length=out.toNat∧∀nd∈p.2.2.1,A0U nd:=by
 unfold A2e at e;rcases ht:A2c li s with⟨ts,s0⟩
 rw[S9 ht] at e;have hl1:=A6g hs (by omega) ht
 have hs0:=(A1M li).at hs (by omega) ht
 rcases hp:D8 most s0 with⟨x,s1⟩
 rw[S9 hp] at e;obtain⟨_,hx0,hx1,_⟩:=H3 hs0 (by omega) hp
 have hx1:=hx1 hm.1
 rcases hit:P3 (J1 li inp ts.length) (1+x).toNat [] s1 with⟨ns,s2⟩
 rw[S9 hit] at e;obtain⟨hl,ha⟩:=A6p _ ns s2 hit
 rcases hid:itI (N8 ns.length) ns.length ns s2 with⟨ms,s3⟩
 rw[S9 hid] at e;obtain⟨hl2,ha2⟩:=B2X ha _ ms s3 hid
 rcases hio:P3 (I2 (A4X ns.length)) out.toNat [] s3 with⟨os,s4⟩
 rw[S9 hio] at e;have hlo:os.length=out.toNat:=by have:=a8 (m:=A4X ns.length) (k:=out.toNat) (s:=s3) (xs:=[]);rw[hio] at this;simpa using this
 simp only[Prod.mk.injEq] at e
 obtain⟨e,_⟩:=e;subst e;exact⟨rfl,hl1,by simp only;omega,by simp only;omega,hlo,ha2⟩
def A2X (p:B7) (k y:Int):DM B7:=fun s=>match decide (y=0) with
 | true=>bnd (H5 [-1,0,5,4]) (fun v s=>((v,p.2.1,p.2.2.1,p.2.2.2),s)) s
 | false => match decide (y = 1) with
   | true=>bnd (H5 [(p.2.2.1.length:Int),-1,0]) (fun v s=>((p.1,p.2.1,p.2.2.1,p.2.2.2++[v]),s)) s
   | false => match decide (y = 2) with
     | true=>bnd (A2g 1) (fun nd s=>((p.1,p.2.1,p.2.2.1.set k.toNat nd,p.2.2.2),s)) s
     | false => match decide (y = 3) with
       | true=>((p.1,p.2.1,p.2.2.1++[((5,2,0,[(p.2.2.1.length:Int)]):B1)],p.2.2.2),s)
       | false => match decide (y = 4) with
         | true=>((p.1,p.2.1++[[1,2,3]],p.2.2.1,p.2.2.2),s)
         | false => match decide (y = 5) with
           | true=>bnd (A0L 2) (fun o s=>((p.1,p.2.1,p.2.2.1++List.replicate (24 - p.2.2.1.length) ((2,1,0,[]):B1)++(match o with|true=>[((14,5,0,[]):B1)]|false=>[]),p.2.2.2),s)) s
           | false=>(p,s)
theorem B24 (p:B7) (k y:Int):Cost 26 (A2X p k y) :=
 Cost.ite (((I8 _).bnd (b:=0) fun _=>Cost.pure _).le (by omega)) (Cost.ite (((I8 _).bnd (b:=0) fun _=>Cost.pure _).le (by omega)) (Cost.ite ((A7j 1).bnd (b:=0) fun _=>Cost.pure _)
  (Cost.ite ((Cost.pure _).le (by omega)) (Cost.ite ((Cost.pure _).le (by omega)) (Cost.ite (((o8 2).bnd (b:=0) fun _=>Cost.pure _).le (by omega)) ((Cost.pure p).le (by omega)))))))
def A1C:DM B7:=bnd (H5 [1,1,2,0]) fun inp s=>bnd (D8 2) (fun x s=>bnd (A0L 3) (fun o s=>bnd (A2e inp (1+x) 9 (o && decide (0 < inp))) (fun p s=>bnd (D8 p.2.2.1.length) (fun k s=>bnd (D8 24) (fun y s=>A2X p k y s) s) s) s) s) s
theorem B3V:Cost 1400 A1C:=by
 refine(A7l (b:=1390) (by simp) fun inp _=>?_).le (by omega)
 refine(A6B (b:=1380) fun x h0 h1 _=>?_).le (by omega)
 have h1:=h1 (by omega)
 refine((o8 3).bnd (b:=1370) fun o=>?_).le (by omega)
 refine((A7Z (by omega) (by omega)).bnd (b:=40) fun p=>?_).le (by omega)
 refine((E9 _).bnd (b:=30) fun k=>?_).le (by omega)
 exact((E9 24).bnd (b:=26) fun y=>B24 p k y).le (by omega)
def A7G (xs:List (List Int)):DM (List (List Int)):=bnd (A6l 14) fun t s=>(xs++[t],s)
theorem A7W (xs:List (List Int)):Cost 122 (A7G xs):=(A26 (by omega) (by omega)).bnd fun _=>Cost.pure _
theorem B5Y {k:Nat} {s:S4} {ts:List (List Int)}:((P3 A7G k ts s).1).length=ts.length+k:=by
 induction k with
 | zero=>rfl
 | succ k ih=>simp only[P3,bnd,A7G,List.length_append,ih];rfl
def A6b (n:Int):DM (List (List Int)):=bnd (P3 A7G (Z0 n 5).toNat []) fun xs s=>bnd (D8 24) (fun y s=>match decide (y=0) with
 | true=>(xs++[[]],s)
 | false => match decide (y = 1) && decide (0 < (xs.length : Int)) with
   | true=>bnd A76 (fun t s=>(xs.set 0 t,s)) s
   | false=>(xs,s)) s
theorem B44 (n:Int):Cost 760 (A6b n):=by
 have hm:(Z0 n 5).toNat≤5:=by unfold Z0;omega
 refine(((Cost.it A7W (Z0 n 5).toNat []).le (d:=610) (by omega)).bnd (b:=132) fun xs=>?_).le (by omega)
 exact(E9 24).bnd (b:=130) fun y=>Cost.ite ((Cost.pure _).le (by omega)) (Cost.ite (A7Q.bnd (b:=0) fun _=>Cost.pure _) ((Cost.pure _).le (by omega)))
structure DivOk (E:Nat→Nat→Bool) (i:Nat) (d:List Int × List Nat):Prop where
 len:d.1.length=i
 lt:∀c,c < d.2.length→d.2.getD c 0 < i
 at_:∀k,k < i→∃c:Nat,d.1.getD k 0=(c:Int)∧c < d.2.length∧E (d.2.getD c 0) k=true
 ne:∀c c',c < c'→c' < d.2.length→E (d.2.getD c 0) (d.2.getD c' 0)=false
section
variable {E:Nat→Nat→Bool} {n:Nat} (rfl':∀k,E k k=true) (sym:∀k i,E k i=true→E i k=true) (tr:∀k i j,E k i=true→E i j=true→E k j=true)
include sym tr in
theorem DivOk.uniq {i:Nat} {d:List Int × List Nat} (h:DivOk E i d) {c c':Nat} (hc:c < d.2.length) (hc':c' < d.2.length) {k:Nat} (h1:E (d.2.getD c 0) k=true) (h2:E (d.2.getD c' 0) k=true):c=c':=by
 have h3:=tr _ _ _ h1 (sym _ _ h2)
 rcases Nat.lt_trichotomy c c' with e|e|e
 · rw[h.ne c c' e hc'] at h3;cases h3
 · exact e
 · have h4:=sym _ _ h3
   rw[h.ne c' c e hc] at h4;cases h4
include sym tr in
theorem DivOk.rel {i:Nat} {d:List Int × List Nat} (h:DivOk E i d) {k j:Nat} (hk:k < i) (hj:j < i):d.1.getD k 0=d.1.getD j 0↔E k j=true:=by
 obtain⟨c,c1,c2,c3⟩:=h.at_ k hk
 obtain⟨c',c1',c2',c3'⟩:=h.at_ j hj
 rw[c1,c1']
 constructor
 · intro e;obtain rfl:c=c':=by omega
   exact tr _ _ _ (sym _ _ c3) c3'
 · intro e;rw[h.uniq sym tr c2 c2' (tr _ _ _ c3 e) c3']
end
section
variable {κ:Type} [DecidableEq κ] {f:Nat→κ}
end
open Go.RowKit
def keyOf (ts:List (List Int)) (n:B1):Int × Int × Int × List Int:=match decide (n.1=13) with
 | true=>(n.1,n.2.2.1,0,ts.getD n.2.1.toNat [])
 | false=>(n.1,n.2.2.1,n.2.1,[])
def B9k (n:B1):Bool:=decide (n.1=3) || decide (n.1=9)
section
variable {ts:List (List Int)} {ns:List B1}
end
open Go.RowKit
section
variable {E:Nat→Nat→Bool} {n i:Nat}
end
section
variable {p:B7} {cl:List Int}
end
open Go.RowKit
open Go.RowKit
structure KeepOk (p:B7) (kp:List Int):Prop where
 C10:B9e p
 n24:p.2.2.1.length≤24
 k24:kp.length≤24
 rng:N2 p.2.2.1.length kp=true
 frs:∀x∈p.2.2.1,x.2.2.2.length≤23∧N2 p.2.2.1.length x.2.2.2=true
 o4:p.2.2.2.length≤4
 outs:N2 p.2.2.1.length p.2.2.2=true
open Go.RowKit
open Go.RowKit
open Go.RowKit
def B8X (R:Nat→Nat→Prop) (l m:List Int):Prop:=l.length=m.length∧∀k,k < l.length→∃a b:Nat,l.getD k 0=(a:Int)∧m.getD k 0=(b:Int)∧R a b
def C0T (R:Nat→Nat→Prop) (l m:List Int):Prop:=l.length=2∧m.length=2∧∃a b c d:Nat,l.getD 0 0=(a:Int)∧l.getD 1 0=(b:Int)∧m.getD 0 0=(c:Int)∧m.getD 1 0=(d:Int)∧R a d∧R b c
structure NSim (ts ts':List (List Int)) (R:Nat→Nat→Prop) (x y:B1):Prop where
 key:keyOf ts x=keyOf ts' y
 ins:B8X R x.2.2.2 y.2.2.2∨(B9k x=true∧C0T R x.2.2.2 y.2.2.2)
structure PSim (p q:B7) (R:Nat→Nat→Prop):Prop where
 inp:p.1=q.1
 node:∀i c,R i c→i < p.2.2.1.length∧c < q.2.2.1.length∧NSim p.2.1 q.2.1 R (p.2.2.1.getD i n0) (q.2.2.1.getD c n0)
 outs:B8X R p.2.2.2 q.2.2.2
section
variable {p q:B7} {R:Nat→Nat→Prop} (hp:G3 p=true) (hq:G3 q=true) (hS:PSim p q R)
end
open Go.RowKit
section
variable {p:B7}
end
section
variable {p:B7}
end
open Go.RowKit
end Go.Proofs.YtenjbehedcegdaaGreat
