/-
  Texts of this claim, joined (part 12). No condition beyond those of the theorems.
-/
import Derived.Test.YtgmabhkmiokiaaaGreatVa05
import Derived.Test.YtgmabhkmiokiaaaGreatVa02
namespace Go.Proofs.YtgmabhkmiokiaaaGreat
open Go.RowKit
set_option linter.unusedSimpArgs false
set_option linter.unusedVariables false
section
variable {α:Type}
def itI (f:Nat→α→DM α):Nat→α→DM α
 | 0,x=>fun s=>(x,s)
 | k+1,x=>bnd (itI f k x) (f k)
theorem itI_succ {f:Nat→α→DM α} {k:Nat} {x y:α} {s s':SrcD} (h:itI f k x s=(y,s')):itI f (k+1) x s=f k y s':=bnd_of h
theorem Cost.itI {c:Nat} {f:Nat→α→DM α} (h :∀i x,Cost c (f i x)) (k:Nat) (x:α):Cost (c * k) (itI f k x):=by
 induction k with
 | zero=>exact Cost.pure x
 | succ k ih=>rw [Nat.mul_succ]; exact ih.bnd (h k)
end
theorem kindsD_pos (li:Bool):0 < (kindsD li).length:=by cases li<;>decide
theorem kindsD_mem {li:Bool} {x:Int} (h:x∈kindsD li):1≤x∧x≤17:=by
 cases li<;>simp [kindsD] at h<;>omega
def tabsIf (li:Bool):DM (List (List Int)):=fun s=>match li with | true=>([],s) | false=>l06T s
theorem tabsIf_cost (li:Bool):Cost 102 (tabsIf li):=by
 cases li
 · exact l06T_cost
 · exact (Cost.pure ([]:List (List Int))).le (by omega)
theorem l06T_len {n:Nat} {s s':SrcD} {ts:List (List Int)} (hs:srcOk n s) (hn:2≤n) (e:l06T s=(ts,s')):ts.length≤2:=by
 have h1:=pickD_rng (n:=n - 2) (m:=2) (s:=s) (by rw [Nat.sub_add_cancel hn]; exact hs)
 have h3:=h1.2.1 (by omega)
 have h5:ts=(itD tabS (1+(pickD 2 s).1).toNat [] (pickD 2 s).2).1:=(congrArg Prod.fst e).symm
 rw [h5,tabS_len];simp only[List.length_nil];omega
theorem tabsIf_len {n:Nat} {li:Bool} {s s':SrcD} {ts:List (List Int)} (hs:srcOk n s) (hn:2≤n) (e:tabsIf li s=(ts,s')):ts.length≤2:=by
 cases li
 · exact l06T_len hs hn e
 · simp only[tabsIf,Prod.mk.injEq] at e
   rw [← e.1]; simp
def kindU (inp bl k0:Int):Bool:=(decide (k0=1) && decide (inp=0)) || (decide (bl=0) && decide (0 < arL.getD k0.toNat 0))
theorem kindU_t {inp bl k0:Int} (h:(k0=1∧inp=0)∨(bl=0∧0 < arL.getD k0.toNat 0)):kindU inp bl k0=true:=by
 simp only[kindU,Bool.or_eq_true,Bool.and_eq_true,decide_eq_true_eq]; exact h
theorem kindU_f {inp bl k0:Int} (h:¬ ((k0=1∧inp=0)∨(bl=0∧0 < arL.getD k0.toNat 0))):kindU inp bl k0=false:=by
 rw [← Bool.not_eq_true]; intro e; apply h
 simpa only [kindU,Bool.or_eq_true,Bool.and_eq_true,decide_eq_true_eq] using e
def kindF (li:Bool) (inp bl k0:Int):Int:=match kindU inp bl k0 with
 | true=>(match li with | true=>1 | false=>2)
 | false=>k0
theorem kindF_rng {li:Bool} {inp bl k0:Int} (h:1≤k0∧k0≤17):1≤kindF li inp bl k0∧kindF li inp bl k0≤17:=by
 unfold kindF
 split
 · cases li<;>simp
 · exact h
def overV (bl:Int):DM Int:=bnd (pickD 2) fun v s=>(iMax 0 (bl - 1 - v),s)
def outD (n:Int):DM Int:=bnd (pickD 3) fun v s=>(iMax 0 (n - 1 - v),s)
theorem overV_cost (bl:Int):Cost 2 (overV bl):=(pickD_cost 2).bnd fun _=>Cost.pure _
theorem outD_cost (n:Int):Cost 2 (outD n):=(pickD_cost 3).bnd fun _=>Cost.pure _
def inA (inp kd:Int) (nd:NodeD):DM NodeD:=fun s=>match decide (kd=1) with
 | true=>bnd (pickD inp) (fun v s=>((nd.1,v,nd.2.2.1,nd.2.2.2),s)) s
 | false=>(nd,s)
theorem inA_cost (inp kd:Int) (nd:NodeD):Cost 2 (inA inp kd nd):=Cost.ite ((pickD_cost inp).bnd (b:=0) fun _=>Cost.pure _) ((Cost.pure nd).le (by omega))
def backB (o:Bool) (bl kd:Int):Bool:=o && (decide (0 < bl) && (!decide (kd=1) && !decide (kd=2)))
def restD (kd tl bl:Int) (n1:NodeD):DM NodeD:=bnd (oneD 3) fun o s=>match backB o bl kd with
 | true=>bnd (l06D kd tl 1) (fun n2 s=>bnd (itD (snocD (overV bl)) n2.2.2.2.length []) (fun fr s=>((n2.1,n2.2.1,n2.2.2.1,fr),s)) s) s
 | false=>(n1,s)
def arOk (nd:NodeD):Prop:=nd.2.2.2.length=(arL.getD nd.1.toNat 0).toNat
theorem arOk_le {nd:NodeD} (h:arOk nd):nd.2.2.2.length≤3:=by have:=arL_bd nd.1.toNat; unfold arOk at h; omega
theorem arOk_6 {nd:NodeD} (h:arOk nd) (k:nd.1=6):nd.2.2.2.length=1:=by unfold arOk at h; rw [k] at h; exact h
theorem restD_cost {kd tl bl:Int} {n1:NodeD}:Cost 28 (restD kd tl bl n1):=by
 unfold restD;refine (oneD_cost 3).bnd (b:=26) fun o=>Cost.ite ?_ ((Cost.pure n1).le (by omega))
 intro n s hs
 have h1:=(l06D_cost kd tl 1) (n+6) s (hs.le (by omega))
 have h2:=(l06D_len (kd:=kd) (tb:=tl) (bl:=1) (s:=s) (nd:=(l06D kd tl 1 s).1) (s':=(l06D kd tl 1 s).2) rfl).1
 have h3:=arL_bd kd.toNat
 exact Cost.it (snocD_cost (overV_cost bl)) (l06D kd tl 1 s).1.2.2.2.length [] n _ (h1.le (by omega))
theorem restD_ok {kd tl bl:Int} {n1 nd:NodeD} {s s':SrcD} (h:arOk n1) (e:restD kd tl bl n1 s=(nd,s')):arOk nd:=by
 unfold restD bnd at e;simp only at e
 split at e
 · have h2:=l06D_len (kd:=kd) (tb:=tl) (bl:=1) (s:=(oneD 3 s).2) (nd:=(l06D kd tl 1 (oneD 3 s).2).1) (s':=(l06D kd tl 1 (oneD 3 s).2).2) rfl
   simp only[Prod.mk.injEq] at e
   rw [← e.1];unfold arOk;simp only
   rw [itD_len,h2.2,h2.1];simp
 · simp only[Prod.mk.injEq] at e
   rw [← e.1]; exact h
theorem inA_ok {inp kd:Int} {n1 nd:NodeD} {s s':SrcD} (h:arOk n1) (e:inA inp kd n1 s=(nd,s')):arOk nd:=by
 unfold inA bnd at e
 split at e
 · simp only[Prod.mk.injEq] at e; rw [← e.1]; exact h
 · simp only[Prod.mk.injEq] at e; rw [← e.1]; exact h
theorem l06D_ok {kd tb bl:Int} {s s':SrcD} {nd:NodeD} (e:l06D kd tb bl s=(nd,s')):arOk nd:=by
 have h:=l06D_len e
 unfold arOk; rw [h.2]; exact h.1
def nodeStep (li:Bool) (inp tl:Int) (ns:List NodeD):DM (List NodeD):=bnd (amongD (kindsD li)) fun k0 s =>
 bnd (l06D (kindF li inp ns.length k0) tl ns.length) (fun nd s=>bnd (inA inp (kindF li inp ns.length k0) nd) (fun n1 s=>bnd (restD (kindF li inp ns.length k0) tl ns.length n1) (fun x s=>(ns++[x],s)) s) s) s
theorem nodeStep_cost (li:Bool) (inp tl:Int) (ns:List NodeD):Cost 52 (nodeStep li inp tl ns) :=
 (amongD_cost _).bnd (b:=50) fun k0=>((l06D_cost _ _ _).bnd (b:=30) fun nd=>(inA_cost _ _ _).bnd (b:=28) fun n1=>restD_cost.bnd (b:=0) fun x=>Cost.pure _)
theorem nodeStep_ok {li:Bool} {inp tl:Int} {ns ms:List NodeD} {s s':SrcD} (h :∀nd∈ns,arOk nd) (e:nodeStep li inp tl ns s=(ms,s')):ms.length=ns.length+1∧∀ nd∈ms,arOk nd:=by
 unfold nodeStep bnd at e;simp only[Prod.mk.injEq] at e
 rw [← e.1];refine ⟨by simp,fun nd hd=>?_⟩
 rcases List.mem_append.1 hd with hd | hd
 · exact h nd hd
 · simp only[List.mem_singleton] at hd
   rw [hd];exact restD_ok (inA_ok (l06D_ok rfl) rfl) rfl
theorem nodes_ok {li:Bool} {inp tl:Int} {s:SrcD} :∀(k:Nat) (ms:List NodeD) (s':SrcD),itD (nodeStep li inp tl) k [] s=(ms,s')→ms.length=k∧∀ nd∈ms,arOk nd:=by
 intro k
 induction k with
 | zero=>intro ms s' e; simp only[itD,Prod.mk.injEq] at e; rw [← e.1]; exact ⟨rfl,fun nd hd=>by cases hd⟩
 | succ k ih =>
   intro ms s' e
   have h:=ih _ _ (Prod.eta (itD (nodeStep li inp tl) k [] s)).symm
   have h2:=nodeStep_ok h.2 (show nodeStep li inp tl (itD (nodeStep li inp tl) k [] s).1 (itD (nodeStep li inp tl) k [] s).2=(ms,s') from e)
   exact ⟨by rw [h2.1,h.1],h2.2⟩
def setF (nd:NodeD) (v:Int):NodeD:=(nd.1,nd.2.1,nd.2.2.1,nd.2.2.2.set 0 v)
def delOne (n:Int) (i:Nat) (ns:List NodeD):DM (List NodeD):=fun s=>match decide ((ns.getD i n0).1=6) with
 | true=>bnd (oneD 2) (fun o s=>match o with
   | true=>bnd (pickD n) (fun v s=>(ns.set i (setF (ns.getD i n0) v),s)) s
   | false=>(ns,s)) s
 | false=>(ns,s)
theorem delOne_cost (n:Int) (i:Nat) (ns:List NodeD):Cost 4 (delOne n i ns) :=
 Cost.ite ((oneD_cost 2).bnd (b:=2) fun o=>Cost.ite ((pickD_cost n).bnd (b:=0) fun _=>Cost.pure _) ((Cost.pure ns).le (by omega))) ((Cost.pure ns).le (by omega))
theorem delOne_ok {n:Int} {i:Nat} {ns ms:List NodeD} {s s':SrcD} (h :∀nd∈ns,arOk nd) (e:delOne n i ns s=(ms,s')):ms.length=ns.length∧∀ nd∈ms,arOk nd:=by
 unfold delOne bnd at e
 split at e
 · rename_i h6
   have h6:=of_decide_eq_true h6
   simp only at e
   split at e
   · simp only[Prod.mk.injEq] at e
     rw [← e.1];refine ⟨List.length_set,fun nd hd=>?_⟩
     rcases List.mem_or_eq_of_mem_set hd with hd | rfl
     · exact h nd hd
     · by_cases hi:i < ns.length
       · have:=h _ (getD_mem (d:=n0) hi)
         unfold arOk at this ⊢
         simp only[setF,List.length_set];exact this
       · exfalso;rw [List.getD_eq_getElem?_getD,List.getElem?_eq_none (by omega)] at h6
         simp [n0] at h6
   · simp only[Prod.mk.injEq] at e; rw [← e.1]; exact ⟨rfl,h⟩
 · simp only[Prod.mk.injEq] at e; rw [← e.1]; exact ⟨rfl,h⟩
theorem dels_ok {n:Int} {ns:List NodeD} {s:SrcD} (h0 :∀nd∈ns,arOk nd) :∀(k:Nat) (ms:List NodeD) (s':SrcD),itI (delOne n) k ns s=(ms,s')→ms.length=ns.length∧∀ nd∈ms,arOk nd:=by
 intro k
 induction k with
 | zero=>intro ms s' e; simp only[itI,Prod.mk.injEq] at e; rw [← e.1]; exact ⟨rfl,h0⟩
 | succ k ih =>
   intro ms s' e
   have h:=ih _ _ (Prod.eta (itI (delOne n) k ns s)).symm
   have h2:=delOne_ok h.2 (show delOne n k (itI (delOne n) k ns s).1 (itI (delOne n) k ns s).2=(ms,s') from e)
   exact ⟨by rw [h2.1,h.1],h2.2⟩
def l07D (inp out most:Int) (li:Bool):DM PatchD:=bnd (tabsIf li) fun ts s=>bnd (pickD most) (fun x s=>bnd (itD (nodeStep li inp ts.length) (1+x).toNat []) (fun ns s =>
 bnd (itI (delOne ns.length) ns.length ns) (fun ms s=>bnd (itD (snocD (outD ns.length)) out.toNat []) (fun os s=>((inp,ts,ms,os),s)) s) s) s) s
theorem over_set {A F:List Int} {j:Nat} {x:Int} (h:A.length=j) (hj:j < F.length):(A++F.drop j).set j x=A++[x]++F.drop (j+1):=by
 rw [List.set_append_right _ _ (by omega),h,Nat.sub_self,List.drop_eq_getElem_cons hj,List.set_cons_zero,List.append_assoc]; rfl
theorem kindF_t {li:Bool} {inp bl k0 kd:Int} (e:kindF li inp bl k0=kd) (h:(k0=1∧inp=0)∨(bl=0∧0 < arL.getD k0.toNat 0)):(li=true→kd=1)∧(li=false→kd=2):=by
 unfold kindF at e;rw [kindU_t h] at e
 constructor<;>(intro hl; subst hl; exact e.symm)
theorem kindF_f {li:Bool} {inp bl k0 kd:Int} (e:kindF li inp bl k0=kd) (h:¬ ((k0=1∧inp=0)∨(bl=0∧0 < arL.getD k0.toNat 0))):k0=kd:=by
 unfold kindF at e;rw [kindU_f h] at e;exact e
theorem backB_t {bl kd:Int} (h1:0 < bl) (h2:¬ kd=1) (h3:¬ kd=2):backB true bl kd=true:=by
 unfold backB; rw [decide_eq_true h1,decide_eq_false h2,decide_eq_false h3]; rfl
theorem backB_f2 {o:Bool} {bl kd:Int} (h1:¬ 0 < bl∨kd=1∨kd=2):backB o bl kd=false:=by
 unfold backB;rcases h1 with h | h | h
 · rw [decide_eq_false h]; simp
 · rw [decide_eq_true h]; simp
 · rw [decide_eq_true h]; simp
def weakCV (S':List Nat):CV→CV
 | .rd S e t xs=>match S.all (fun n=>S'.contains n) with | true=>.rd S' e t xs | false=>.rd S e t xs
 | c=>c
theorem weakCV_ok {R:Rz} {w:World} {S':List Nat} {c:CV} {u:Value} (h:VRc R w c u):VRc R w (weakCV S' c) u:=by
 cases c with
 | rd S e t xs =>
   simp only[weakCV]
   split
   · rename_i hs
     refine Rd.mono h fun b hb=>?_
     rcases hb with hb | hb
     · exact .inl hb
     · exact .inr (by simpa using List.all_eq_true.1 hs _ hb)
   · exact h
 | _=>exact h
def weakO (k:Nat) (S':List Nat):Ob→Ob
 | .box l=>match l[k]? with | some c=>.box (l.set k (weakCV S' c)) | none=>.box l
 | o=>o
def weakObs (n k:Nat) (S':List Nat):List (Nat × Ob)→List (Nat × Ob)
 | []=>[]
 | p::l=>(if p.1=n then (p.1,weakO k S' p.2) else p)::weakObs n k S' l
def St.weak (σ:St) (n k:Nat) (S':List Nat):St:=⟨σ.tm,weakObs n k S' σ.ob⟩
theorem VRs.setW {R:Rz} {w:World} {c:CV} :∀{l:List CV} {us:List Value} {k:Nat},VRs R w l us→(∀ u,us[k]?=some u→VRc R w c u)→VRs R w (l.set k c) us:=by
 intro l
 induction l with
 | nil=>intro us k h _; exact h
 | cons d l ih =>
   intro us k h hc
   obtain ⟨u,us',rfl,h1,h2⟩:=h;cases k with
   | zero=>exact ⟨u,us',rfl,hc u rfl,h2⟩
   | succ k=>exact ⟨u,us',rfl,h1,ih h2 fun v hv=>hc v (by simpa using hv)⟩
theorem Wk_weak (σ:St) (n k:Nat) (S':List Nat):Wk σ (σ.weak n k S'):=fun R0 w0 R a w hs=>by
 have hC :∀p o,OR R w p o→OR R w p (weakO k S' o):=by
  intro p o ho
  cases o with
  | row e t xs S=>exact ho
  | tree e t xs h=>exact ho
  | box l =>
    simp only[weakO]
    split
    · rename_i c hc
      obtain ⟨us,T,h1,h2,h3⟩:=ho;refine ⟨us,T,h1,h2,h3.setW fun u hu=>weakCV_ok ?_⟩
      obtain ⟨u',hu',hv⟩:=h3.get k hc
      rw [hu] at hu'; cases hu'; exact hv
    · exact ho
 have hN :∀l,obsOk R w l→obsOk R w (weakObs n k S' l):=by
  intro l
  induction l with
  | nil=>intro _ p hp; cases hp
  | cons q l ih =>
    intro hl p hp
    simp only[weakObs,List.mem_cons] at hp
    rcases hp with rfl | hp
    · split
      · exact hC _ _ (hl q List.mem_cons_self)
      · exact hl q List.mem_cons_self
    · exact ih (fun p hp=>hl p (List.mem_cons_of_mem _ hp)) p hp
 exact ⟨R,hs.size,hs.tm,hN _ hs.ob,hs.os,hs.tape,hs.output,hs.grow,hs.keep,hs.pl,hs.defers⟩
attribute [go_sem] weakCV weakO weakObs St.weak
end Go.Proofs.YtgmabhkmiokiaaaGreat
