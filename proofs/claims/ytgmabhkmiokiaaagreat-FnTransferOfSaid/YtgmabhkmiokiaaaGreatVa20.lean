/-
  Texts of this claim, joined (part 20). No condition beyond those of the theorems.
-/
import Derived.Test.YtgmabhkmiokiaaaGreatVa14
import Derived.Test.YtgmabhkmiokiaaaGreatVa15
set_option linter.unusedSimpArgs false
set_option linter.unusedVariables false
namespace Go.Proofs.YtgmabhkmiokiaaaGreat
open Go.RowKit
theorem cover_le :∀(m:Nat) (l:List Int),(∀ i:Nat,i < m→(i:Int)∈l)→m≤l.length:=by
 intro m
 induction m with
 | zero=>intro l _; omega
 | succ m ih =>
   intro l h
   have h1:=ih (l.erase (m:Int)) fun i hi=>(List.mem_erase_of_ne (by omega)).2 (h i (by omega))
   have h2:=List.length_erase_of_mem (h m (by omega))
   have h3:0 < l.length:=List.length_pos_of_mem (h m (by omega))
   omega
theorem ordGo_full {ns:List NodeD} (hw :∀i:Nat,i < ns.length→∀ f∈waitsL (ns.getD i n0),∃ j:Nat,f=(j:Int)∧j < i) :∀(k:Nat) {o:List Int},o.length+k=ns.length→(ordGo ns k o).length=ns.length:=by
 intro k
 induction k with
 | zero=>intro o h; simpa [ordGo] using h
 | succ k ih =>
   intro o h
   simp only[ordGo]
   split
   · rename_i hn
     exfalso
     have hall :∀i:Nat,i < ns.length→(i:Int)∈o:=by
      intro i
      induction i using Nat.strongRecOn with
      | _ i ihi =>
        intro hi
        apply Classical.byContradiction
        intro hc;have h1:=List.find?_eq_none.1 hn i (List.mem_range.2 hi)
        apply h1
        simp only[readyB,Bool.and_eq_true,Bool.not_eq_true',List.all_eq_true,List.contains_eq_mem,decide_eq_true_eq,decide_eq_false_iff_not];refine ⟨hc,fun f hf=>?_⟩
        obtain ⟨j,rfl,hj⟩:=hw i hi f hf
        exact ihi j hj (by omega)
     have:=cover_le _ _ hall
     omega
   · exact ih (by simp; omega)
theorem ordL_full {ns:List NodeD} (hw :∀i:Nat,i < ns.length→∀ f∈waitsL (ns.getD i n0),∃ j:Nat,f=(j:Int)∧j < i):(ordL ns).length=ns.length:=ordGo_full hw _ (by simp)
theorem l01D_smp {n:Nat} {s s':SrcD} {x:Int} (hs:srcOk n s) (hn:6≤n) (e:l01D s=(x,s')):smp x=true:=by
 unfold l01D at e;rcases h1:pickD 8 s with ⟨v,s1⟩
 rw [bnd_of h1] at e;obtain ⟨hs1,_⟩:=pickD_at hs (by omega) h1
 split at e
 · obtain ⟨_,hm⟩:=amongD_at hs1 (by omega) (by simp) e
   rw [smp_iff]; simp at hm; omega
 · split at e
   · unfold bnd at e;simp only[Prod.mk.injEq] at e
     rw [← e.1]; exact smp_w _
   · split at e
     · simp only[Prod.mk.injEq] at e; rw [← e.1]; rfl
     · rcases h2:pickD 41 s1 with ⟨y,s2⟩
       rw [bnd_of h2] at e;obtain ⟨_,h3,h4,_⟩:=pickD_at hs1 (by omega) h2
       have h4:=h4 (by omega)
       simp only[Prod.mk.injEq] at e
       rw [← e.1,smp_iff]; omega
theorem picks_rng {b:Int} (hb:0 < b) :∀(k:Nat) {n:Nat} {s s':SrcD} {xs:List Int},srcOk n s→2 * k≤n→itD (snocD (pickD b)) k [] s=(xs,s')→∀ f∈xs,0≤f∧f < b:=by
 intro k
 induction k with
 | zero=>intro n s s' xs _ _ e; simp only[itD,Prod.mk.injEq] at e; rw [← e.1]; simp
 | succ k ih =>
   intro n s s' xs hs hn e f hf
   rcases h1:itD (snocD (pickD b)) k [] s with ⟨ys,s1⟩
   have h2:=itD_succ h1
   rw [e] at h2;have hs1:=(Cost.it (snocD_cost (pickD_cost b)) k []).at hs (by omega) h1
   rcases h3:pickD b s1 with ⟨x,s2⟩
   rw [snocD,bnd_of h3] at h2;obtain ⟨_,h4,h5,_⟩:=pickD_at hs1 (by omega) h3
   simp only[Prod.mk.injEq] at h2
   rw [h2.1] at hf;rcases List.mem_append.1 hf with hf | hf
   · exact ih hs (by omega) h1 f hf
   · simp only[List.mem_singleton] at hf; subst hf; exact ⟨h4,h5 (by omega)⟩
theorem overs_rng {b:Int} (hb:0 < b) :∀(k:Nat) {n:Nat} {s s':SrcD} {xs:List Int},srcOk n s→2 * k≤n→itD (snocD (overV b)) k [] s=(xs,s')→∀ f∈xs,0≤f∧f < b:=by
 intro k
 induction k with
 | zero=>intro n s s' xs _ _ e; simp only[itD,Prod.mk.injEq] at e; rw [← e.1]; simp
 | succ k ih =>
   intro n s s' xs hs hn e f hf
   rcases h1:itD (snocD (overV b)) k [] s with ⟨ys,s1⟩
   have h2:=itD_succ h1
   rw [e] at h2;have hs1:=(Cost.it (snocD_cost (overV_cost b)) k []).at hs (by omega) h1
   rcases h3:pickD 2 s1 with ⟨x,s2⟩
   have h3':overV b s1=(iMax 0 (b - 1 - x),s2):=bnd_of h3
   rw [snocD,bnd_of h3'] at h2
   obtain ⟨_,h4,h5,_⟩:=pickD_at hs1 (by omega) h3
   simp only[Prod.mk.injEq] at h2
   rw [h2.1] at hf;rcases List.mem_append.1 hf with hf | hf
   · exact ih hs (by omega) h1 f hf
   · simp only[List.mem_singleton] at hf; subst hf; unfold iMax; omega
theorem outs_rng {b:Int} (hb:0 < b) :∀(k:Nat) {n:Nat} {s s':SrcD} {xs:List Int},srcOk n s→2 * k≤n→itD (snocD (outD b)) k [] s=(xs,s')→∀ f∈xs,0≤f∧f < b:=by
 intro k
 induction k with
 | zero=>intro n s s' xs _ _ e; simp only[itD,Prod.mk.injEq] at e; rw [← e.1]; simp
 | succ k ih =>
   intro n s s' xs hs hn e f hf
   rcases h1:itD (snocD (outD b)) k [] s with ⟨ys,s1⟩
   have h2:=itD_succ h1
   rw [e] at h2;have hs1:=(Cost.it (snocD_cost (outD_cost b)) k []).at hs (by omega) h1
   rcases h3:pickD 3 s1 with ⟨x,s2⟩
   have h3':outD b s1=(iMax 0 (b - 1 - x),s2):=bnd_of h3
   rw [snocD,bnd_of h3'] at h2
   obtain ⟨_,h4,h5,_⟩:=pickD_at hs1 (by omega) h3
   simp only[Prod.mk.injEq] at h2
   rw [h2.1] at hf;rcases List.mem_append.1 hf with hf | hf
   · exact ih hs (by omega) h1 f hf
   · simp only[List.mem_singleton] at hf; subst hf; unfold iMax; omega
def LinN (tl:Int) (nd:NodeD):Prop:=linK nd.1∧l06aB nd.1 nd.2.1 tl=true∧(match decide (nd.1=17) with | true=>inR nd.2.2.1 1 16 | false=>decide (nd.2.2.1=0))=true∧arOk nd
theorem l06DA_lin {kd tb x:Int} {n:Nat} {s s':SrcD} (hk:linK kd) (hs:srcOk n s) (hn:6≤n) (e:l06DA kd tb s=(x,s')):l06aB kd x tb=true:=by
 rcases hk with rfl | rfl | rfl | rfl | rfl | rfl | rfl | rfl
 · have e:pickD 2 s=(x,s'):=e
   obtain ⟨_,h1,h2,_⟩:=pickD_at hs (by omega) e
   have:=h2 (by omega)
   exact inR_t (by omega) (by omega)
 · simp [l06DA,hasAL] at e; rw [← e.1]; rfl
 · simp [l06DA,hasAL] at e; rw [← e.1]; rfl
 · have e:l01D s=(x,s'):=e
   exact l01D_smp hs hn e
 · have e:bnd (pickD 4) (fun x s=>(1+x,s)) s=(x,s'):=e
   rcases h1:pickD 4 s with ⟨v,s1⟩
   rw [bnd_of h1] at e;obtain ⟨_,h1,h2,_⟩:=pickD_at hs (by omega) h1
   have:=h2 (by omega)
   simp only[Prod.mk.injEq] at e
   rw [← e.1]; exact inR_t (by omega) (by omega)
 · simp [l06DA,hasAL] at e; rw [← e.1]; rfl
 · simp [l06DA,hasAL] at e; rw [← e.1]; rfl
 · have e:l01D s=(x,s'):=e
   exact l01D_smp hs hn e
theorem l06D_lin {kd tb bl:Int} {nd:NodeD} {n:Nat} {s s':SrcD} (hk:linK kd) (hs:srcOk n s) (hn:20≤n) (e:l06D kd tb bl s=(nd,s')):nd.1=kd∧LinN tb nd∧(0 < bl→∀ f∈nd.2.2.2,0≤f∧f < bl):=by
 have hlen:=l06D_len e
 have har:=arL_bd kd.toNat
 unfold l06D at e;rcases h1:l06DA kd tb s with ⟨a,s1⟩
 have ha:=l06DA_lin hk hs (by omega) h1
 have hs1:=(l06DA_cost kd tb).at hs (by omega) h1
 rw [bnd_of h1] at e;rcases h2:itD (snocD (pickD bl)) (arL.getD kd.toNat 0).toNat [] s1 with ⟨fr,s2⟩
 have hs2:=(Cost.it (snocD_cost (pickD_cost bl)) (arL.getD kd.toNat 0).toNat []).at hs1 (by omega) h2
 have hfr:0 < bl→∀ f∈fr,0≤f∧f < bl:=fun hb=>picks_rng hb _ hs1 (by omega) h2
 rw [bnd_of h2] at e;have har2:arOk nd:=by unfold arOk; rw [hlen.2]; exact hlen.1
 split at e
 · rename_i h17
   have h17:=of_decide_eq_true h17
   rcases h3:pickD 3 s2 with ⟨x,s3⟩
   rw [bnd_of h3] at e;obtain ⟨_,h4,h5,_⟩:=pickD_at hs2 (by omega) h3
   have h5:=h5 (by omega)
   simp only[Prod.mk.injEq] at e
   obtain ⟨e,_⟩:=e;subst e;refine ⟨rfl,⟨hk,ha,?_,har2⟩,hfr⟩
   simp only[decide_eq_true h17];exact inR_t (by omega) (by omega)
 · rename_i h17
   simp only[Prod.mk.injEq] at e
   obtain ⟨e,_⟩:=e;subst e;refine ⟨rfl,⟨hk,ha,?_,har2⟩,hfr⟩
   simp only[h17]; rfl
def NodeOk (inp tl:Int) (bl:Nat) (nd:NodeD):Prop:=LinN tl nd∧(nd.1=1→0≤nd.2.1∧nd.2.1 < inp)∧∀ f∈nd.2.2.2,0≤f∧f < bl
theorem kindF_lin {inp bl k0:Int} (hi:1≤inp) (hk:k0∈kindsD true):linK (kindF true inp bl k0)∧(bl=0→kindF true inp bl k0=1):=by
 have hk0:linK k0:=by simp [kindsD] at hk; unfold linK; omega
 unfold kindF;cases h:kindU inp bl k0 with
 | true=>exact ⟨.inl rfl,fun _=>rfl⟩
 | false =>
   refine ⟨hk0,fun hb=>?_⟩
   show k0=1
   have hn:¬ ((k0=1∧inp=0)∨(bl=0∧0 < arL.getD k0.toNat 0)):=fun hh=>by rw [kindU_t hh] at h; cases h
   rcases hk0 with rfl | rfl | rfl | rfl | rfl | rfl | rfl | rfl
   · rfl
   all_goals (exfalso; exact hn (.inr ⟨hb,by decide⟩))
theorem nodeStep_lin {inp tl:Int} {ns ms:List NodeD} {n:Nat} {s s':SrcD} (hi:1≤inp∧inp≤4) (hs:srcOk n s) (hn:52≤n) (e:nodeStep true inp tl ns s=(ms,s')) :∃nd,ms=ns++[nd]∧NodeOk inp tl ns.length nd:=by
 unfold nodeStep at e;rcases h1:amongD (kindsD true) s with ⟨k0,s1⟩
 rw [bnd_of h1] at e;obtain ⟨hs1,hm⟩:=amongD_at hs (by omega) (kindsD_pos true) h1
 obtain ⟨hk,hk1⟩:=kindF_lin (bl:=ns.length) hi.1 hm
 generalize kindF true inp ns.length k0=kd at *
 rcases h2:l06D kd tl ns.length s1 with ⟨nd,s2⟩
 rw [bnd_of h2] at e;obtain ⟨q1,q2,q3⟩:=l06D_lin hk hs1 (by omega) h2
 have hs2:=(l06D_cost kd tl ns.length).at hs1 (by omega) h2
 rcases h3:inA inp kd nd s2 with ⟨n1,s3⟩
 rw [bnd_of h3] at e;have hs3:=(inA_cost inp kd nd).at hs2 (by omega) h3
 rcases h4:restD kd tl ns.length n1 s3 with ⟨x,s4⟩
 rw [bnd_of h4] at e;simp only[Prod.mk.injEq] at e
 refine ⟨x,e.1.symm,?_⟩
 have fr0 :∀y:NodeD,LinN tl y→y.1=kd→(0 < (ns.length:Int)→∀ f∈y.2.2.2,0≤f∧f < (ns.length:Int))→∀ f∈y.2.2.2,0≤f∧f < (ns.length:Int):=by
  intro y hy hyk hyf f hf
  by_cases hb:0 < (ns.length:Int)
  · exact hyf hb f hf
  · exfalso;have hk1:=hk1 (by omega)
    have:=hy.2.2.2
    unfold arOk at this;rw [hyk,hk1] at this;have h5:y.2.2.2=[]:=List.eq_nil_of_length_eq_zero this
    rw [h5] at hf; cases hf
 have ok1:NodeOk inp tl ns.length n1∧n1.1=kd:=by
  unfold inA at h3
  split at h3
  · rename_i hk6
    have hk6:=of_decide_eq_true hk6
    rcases h5:pickD inp s2 with ⟨v,s5⟩
    rw [bnd_of h5] at h3;obtain ⟨_,h6,h7,_⟩:=pickD_at hs2 (by omega) h5
    have h7:=h7 hi.1
    simp only[Prod.mk.injEq] at h3
    obtain ⟨h3,_⟩:=h3;subst h3
    have hL:LinN tl (nd.1,v,nd.2.2.1,nd.2.2.2):=⟨q2.1,by
     show l06aB nd.1 v tl=true
     rw [q1,hk6]; exact inR_t (by omega) (by omega),q2.2.2.1,q2.2.2.2⟩
    exact ⟨⟨hL,fun _=>⟨h6,h7⟩,fr0 _ hL q1 q3⟩,q1⟩
  · rename_i hk6
    have hk6:=of_decide_eq_false hk6
    simp only[Prod.mk.injEq] at h3
    obtain ⟨h3,_⟩:=h3;subst h3;exact ⟨⟨q2,fun hh=>absurd (q1.symm.trans hh) hk6,fr0 _ q2 q1 q3⟩,q1⟩
 unfold restD at h4;rcases h5:oneD 3 s3 with ⟨o,s5⟩
 rw [bnd_of h5] at h4;have hs5:=oneD_at hs3 (by omega) h5
 cases hb:backB o ns.length kd with
 | true =>
   simp only[hb] at h4
   have hbp:0 < (ns.length:Int)∧¬ kd=1:=by
    simp only[backB,Bool.and_eq_true,Bool.not_eq_true',decide_eq_true_eq,decide_eq_false_iff_not] at hb
    exact ⟨hb.2.1,hb.2.2.1⟩
   rcases h6:l06D kd tl 1 s5 with ⟨n2,s6⟩
   rw [bnd_of h6] at h4;obtain ⟨r1,r2,r3⟩:=l06D_lin hk hs5 (by omega) h6
   have hs6:=(l06D_cost kd tl 1).at hs5 (by omega) h6
   have hl2:n2.2.2.2.length≤3:=arOk_le r2.2.2.2
   rcases h7:itD (snocD (overV ns.length)) n2.2.2.2.length [] s6 with ⟨fr,s7⟩
   rw [bnd_of h7] at h4;have hfr:=overs_rng hbp.1 _ hs6 (by omega) h7
   have hfl:fr.length=n2.2.2.2.length:=by have:=itD_len (m:=overV ns.length) (k:=n2.2.2.2.length) (s:=s6) (xs:=[]); rw [h7] at this; simpa using this
   simp only[Prod.mk.injEq] at h4
   obtain ⟨h4,_⟩:=h4;subst h4;refine ⟨⟨r2.1,r2.2.1,r2.2.2.1,?_⟩,fun hh=>absurd (r1.symm.trans hh) hbp.2,hfr⟩
   unfold arOk;simp only
   rw [hfl]; exact r2.2.2.2
 | false =>
   simp only[hb,Prod.mk.injEq] at h4
   obtain ⟨h4,_⟩:=h4;subst h4;exact ok1.1
theorem nodes_lin {inp tl:Int} (hi:1≤inp∧inp≤4) :∀(k:Nat) {n:Nat} {s s':SrcD} {ms:List NodeD},srcOk n s→52 * k≤n→itD (nodeStep true inp tl) k [] s=(ms,s')→ms.length=k∧∀ i,i < ms.length→NodeOk inp tl i (ms.getD i n0):=by
 intro k
 induction k with
 | zero=>intro n s s' ms _ _ e; simp only[itD,Prod.mk.injEq] at e; rw [← e.1]; exact ⟨rfl,fun i hi=>by simp at hi⟩
 | succ k ih =>
   intro n s s' ms hs hn e
   rcases h1:itD (nodeStep true inp tl) k [] s with ⟨ns,s1⟩
   have h2:=itD_succ h1
   rw [e] at h2;have hs1:=(Cost.it (nodeStep_cost true inp tl) k []).at hs (by omega) h1
   obtain ⟨i1,i2⟩:=ih hs (by omega) h1
   obtain ⟨nd,rfl,hnd⟩:=nodeStep_lin hi hs1 (by omega) h2.symm
   refine ⟨by simp [i1],fun i hi'=>?_⟩
   simp only[List.length_append,List.length_cons,List.length_nil] at hi'
   by_cases hc:i < ns.length
   · rw [List.getD_eq_getElem?_getD,List.getElem?_append_left hc,← List.getD_eq_getElem?_getD]; exact i2 i hc
   · obtain rfl:i=ns.length:=by omega
     rw [List.getD_eq_getElem?_getD,List.getElem?_append_right (by omega),Nat.sub_self]; exact hnd
def NodeFin (inp tl:Int) (n bl:Nat) (nd:NodeD):Prop:=LinN tl nd∧(nd.1=1→0≤nd.2.1∧nd.2.1 < inp)∧(∀ f∈nd.2.2.2,0≤f∧f < n)∧(nd.1≠6→∀ f∈nd.2.2.2,f < bl)
theorem dels_lin {inp tl:Int} {L:Nat} (hL:0 < L) :∀(k:Nat) {n:Nat} {s s':SrcD} {ns ms:List NodeD},ns.length=L→(∀ i,i < L→NodeFin inp tl L i (ns.getD i n0))→srcOk n s→4 * k≤n→itI (delOne (L:Int)) k ns s=(ms,s')→ms.length=L∧∀ i,i < L→NodeFin inp tl L i (ms.getD i n0):=by
 intro k
 induction k with
 | zero=>intro n s s' ns ms hl h _ _ e; simp only[itI,Prod.mk.injEq] at e; rw [← e.1]; exact ⟨hl,h⟩
 | succ k ih =>
   intro n s s' ns ms hl h hs hn e
   rcases h1:itI (delOne (L:Int)) k ns s with ⟨qs,s1⟩
   have h2:=itI_succ h1
   rw [e] at h2;have hs1:=(Cost.itI (delOne_cost (L:Int)) k ns).at hs (by omega) h1
   obtain ⟨i1,i2⟩:=ih hl h hs (by omega) h1
   have h2:=h2.symm
   unfold delOne at h2
   split at h2
   · rename_i h6
     have h6:=of_decide_eq_true h6
     rcases h3:oneD 2 s1 with ⟨o,s3⟩
     rw [bnd_of h3] at h2;have hs3:=oneD_at hs1 (by omega) h3
     cases o with
     | true =>
       simp only at h2
       rcases h4:pickD (L:Int) s3 with ⟨v,s4⟩
       rw [bnd_of h4] at h2;obtain ⟨_,h5,h7,_⟩:=pickD_at hs3 (by omega) h4
       have h7:=h7 (by omega)
       simp only[Prod.mk.injEq] at h2
       rw [← h2.1];refine ⟨by rw [List.length_set]; exact i1,fun i hi=>?_⟩
       by_cases hk:k=i
       · subst hk;rw [getD_set (by omega),if_pos rfl]
         obtain ⟨a1,a2,a3,a4⟩:=i2 k hi
         refine ⟨⟨a1.1,a1.2.1,a1.2.2.1,?_⟩,a2,fun f hf=>?_,fun hh=>absurd h6 hh⟩
         · have:=a1.2.2.2; unfold arOk at this ⊢; simp only[setF,List.length_set]; exact this
         · rcases List.mem_or_eq_of_mem_set hf with hf | rfl
           · exact a3 f hf
           · exact ⟨h5,h7⟩
       · by_cases hkl:k < qs.length
         · rw [getD_set hkl,if_neg hk]; exact i2 i hi
         · rw [List.set_eq_of_length_le (by omega)]; exact i2 i hi
     | false=>simp only[Prod.mk.injEq] at h2; rw [← h2.1]; exact ⟨i1,i2⟩
   · simp only[Prod.mk.injEq] at h2; rw [← h2.1]; exact ⟨i1,i2⟩
theorem LinN.b {tl:Int} {nd:NodeD} (h:LinN tl nd) (hf :∀f∈nd.2.2.2,0≤f∧f≤23):nodeB nd tl=true:=by
 obtain ⟨kd,a,bb,fr⟩:=nd;obtain ⟨h1,h2,h3,h4⟩:=h;rw [← l06okB_eq];unfold l06okB;have hk:inR kd 1 17=true:=by simp only at h1; unfold linK at h1; exact inR_t (by omega) (by omega)
 have h5:decide ((fr.length:Int)=arL.getD kd.toNat 0)=true:=by
  unfold arOk at h4;simp only at h4 h1
  rcases h1 with rfl | rfl | rfl | rfl | rfl | rfl | rfl | rfl<;>rw [h4]<;>rfl
 have h6:fr.all (fun f=>inR f 0 23)=true:=List.all_eq_true.2 fun f hf'=>inR_t (hf f hf').1 (hf f hf').2
 simp only at h2 h3
 rw [hk,h2,h5,h6]; exact h3
theorem l07D_lin {inp out most:Int} {n:Nat} {s s':SrcD} {p:PatchD} (hs:srcOk n s) (hn:1300≤n) (hi:1≤inp∧inp≤4) (ho:0≤out∧out≤4) (hm:1≤most∧most≤20) (e:l07D inp out most true s=(p,s')) :
 patchB p=true∧linP p∧p.1=inp∧p.2.2.2.length=out.toNat∧p.2.1=[]:=by
 unfold l07D at e;have e:bnd (pickD most) (fun x s=>bnd (itD (nodeStep true inp (([]:List (List Int)).length:Int)) (1+x).toNat []) (fun ns s=>bnd (itI (delOne ns.length) ns.length ns) (fun ms s=>bnd (itD (snocD (outD ns.length)) out.toNat []) (fun os s=>((inp,[],ms,os),s)) s) s) s) s=(p,s'):=e
 rcases hp:pickD most s with ⟨x,s1⟩
 rw [bnd_of hp] at e;obtain ⟨hs1,hx0,hx1,_⟩:=pickD_at hs (by omega) hp
 have hx1:=hx1 hm.1
 rcases hit:itD (nodeStep true inp (([]:List (List Int)).length:Int)) (1+x).toNat [] s1 with ⟨ns,s2⟩
 rw [bnd_of hit] at e;obtain ⟨hl,ha⟩:=nodes_lin hi _ hs1 (by omega) hit
 have hs2:=(Cost.it (nodeStep_cost true inp (([]:List (List Int)).length:Int)) (1+x).toNat []).at hs1 (by omega) hit
 rcases hid:itI (delOne ns.length) ns.length ns s2 with ⟨ms,s3⟩
 rw [bnd_of hid] at e;have hL:0 < ns.length:=by omega
 have hfin :∀i,i < ns.length→NodeFin inp (([]:List (List Int)).length:Int) ns.length i (ns.getD i n0):=fun i hi'=>by
  obtain ⟨a1,a2,a3⟩:=ha i hi'
  exact ⟨a1,a2,fun f hf=>by have:=a3 f hf; omega,fun _ f hf=>(a3 f hf).2⟩
 obtain ⟨b1,b2⟩:=dels_lin hL ns.length rfl hfin hs2 (by omega) hid
 have hs3:=(Cost.itI (delOne_cost ns.length) ns.length ns).at hs2 (by omega) hid
 rcases hio:itD (snocD (outD ns.length)) out.toNat [] s3 with ⟨os,s4⟩
 rw [bnd_of hio] at e;have hlo:os.length=out.toNat:=by have:=itD_len (m:=outD ns.length) (k:=out.toNat) (s:=s3) (xs:=[]); rw [hio] at this; simpa using this
 have hos:=outs_rng (b:=ns.length) (by omega) _ hs3 (by omega) hio
 simp only[Prod.mk.injEq] at e
 obtain ⟨e,_⟩:=e;subst e;have hlen:ns.length≤20:=by omega
 have hmem :∀nd∈ms,∃ i,i < ns.length∧nd=ms.getD i n0:=fun nd hd=>by
  obtain ⟨i,hi',rfl⟩:=List.mem_iff_getElem.1 hd
  exact ⟨i,by omega,by simp [List.getD,hi']⟩
 have hF:formedB (inp,[],ms,os)=true:=by
  have c1:inR inp 0 4=true:=inR_t (by omega) (by omega)
  have c2:decide (ms.length≤24)=true:=decide_eq_true (by omega)
  have c3:decide (os.length≤4)=true:=decide_eq_true (by omega)
  have c4:idxs (ms.length:Int) os=true:=List.all_eq_true.2 fun f hf=>by have:=hos f hf; exact inR_t (by omega) (by omega)
  have c5:ms.all (nodeIn (inp,[],ms,os))=true:=List.all_eq_true.2 fun nd hd=>by
   obtain ⟨i,hi',rfl⟩:=hmem nd hd
   obtain ⟨a1,a2,a3,a4⟩:=b2 i hi'
   refine nodeIn_t (a1.b fun f hf=>by have:=a3 f hf; omega) (List.all_eq_true.2 fun f hf=>by have:=a3 f hf; exact inR_t (by omega) (by show f≤(ms.length:Int) - 1; omega)) fun hh=>?_
   have:=a2 hh.1
   have h3:inp≤(ms.getD i n0).2.1:=hh.2
   omega
  unfold formedB;simp only[c1,c2,c3,c4,c5,Bool.and_self,Bool.and_true]
  rfl
 have hO:(ordL ms).length=ms.length:=ordL_full fun i hi' f hf=>by
  obtain ⟨a1,a2,a3,a4⟩:=b2 i (by omega)
  unfold waitsL at hf
  split at hf
  · cases hf
  · rename_i h6
    have h6:=of_decide_eq_false h6
    have h7:=a3 f hf
    have h8:=a4 h6 f hf
    exact ⟨f.toNat,by omega,by omega⟩
 refine ⟨?_,fun nd hd=>?_,rfl,hlo,rfl⟩
 · unfold patchB; rw [hF]; simp only[Bool.true_and]; exact decide_eq_true hO
 · obtain ⟨i,hi',rfl⟩:=hmem nd hd
   exact (b2 i hi').1.1
def linD:DM PatchD:=bnd (pickD 2) fun a s=>bnd (pickD 2) (fun b s=>l07D (1+a) (1+b) 9 true s) s
theorem linD_ok {n:Nat} {s s':SrcD} {p:PatchD} (hs:srcOk n s) (hn:1304≤n) (e:linD s=(p,s')):patchB p=true∧linP p∧(1≤p.1∧p.1≤2)∧(1≤p.2.2.2.length∧p.2.2.2.length≤2)∧p.2.1=[]:=by
 unfold linD at e;rcases h1:pickD 2 s with ⟨a,s1⟩
 rw [bnd_of h1] at e;obtain ⟨hs1,a0,a1,_⟩:=pickD_at hs (by omega) h1
 have a1:=a1 (by omega)
 rcases h2:pickD 2 s1 with ⟨b,s2⟩
 rw [bnd_of h2] at e;obtain ⟨hs2,b0,b1,_⟩:=pickD_at hs1 (by omega) h2
 have b1:=b1 (by omega)
 obtain ⟨q1,q2,q3,q4,q5⟩:=l07D_lin hs2 (by omega) (by omega) (by omega) (by omega) e
 exact ⟨q1,q2,by omega,by omega,q5⟩
open Go.RowKit
section
variable {p:PatchD} {n:Nat} {f g:Nat→List Int}
end
def linC (cd:List Int):PatchD:=(linD (cd,0,0)).1
theorem linC_ok {cd:List Int} (h :∀b∈cd,0≤b∧b≤255):patchB (linC cd)=true∧linP (linC cd)∧(1≤(linC cd).1∧(linC cd).1≤2)∧(1≤(linC cd).2.2.2.length∧(linC cd).2.2.2.length≤2):=by
 obtain ⟨a,b,c,d,_⟩:=linD_ok (s:=(cd,0,0)) (n:=2000) ⟨h,by simp,by simp⟩ (by omega) (p:=linC cd) (s':=(linD (cd,0,0)).2) rfl
 exact ⟨a,b,c,d⟩
end Go.Proofs.YtgmabhkmiokiaaaGreat
