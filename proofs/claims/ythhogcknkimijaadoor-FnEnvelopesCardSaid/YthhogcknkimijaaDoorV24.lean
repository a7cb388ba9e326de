/-
  Texts of this claim, joined (part 24). No condition beyond those of the theorems.
-/
import Derived.Test.YthhogcknkimijaaDoorV18
import Derived.Test.YthhogcknkimijaaDoorV23
import Derived.Test.YthhogcknkimijaaDoorV09
namespace Go.Proofs.YthhogcknkimijaaDoor
open Go.RowKit
set_option linter.unusedSimpArgs false
set_option linter.unusedVariables false
def lineE (f t l a:Int):Int:=match decide (a=l) with|true=>t|false=>f+divF2 ((t - f) * a) l
theorem lineE_t {f t l a:Int} (h:a=l):lineE f t l a=t:=by unfold lineE;rw[decide_eq_true h]
theorem lineE_f {f t l a:Int} (h:¬a=l):lineE f t l a=f+divF2 ((t - f) * a) l:=by unfold lineE;rw[decide_eq_false h]
def lnOk (f t l a:Int):Prop:=(0≤f∧f≤65536)∧(0≤t∧t≤65536)∧(0≤l∧l≤4000)∧0≤a∧a≤l
theorem ln_prod {f t l a:Int} (h:lnOk f t l a):-262144000≤(t - f) * a∧(t - f) * a≤262144000:=by
 obtain⟨hf,ht,hl,ha⟩:=h
 have h1:(t - f) * a≤65536 * 4000:=by
  rcases Int.le_total 0 (t - f) with h|h
  · exact Int.le_trans (Int.mul_le_mul_of_nonneg_right (by omega) ha.1) (Int.mul_le_mul_of_nonneg_left (by omega) (by omega))
  · have:=Int.mul_le_mul_of_nonneg_right h ha.1;omega
 have h2:-(65536 * 4000)≤(t - f) * a:=by
  have h3:(f - t) * a≤65536 * 4000:=by
   rcases Int.le_total 0 (f - t) with h|h
   · exact Int.le_trans (Int.mul_le_mul_of_nonneg_right (by omega) ha.1) (Int.mul_le_mul_of_nonneg_left (by omega) (by omega))
   · have:=Int.mul_le_mul_of_nonneg_right h ha.1;omega
  have e:(f - t) * a=-((t - f) * a):=by rw[←Int.neg_mul];congr 1;omega
  omega
 omega
theorem lineE_bd {f t l a:Int} (h:lnOk f t l a):0≤lineE f t l a∧lineE f t l a≤65536:=by
 obtain⟨hf,ht,hl0,ha⟩:=h
 by_cases e:a=l
 · rw[lineE_t e];exact ht
 · rw[lineE_f e]
   unfold divF2
   have hl:0 < l:=by omega
   have h1:-f * l≤(t - f) * a:=by
    have:=Int.mul_le_mul_of_nonneg_right (show -f≤t - f by omega) ha.1
    have:=Int.mul_le_mul_of_nonneg_left ha.2 hf.1
    have e1:-f * a=-(f * a):=Int.neg_mul f a
    have e2:-f * l=-(f * l):=Int.neg_mul f l
    omega
   have h2:(t - f) * a≤(65536 - f) * l:=by
    have:=Int.mul_le_mul_of_nonneg_right (show t - f≤65536 - f by omega) ha.1
    have:=Int.mul_le_mul_of_nonneg_left ha.2 (show 0≤65536 - f by omega)
    omega
   have h3:-f≤(t - f) * a / l:=by rw[Int.le_ediv_iff_mul_le hl];exact h1
   have h4:(t - f) * a / l≤65536 - f:=by
    have:=Int.ediv_le_ediv (c:=l) hl h2
    rwa [Int.mul_ediv_cancel _ (by omega)] at this
   omega
theorem ln_div {f t l a:Int} (h:lnOk f t l a) (e:¬a=l):0 < l∧-65536≤divF2 ((t - f) * a) l∧divF2 ((t - f) * a) l≤65536:=by
 have h1:=lineE_bd h
 rw[lineE_f e] at h1
 obtain⟨hf,ht,hl0,ha⟩:=h
 exact⟨by omega,by omega,by omega⟩
def heldG:Int→List SegD→Int→Int
 | lv,[],_=>lv
 | lv,p::ps,a=>match decide (a < p.1) with|true=>lineE lv p.2 p.1 a|false=>heldG p.2 ps (a - p.1)
theorem heldG_t {lv a:Int} {ps:List SegD} {k:Nat} (hk:k < ps.length) (h:a < (ps.getD k (0,0)).1):heldG lv (ps.drop k) a=lineE lv (ps.getD k (0,0)).2 (ps.getD k (0,0)).1 a:=by
 have e:ps.getD k (0,0)=ps[k]:=by simp[List.getD,hk]
 rw[e] at h ⊢
 rw[List.drop_eq_getElem_cons hk]
 simp only[heldG,decide_eq_true h]
theorem heldG_f {lv a:Int} {ps:List SegD} {k:Nat} (hk:k < ps.length) (h:¬a < (ps.getD k (0,0)).1):heldG lv (ps.drop k) a=heldG (ps.getD k (0,0)).2 (ps.drop (k+1)) (a - (ps.getD k (0,0)).1):=by
 have e:ps.getD k (0,0)=ps[k]:=by simp[List.getD,hk]
 rw[e] at h ⊢
 rw[List.drop_eq_getElem_cons hk]
 simp only[heldG,decide_eq_false h]
theorem heldG_end {lv a:Int} {ps:List SegD} {k:Nat} (hk:ps.length≤k):heldG lv (ps.drop k) a=lv:=by rw[List.drop_eq_nil_of_le hk];rfl
theorem segB_bd {x:SegD} (h:segB x=true):(0≤x.1∧x.1≤4000)∧0≤x.2∧x.2≤65536:=by
 simp only[segB,Bool.and_eq_true] at h
 exact⟨inR_iff.1 h.1,inR_iff.1 h.2⟩
theorem segs_at {sg:List SegD} (h:sg.all segB=true) {k:Nat} (hk:k < sg.length):(0≤(sg.getD k ((0,0):Int × Int)).1∧(sg.getD k ((0,0):Int × Int)).1≤4000)∧0≤(sg.getD k ((0,0):Int × Int)).2∧(sg.getD k ((0,0):Int × Int)).2≤65536:=by
 have e:sg.getD k ((0,0):Int × Int)=sg[k]:=by simp[List.getD,hk]
 rw[e]
 exact segB_bd (List.all_eq_true.1 h _ (List.getElem_mem hk))
theorem heldG_bd {ps:List SegD} (hp:ps.all segB=true) {s a:Int} (hs:0≤s∧s≤65536) (ha:0≤a):0≤heldG s ps a∧heldG s ps a≤65536:=by
 induction ps generalizing s a with
 | nil=>exact hs
 | cons p ps ih =>
   simp only[List.all_cons,Bool.and_eq_true] at hp
   obtain⟨h1,h2⟩:=segB_bd hp.1
   by_cases h:a < p.1
   · simp only[heldG,decide_eq_true h];exact lineE_bd ⟨hs,h2,h1,ha,by omega⟩
   · simp only[heldG,decide_eq_false h];exact ih hp.2 h2 (by omega)
def HeldI (st:Int) (sg:List SegD) (a:Int) (p:Nat × Int × Int):Prop :=
 p.1≤sg.length∧heldG st sg a=heldG p.2.2 (sg.drop p.1) p.2.1∧(0≤p.2.1∧p.2.1≤1000000000)∧0≤p.2.2∧p.2.2≤65536
theorem HeldI.next {st a k1 l1:Int} {sg:List SegD} {k:Nat} (ha:sg.all segB=true) (h:HeldI st sg a (k,k1,l1)) (hk:k < sg.length) (hn:¬k1 < (sg.getD k ((0,0):Int × Int)).1):HeldI st sg a (k+1,k1 - (sg.getD k ((0,0):Int × Int)).1,(sg.getD k ((0,0):Int × Int)).2):=by
 obtain⟨h1,h2,h3,h4⟩:=h
 obtain⟨hx1,hx2⟩:=segs_at ha hk
 simp only at h1 h2 h3 h4
 refine⟨?_,?_,?_,hx2⟩
 · show k+1≤sg.length;omega
 · show heldG st sg a=heldG (sg.getD k ((0,0):Int × Int)).2 (sg.drop (k+1)) (k1 - (sg.getD k ((0,0):Int × Int)).1)
   rw[h2];exact heldG_f hk hn
 · show 0≤k1 - (sg.getD k ((0,0):Int × Int)).1∧k1 - (sg.getD k ((0,0):Int × Int)).1≤1000000000
   omega
def levelE (e:EnvD) (g a:Int):Int:=match decide (a < g) with
 | true=>heldG e.1 e.2.1 a
 | false=>match decide (e.2.2 < a - g) with|true=>0|false=>lineE (heldG e.1 e.2.1 g) 0 e.2.2 (a - g)
theorem levelE_1 {e:EnvD} {g a:Int} (h:a < g):levelE e g a=heldG e.1 e.2.1 a:=by unfold levelE;rw[decide_eq_true h]
theorem levelE_2 {e:EnvD} {g a:Int} (h:¬a < g) (h2:e.2.2 < a - g):levelE e g a=0:=by unfold levelE;rw[decide_eq_false h,decide_eq_true h2]
theorem levelE_3 {e:EnvD} {g a:Int} (h:¬a < g) (h2:¬e.2.2 < a - g):levelE e g a=lineE (heldG e.1 e.2.1 g) 0 e.2.2 (a - g):=by unfold levelE;rw[decide_eq_false h,decide_eq_false h2]
def timeOk (e:EnvD) (g a:Int):Prop:=envB e=true∧(0≤g∧g≤1000000000)∧0≤a∧a≤1000000000
theorem levelE_bd {e:EnvD} {g a:Int} (h:timeOk e g a):0≤levelE e g a∧levelE e g a≤65536:=by
 obtain⟨he,hg,ha⟩:=h
 obtain⟨h1,h2,h3,h4⟩:=envB_parts he
 obtain⟨h5,h6⟩:=inR_iff.1 h2
 obtain⟨h7,h8⟩:=inR_iff.1 h3
 have hh:=heldG_bd h1 ⟨h5,h6⟩ hg.1
 by_cases c:a < g
 · rw[levelE_1 c];exact heldG_bd h1 ⟨h5,h6⟩ ha.1
 · by_cases d:e.2.2 < a - g
   · rw[levelE_2 c d];omega
   · rw[levelE_3 c d];exact lineE_bd ⟨hh,⟨by omega,by omega⟩,⟨h7,h8⟩,by omega,by omega⟩
theorem lev_ln {e:EnvD} {g a:Int} (h:timeOk e g a) (c:¬a < g) (d:¬e.2.2 < a - g):lnOk (heldG e.1 e.2.1 g) 0 e.2.2 (a - g):=by
 obtain⟨he,hg,ha⟩:=h
 obtain⟨h1,h2,h3,h4⟩:=envB_parts he
 obtain⟨h5,h6⟩:=inR_iff.1 h2
 obtain⟨h7,h8⟩:=inR_iff.1 h3
 exact⟨heldG_bd h1 ⟨h5,h6⟩ hg.1,⟨by omega,by omega⟩,⟨h7,h8⟩,by omega,by omega⟩
theorem level_past {e:EnvD} {g a:Int} (hr:0≤e.2.2) (h:g+e.2.2≤a):levelE e g a=0:=by
 by_cases d:e.2.2 < a - g
 · exact levelE_2 (by omega) d
 · rw[levelE_3 (by omega) d,lineE_t (by omega)]
def lvlL (e:EnvD) (g:Int) (n:Nat):List Int:=(List.range n).map fun i=>levelE e g (i:Nat)
theorem lvlL_len (e:EnvD) (g:Int) (n:Nat):(lvlL e g n).length=n:=by simp[lvlL]
theorem lvlL_at {e:EnvD} {g:Int} {n k:Nat} (h:k < n):(lvlL e g n).getD k 0=levelE e g k:=by simp[lvlL,List.getD,h]
def endI (e:EnvD) (g:Int):Nat→Int
 | 0=>0
 | n+1=>match decide (levelE e g (n:Nat)=0) with|true=>endI e g n|false=>(n:Int)+1
theorem endI_0 {e:EnvD} {g:Int} {n:Nat} (h:¬0 < n):endI e g n=n:=by
 cases n with
 | zero=>rfl
 | succ n=>omega
theorem endI_t {e:EnvD} {g:Int} {n:Nat} (h:0 < n) (h2:levelE e g ((n:Int) - 1)=0):endI e g n=endI e g (n - 1):=by
 cases n with
 | zero=>omega
 | succ n => have e : ((n + 1 : Nat) : Int) - 1 = (n : Nat) := by omega
             rw[e] at h2
             simp only[endI,decide_eq_true h2,Nat.add_sub_cancel]
theorem endI_f {e:EnvD} {g:Int} {n:Nat} (h:0 < n) (h2:¬levelE e g ((n:Int) - 1)=0):endI e g n=n:=by
 cases n with
 | zero=>omega
 | succ n => have e : ((n + 1 : Nat) : Int) - 1 = (n : Nat) := by omega
             rw[e] at h2
             simp only[endI,decide_eq_false h2]
             omega
theorem endI_bd (e:EnvD) (g:Int) (n:Nat):0≤endI e g n∧endI e g n≤n:=by
 induction n with
 | zero=>exact⟨Int.le_refl _,Int.le_refl _⟩
 | succ n ih =>
   by_cases h:levelE e g (n:Nat)=0
   · simp only[endI,decide_eq_true h];omega
   · simp only[endI,decide_eq_false h];omega
theorem endI_above (e:EnvD) (g:Int) (n:Nat):∀i:Nat,endI e g n≤i→i < n→levelE e g i=0:=by
 induction n with
 | zero=>intro i _ h;omega
 | succ n ih =>
   intro i h1 h2
   by_cases h:levelE e g (n:Nat)=0
   · simp only[endI,decide_eq_true h] at h1
     by_cases c:i=n
     · subst c;exact h
     · exact ih i h1 (by omega)
   · simp only[endI,decide_eq_false h] at h1;omega
theorem endI_last (e:EnvD) (g:Int) (n:Nat):∀i:Nat,(i:Int)=endI e g n - 1→¬levelE e g i=0:=by
 induction n with
 | zero=>intro i h;simp only[endI] at h;omega
 | succ n ih =>
   intro i h1
   by_cases h:levelE e g (n:Nat)=0
   · simp only[endI,decide_eq_true h] at h1;exact ih i h1
   · simp only[endI,decide_eq_false h] at h1
     obtain rfl:i=n:=by omega
     exact h
def rndE (e:EnvD) (g n:Int):List Int × Int:=match envB e with
 | false=>([],1)
 | true=>match inR g 0 1000000000 && inR n 0 4000 with|true=>(lvlL e g n.toNat,0)|false=>([],2)
theorem rndE_1 {e:EnvD} {g n:Int} (h:envB e=false):rndE e g n=([],1):=by unfold rndE;rw[h]
theorem rndE_2 {e:EnvD} {g n:Int} (h:envB e=true) (h2:(inR g 0 1000000000 && inR n 0 4000)=false):rndE e g n=([],2):=by unfold rndE;rw[h,h2]
theorem rndE_0 {e:EnvD} {g n:Int} (h:envB e=true) (h2:(inR g 0 1000000000 && inR n 0 4000)=true):rndE e g n=(lvlL e g n.toNat,0):=by unfold rndE;rw[h,h2]
def endR (e:EnvD) (g:Int):Int × Int:=match envB e with
 | false=>(0,1)
 | true=>match inR g 0 4000 with|true=>(endI e g (g+e.2.2).toNat,0)|false=>(0,2)
theorem endR_1 {e:EnvD} {g:Int} (h:envB e=false):endR e g=(0,1):=by unfold endR;rw[h]
theorem endR_2 {e:EnvD} {g:Int} (h:envB e=true) (h2:inR g 0 4000=false):endR e g=(0,2):=by unfold endR;rw[h,h2]
theorem endR_0 {e:EnvD} {g:Int} (h:envB e=true) (h2:inR g 0 4000=true):endR e g=(endI e g (g+e.2.2).toNat,0):=by unfold endR;rw[h,h2]
def levR (e:EnvD) (g n:Int):Int × Int:=match envB e with
 | false=>(0,1)
 | true=>match inR g 0 1000000000 && inR n 0 1000000000 with|true=>(levelE e g n,0)|false=>(0,2)
theorem levR_1 {e:EnvD} {g n:Int} (h:envB e=false):levR e g n=(0,1):=by unfold levR;rw[h]
theorem levR_2 {e:EnvD} {g n:Int} (h:envB e=true) (h2:(inR g 0 1000000000 && inR n 0 1000000000)=false):levR e g n=(0,2):=by unfold levR;rw[h,h2]
theorem levR_0 {e:EnvD} {g n:Int} (h:envB e=true) (h2:(inR g 0 1000000000 && inR n 0 1000000000)=true):levR e g n=(levelE e g n,0):=by unfold levR;rw[h,h2]
def hldR (e:EnvD) (n:Int):Int × Int:=match envB e with
 | false=>(0,1)
 | true=>match inR n 0 1000000000 with|true=>(heldG e.1 e.2.1 n,0)|false=>(0,2)
theorem hldR_1 {e:EnvD} {n:Int} (h:envB e=false):hldR e n=(0,1):=by unfold hldR;rw[h]
theorem hldR_2 {e:EnvD} {n:Int} (h:envB e=true) (h2:inR n 0 1000000000=false):hldR e n=(0,2):=by unfold hldR;rw[h,h2]
theorem hldR_0 {e:EnvD} {n:Int} (h:envB e=true) (h2:inR n 0 1000000000=true):hldR e n=(heldG e.1 e.2.1 n,0):=by unfold hldR;rw[h,h2]
def lenS (sg:List SegD) (k:Nat):Int:=((sg.take k).map fun x=>x.1).sum
theorem lenS_0 (sg:List SegD):lenS sg 0=0:=rfl
theorem lenS_next {sg:List SegD} {k:Nat} (h:k < sg.length):lenS sg (k+1)=lenS sg k+(sg.getD k ((0,0):Int × Int)).1:=by
 unfold lenS
 rw[take_getD (d:=((0,0):Int × Int)) h,List.map_append,List.sum_append]
 simp
theorem lenS_bd {sg:List SegD} (ha:sg.all segB=true):∀k,k≤sg.length→0≤lenS sg k∧lenS sg k≤4000 * k:=by
 intro k
 induction k with
 | zero=>intro _;rw[lenS_0];omega
 | succ k ih =>
   intro h
   have h1:=ih (by omega)
   have h2:=(segs_at ha (show k < sg.length by omega)).1
   rw[lenS_next (by omega)]
   omega
theorem held_past {sg:List SegD} (ha:sg.all segB=true) (st:Int):∀k,k < sg.length→heldG st sg (lenS sg (k+1))=heldG (sg.getD k ((0,0):Int × Int)).2 (sg.drop (k+1)) 0:=by
 have key:∀j,j≤sg.length→∀a,lenS sg j≤a→∃l,heldG st sg a=heldG l (sg.drop j) (a - lenS sg j)∧(∀m,j=m+1→l=(sg.getD m ((0,0):Int × Int)).2):=by
  intro j
  induction j with
  | zero=>intro _ a _;exact⟨st,by simp[lenS_0],by intro m h;omega⟩
  | succ j ih =>
    intro hj a hle
    have hx:=(segs_at ha (show j < sg.length by omega)).1
    have hn:=lenS_next (sg:=sg) (show j < sg.length by omega)
    obtain⟨l,h1,_⟩:=ih (by omega) a (by omega)
    refine⟨(sg.getD j ((0,0):Int × Int)).2,?_,fun m h=>by cases (show j=m by omega);rfl⟩
    rw[h1,heldG_f (by omega) (by omega)]
    congr 1
    omega
 intro k hk
 obtain⟨l,h1,h2⟩:=key (k+1) (by omega) _ (Int.le_refl _)
 rw[h1,h2 k rfl,Int.sub_self]
theorem held_end {sg:List SegD} (ha:sg.all segB=true) (st:Int) {k:Nat} (hk:k < sg.length) (h:k+1=sg.length∨0 < (sg.getD (k+1) ((0,0):Int × Int)).1):heldG st sg (lenS sg (k+1))=(sg.getD k ((0,0):Int × Int)).2:=by
 rw[held_past ha st k hk]
 by_cases c:k+1 < sg.length
 · have h0:0 < (sg.getD (k+1) ((0,0):Int × Int)).1:=by rcases h with h|h;omega;exact h
   rw[heldG_t c h0,lineE_f (by omega)]
   simp[divF2]
 · exact heldG_end (by omega)
def segD:DM SegD:=bnd (pickD 12) fun a s=>bnd (amongD [0,7,100,1000,50000,65536]) (fun l s=>((a,l),s)) s
def snocG (m:DM SegD) (xs:List SegD):DM (List SegD):=bnd m fun x s=>(xs++[x],s)
theorem segD_cost:Cost 4 segD:=(pickD_cost 12).bnd (b:=2) fun a=>(amongD_cost _).bnd (b:=0) fun l=>Cost.pure _
theorem snocG_cost {m:DM SegD} {c:Nat} (h:Cost c m) (xs:List SegD):Cost c (snocG m xs):=h.bnd fun _=>Cost.pure _
def envM:DM EnvD:=bnd (amongD [0,0,0,100,65536]) fun st s=>bnd (pickD 5) (fun n s=>bnd (itD (snocG segD) n.toNat []) (fun sg s=>bnd (pickD 10) (fun rl s=>((st,sg,rl),s)) s) s) s
theorem segD_at {n:Nat} {s s':SrcD} {x:SegD} (h:srcOk n s) (hn:4≤n) (e:segD s=(x,s')):srcOk (n - 4) s'∧segB x=true:=by
 refine⟨segD_cost.at h hn e,?_⟩
 rcases h1:pickD 12 s with⟨a,s1⟩
 obtain⟨g1,b1,b2,_⟩:=pickD_at h (by omega) h1
 rcases h2:amongD [0,7,100,1000,50000,65536] s1 with⟨l,s2⟩
 obtain⟨g2,m2⟩:=amongD_at g1 (by omega) (by simp) h2
 have e2:segD s=((a,l),s2):=by simp only[segD,bnd,h1,h2]
 obtain⟨rfl,_⟩:=Prod.mk.inj (e2.symm.trans e)
 have b3:=b2 (by omega)
 simp only[List.mem_cons,List.not_mem_nil,or_false] at m2
 simp only[segB,Bool.and_eq_true]
 exact⟨inR_t b1 (by omega),inR_t (by omega) (by omega)⟩
theorem segsD_ok:∀(k n:Nat) (s:SrcD),srcOk n s→4 * k≤n→((itD (snocG segD) k [] s).1).all segB=true∧((itD (snocG segD) k [] s).1).length=k:=by
 intro k n s h
 induction k with
 | zero=>intro _;exact⟨rfl,rfl⟩
 | succ k ih =>
   intro hk
   obtain⟨h1,h2⟩:=ih (by omega)
   rcases e:itD (snocG segD) k [] s with⟨v,s1⟩
   rw[e] at h1 h2
   have hs1:=(Cost.it (snocG_cost segD_cost) k []).at h (by omega) e
   rcases e2:segD s1 with⟨x,s2⟩
   have hx:=(segD_at hs1 (by omega) e2).2
   rw[(itD_succ e).trans (bnd_of e2)]
   refine⟨?_,?_⟩
   · show (v++[x]).all segB=true
     rw[List.all_append,h1];simp[hx]
   · show (v++[x]).length=k+1
     simp at h2 ⊢;exact h2
def envC (cd:List Int):EnvD:=(envM (cd,0,0)).1
theorem envC_ok {cd:List Int} (h:∀b∈cd,0≤b∧b≤255):envB (envC cd)=true:=by
 have h0:srcOk 3000 (cd,0,0):=⟨h,by simp,by simp⟩
 unfold envC
 rcases h1:amongD [0,0,0,100,65536] (cd,0,0) with⟨st,s1⟩
 obtain⟨g1,m1⟩:=amongD_at h0 (by omega) (by simp) h1
 rcases h2:pickD 5 s1 with⟨n,s2⟩
 obtain⟨g2,b1,b2,_⟩:=pickD_at g1 (by omega) h2
 have b3:=b2 (by omega)
 obtain⟨a1,a2⟩:=segsD_ok n.toNat _ s2 g2 (by omega)
 rcases h3:itD (snocG segD) n.toNat [] s2 with⟨sg,s3⟩
 rw[h3] at a1 a2
 have g3:=(Cost.it (snocG_cost segD_cost) n.toNat []).at g2 (by omega) h3
 rcases h4:pickD 10 s3 with⟨rl,s4⟩
 obtain⟨g4,b4,b5,_⟩:=pickD_at g3 (by omega) h4
 have b6:=b5 (by omega)
 have e:envM (cd,0,0)=((st,sg,rl),s4):=by simp only[envM,bnd,h1,h2,h3,h4]
 rw[e]
 simp only at a1 a2
 simp only[List.mem_cons,List.not_mem_nil,or_false] at m1
 simp only[envB,Bool.and_eq_true]
 exact⟨a1,inR_t (by omega) (by omega),inR_t (by omega) (by omega),decide_eq_true (by omega)⟩
theorem rd_text {e:EnvD} (h:envB e=true):rdA envB (envT e)=(e,true):=by
 rw[envT_ok h]
 exact rdA_text envB (fun e h=>by
  obtain⟨h1,h2,h3,h4⟩:=envB_parts h
  obtain⟨a1,a2⟩:=inR_iff.1 h2
  obtain⟨b1,b2⟩:=inR_iff.1 h3
  refine⟨⟨a1,a2⟩,fun x hx=>?_,⟨b1,by omega⟩,h4⟩
  obtain⟨⟨c1,c2⟩,c3,c4⟩:=seg_bd h1 hx
  exact⟨c1,c2,c3,c4⟩) h
theorem envT_len {e:EnvD} (h:envB e=true):(envT e).length≤1048576:=by
 rw[envT_ok h]
 obtain⟨ha,hst,hrl,hsl⟩:=envB_parts h
 obtain⟨a1,a2⟩:=inR_iff.1 hst
 obtain⟨a3,a4⟩:=inR_iff.1 hrl
 have h1:=text_len a1 a2 ha hsl e.2.1.length
 rw[List.take_length] at h1
 have h2:=itoa_len a3 (by omega:e.2.2≤65536)
 simp only[textE,List.length_append,List.length_cons,List.length_nil] at h1 ⊢
 omega
theorem tmod_rng {x m:Int} (h1:0≤x) (h2:x≤255) (hm:1≤m):0≤x.tmod m∧x.tmod m≤255:=by
 have e:=Int.tmod_add_mul_tdiv x m
 have h3:=Int.tmod_nonneg m h1
 have h4:0≤x.tdiv m:=Int.tdiv_nonneg h1 (by omega)
 have h5:0≤m * x.tdiv m:=Int.mul_nonneg (by omega) h4
 omega
def atB (p:List Int) (k m:Int):Int:=match decide ((p.length:Int)≤k) || decide (m < 1) with
 | true=>0
 | false=>(p.getD k.toNat 0).tmod m
theorem atB_t {p:List Int} {k m:Int} (h:(p.length:Int)≤k∨m < 1):atB p k m=0:=by
 have e:(decide ((p.length:Int)≤k) || decide (m < 1))=true:=by rcases h with h|h<;>simp[h]
 unfold atB;rw[e]
theorem atB_f {p:List Int} {k m:Int} (h:¬(p.length:Int)≤k) (h2:¬m < 1):atB p k m=(p.getD k.toNat 0).tmod m:=by
 have e:(decide ((p.length:Int)≤k) || decide (m < 1))=false:=by simp[h,h2]
 unfold atB;rw[e]
theorem atB_bd {p:List Int} (h:∀b∈p,0≤b∧b≤255) {k m:Int} (hk:0≤k) (hm:1≤m):0≤atB p k m∧atB p k m < m:=by
 by_cases c:(p.length:Int)≤k
 · rw[atB_t (.inl c)];omega
 · rw[atB_f c (by omega)]
   have hl:k.toNat < p.length:=by omega
   have e:p.getD k.toNat 0=p[k.toNat]:=by simp[List.getD,hl]
   have hb:=h _ (List.getElem_mem hl)
   rw[←e] at hb
   exact⟨Int.tmod_nonneg _ hb.1,Int.tmod_lt_of_pos _ (by omega)⟩
end Go.Proofs.YthhogcknkimijaaDoor
