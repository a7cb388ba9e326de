/-
  Texts of this claim, joined (part 21). No condition beyond those of the theorems.
-/
import Derived.Test.YtenjbehedcegdaaR20
namespace Go.Proofs.Ytenjbehedcegdaa
open Go.RowKit
set_option linter.unusedSimpArgs false
set_option linter.unusedVariables false
theorem stepC_of {n:NodeD} {ts:List (List Int)} {i s:List Int} (h:stepOk n ts i s):stepC n ts i s:=by
 obtain⟨h1,h2,h3,h4,h5,h6⟩:=h
 exact⟨⟨ts.length,h1,fun _=>⟨rfl,h2⟩⟩,h3,h4,h5,h6⟩
def refS (g:ProgD) (fr:List Int) (k:Nat) (st:RunSt):RunSt:=match decide ((g.2.2.2.1.getD k x0).1=18) with
 | true=>(st.1,st.2.set (dlyN g.2.2.2.1 (xN (g.2.2.2.1.getD k x0))) ((st.2.getD (dlyN g.2.2.2.1 (xN (g.2.2.2.1.getD k x0))) []).drop 1++[st.1.getD ((xF (g.2.2.2.1.getD k x0)).getD 0 0).toNat 0]))
 | false => match decide ((g.2.2.2.1.getD k x0).1 = 6) with
   | true=>(st.1.set (xT (g.2.2.2.1.getD k x0)).toNat ((st.2.getD k []).getD 0 0),st.2)
   | false=>(st.1.set (xT (g.2.2.2.1.getD k x0)).toNat (outV (g.2.2.2.1.getD k x0).1 (g.2.2.2.1.getD k x0).2.1 g.2.2.1 (inX fr st.1 (g.2.2.2.1.getD k x0)) (st.2.getD k [])),
    st.2.set k (nextV (g.2.2.2.1.getD k x0).1 (inX fr st.1 (g.2.2.2.1.getD k x0)) (st.2.getD k []) (outV (g.2.2.2.1.getD k x0).1 (g.2.2.2.1.getD k x0).2.1 g.2.2.1 (inX fr st.1 (g.2.2.2.1.getD k x0)) (st.2.getD k []))))
def refK (g:ProgD) (fr:List Int) (st:RunSt):Nat→RunSt
 | 0=>st
 | k+1=>refS g fr k (refK g fr st k)
def RefOk (g:ProgD) (st:RunSt):Prop:=∃S,RunOk g (st.1,S)∧st.2=byI g.2.2.2.1 S
theorem refK_eq {g:ProgD} (hG:ProgOk g) {fr:List Int} (hfs:smps fr=true) {r:List Int} {S:List (List Int)} (h:RunOk g (r,S)):∀k,k≤g.2.2.2.1.length→refK g fr (r,byI g.2.2.2.1 S) k=((runK g fr (r,S) k).1,byI g.2.2.2.1 (runK g fr (r,S) k).2):=by
 intro k
 induction k with
 | zero=>intro _;rfl
 | succ k ih =>
   intro hk
   have hR:=run_all hG hfs h k (by omega)
   have hk':k < g.2.2.2.1.length:=by omega
   show refS g fr k (refK g fr _ k)=((stpX g.2.2.1 fr (g.2.2.2.1.getD k x0) (runK g fr (r,S) k)).1,byI _ (stpX g.2.2.1 fr (g.2.2.2.1.getD k x0) (runK g fr (r,S) k)).2)
   rw[ih (by omega)]
   generalize runK g fr (r,S) k=st at *
   obtain⟨rg,Q⟩:=st
   have hQ:Q.length=24:=hR.sl
   unfold refS stpX
   by_cases h18:(g.2.2.2.1.getD k x0).1=18
   · obtain⟨b1,b2,b3⟩:=byI_store hG hQ hk' h18
     rw[decide_eq_true h18]
     simp only
     rw[b2,b3]
   · rw[decide_eq_false h18]
     simp only
     by_cases h6:(g.2.2.2.1.getD k x0).1=6
     · rw[decide_eq_true h6]
       simp only
       rw[byI_at hk' h18]
     · rw[decide_eq_false h6]
       simp only
       rw[byI_at hk' h18,byI_set hG hQ hk' h18]
theorem RefOk.step {g:ProgD} (hG:ProgOk g) {fr:List Int} (hfs:smps fr=true) {st:RunSt} (h:RefOk g st) (k:Nat) (hk:k≤g.2.2.2.1.length):RefOk g (refK g fr st k):=by
 obtain⟨r,B⟩:=st
 obtain⟨S,h1,h2⟩:=h
 have h2:B=byI g.2.2.2.1 S:=h2
 subst h2
 rw[refK_eq hG hfs h1 k hk]
 exact⟨_,run_all hG hfs h1 k hk,rfl⟩
section
variable {g:ProgD} (hG:ProgOk g) {st:RunSt} (h:RefOk g st)
include h
theorem RefOk.rl:st.1.length=g.2.1.toNat:=by obtain⟨S,h1,_⟩:=h;exact h1.rl
theorem RefOk.rs:smps st.1=true:=by obtain⟨S,h1,_⟩:=h;exact h1.rs
theorem RefOk.sl:st.2.length=g.2.2.2.1.length:=by obtain⟨S,_,h2⟩:=h;rw[h2,byI_len]
include hG
theorem RefOk.ins {fr:List Int} (hfs:smps fr=true) {k:Nat} (hk:k < g.2.2.2.1.length) (h18:¬(g.2.2.2.1.getD k x0).1=18) (h6:¬(g.2.2.2.1.getD k x0).1=6):stepC (nodeX (g.2.2.2.1.getD k x0)) g.2.2.1 (inX fr st.1 (g.2.2.2.1.getD k x0)) (st.2.getD k []):=by
 obtain⟨S,h1,h2⟩:=h
 rw[h2,byI_at hk h18]
 exact stepC_of (run_ins (st:=(st.1,S)) hG hfs h1 hk h18 h6)
theorem RefOk.dly {k:Nat} (hk:k < g.2.2.2.1.length) (h6:(g.2.2.2.1.getD k x0).1=6):1≤(st.2.getD k []).length∧(st.2.getD k []).length≤16:=by
 obtain⟨S,h1,h2⟩:=h
 rw[h2,byI_at hk (by omega)]
 have h3:=(h1.ss k hk (by omega)).1
 have h4:=(ins_parts (hG.ins k hk).1).2.2.2.2.1 h6
 have h5:(startV (nodeX (g.2.2.2.1.getD k x0))).length=(g.2.2.2.1.getD k x0).2.1.toNat:=startV_six h6
 have h3:(S.getD (xN (g.2.2.2.1.getD k x0)).toNat []).length=_:=h3
 rw[h3,h5]
 omega
theorem RefOk.sto {k:Nat} (hk:k < g.2.2.2.1.length) (h18:(g.2.2.2.1.getD k x0).1=18):dlyN g.2.2.2.1 (xN (g.2.2.2.1.getD k x0)) < g.2.2.2.1.length∧1≤(st.2.getD (dlyN g.2.2.2.1 (xN (g.2.2.2.1.getD k x0))) []).length∧(st.2.getD (dlyN g.2.2.2.1 (xN (g.2.2.2.1.getD k x0))) []).length≤16:=by
 obtain⟨q,h1,h2,h3⟩:=prog_store hG hk h18
 obtain⟨g1,g2,g3⟩:=dlyN_at (code:=g.2.2.2.1) (N:=xN (g.2.2.2.1.getD k x0)) (q:=q) (by omega) (by unfold dlyP;rw[decide_eq_true h2,decide_eq_true h3];rfl)
 exact⟨g1,RefOk.dly hG h g1 g2⟩
end
def startI (x:InstrD):List Int:=match decide (x.1=18) with|true=>[]|false=>startV (nodeX x)
theorem byI_start {g:ProgD} (hG:ProgOk g):byI g.2.2.2.1 (strK g.2.2.2.1 g.2.2.2.1.length)=g.2.2.2.1.map startI:=by
 refine List.ext_getElem (by simp[byI]) fun i h1 h2=>?_
 have hi:i < g.2.2.2.1.length:=by simpa [byI] using h1
 have e:g.2.2.2.1.getD i x0=g.2.2.2.1[i]:=by simp[List.getD,hi]
 by_cases h18:(g.2.2.2.1.getD i x0).1=18
 · simp only[byI,List.getElem_map,startI]
   rw[←e,decide_eq_true h18]
 · have h3:=byI_at (S:=strK g.2.2.2.1 g.2.2.2.1.length) hi h18
   have h4:(byI g.2.2.2.1 (strK g.2.2.2.1 g.2.2.2.1.length)).getD i []=(byI g.2.2.2.1 (strK g.2.2.2.1 g.2.2.2.1.length))[i]:=by simp[List.getD,h1]
   rw[←h4,h3,List.getElem_map,←e]
   unfold startI
   rw[decide_eq_false h18]
   exact strK_at hG _ (Nat.le_refl _) i hi h18
def startC (n:NodeD):Prop:=1≤n.1∧n.1≤17∧(n.1=6→1≤n.2.1∧n.2.1≤16)∧(n.1=17→1≤n.2.2.1∧n.2.2.1≤16)
theorem ins_start {r tb:Int} {x:InstrD} (h:insB r tb x=true) (h18:¬x.1=18):startC (nodeX x):=by
 have hk:=ins_kind h
 have hp:=ins_parts h
 by_cases h6:x.1=6
 · exact⟨hk.1,by show x.1≤17;omega,fun _=>hp.2.2.2.2.1 h6,fun (e:x.1=17)=>by omega⟩
 · exact nodeC_parts ⟨tb,hp.2.2.2.2.2 h18 h6⟩
theorem startI_t {x:InstrD} (h:x.1=18):startI x=[]:=by unfold startI;rw[decide_eq_true h]
theorem startI_f {x:InstrD} (h:¬x.1=18):startI x=startV (nodeX x):=by unfold startI;rw[decide_eq_false h]
theorem ins_one {r tb:Int} {x:InstrD} (h:insB r tb x=true) (h1:x.1=1):0≤x.2.1:=by
 have hB:=(ins_parts h).2.2.2.2.2 (by omega) (by omega)
 obtain⟨kd,a,bb,nd,fr,tt⟩:=x
 have h1:kd=1:=h1
 subst h1
 have h2:=(nodeB_parts hB).2.2.1
 have h3:inR a (kT 1).2.1 (kT 1).2.2.1=true:=h2
 exact(inR_iff.1 h3).1
theorem kT_len:∀k:Int,1≤k→k≤17→(kT k).1≤3:=by
 intro k h1 h2
 have:∀n:Nat,n < 17→(kT ((n:Int)+1)).1≤3:=by decide
 have h3:=this (k - 1).toNat (by omega)
 rwa [show ((k - 1).toNat:Int)+1=k by omega] at h3
theorem ins_from {r tb:Int} {x:InstrD} (h:insB r tb x=true):(xF x).length≤3:=by
 have hk:=ins_kind h
 have hp:=ins_parts h
 by_cases h18:x.1=18
 · have:=hp.2.2.1 h18;omega
 · by_cases h6:x.1=6
   · have h1:=h
     obtain⟨kd,a,bb,nd,fr,tt⟩:=x
     rw[insB_v] at h1
     have h18:¬kd=18:=h18
     have h6:kd=6:=h6
     rw[decide_eq_false h18,decide_eq_true h6] at h1
     simp only[Bool.and_eq_true,decide_eq_true_eq] at h1
     show fr.length≤3
     omega
   · have hB:=hp.2.2.2.2.2 h18 h6
     simp only[nodeB,Bool.and_eq_true,decide_eq_true_eq] at hB
     have h3:=hB.1.2
     have h4:=kT_len x.1 hk.1 (by omega)
     have h5:((xF x).length:Int)=(kT x.1).1:=h3
     omega
def DlyI (code:List InstrD) (N:Int) (k:Nat):Prop:=k≤code.length∧∀j,j < k→dlyP (code.getD j x0) N=false
theorem DlyI.next {code:List InstrD} {N:Int} {k:Nat} (h:DlyI code N k) (hk:k < code.length) (hn:¬((code.getD k x0).1=6∧xN (code.getD k x0)=N)):DlyI code N (k+1):=by
 refine⟨hk,fun j hj=>?_⟩
 by_cases e:j=k
 · subst e
   unfold dlyP
   by_cases h6:(code.getD j x0).1=6
   · have:¬xN (code.getD j x0)=N:=fun h2=>hn ⟨h6,h2⟩
     rw[decide_eq_false this,Bool.and_false]
   · rw[decide_eq_false h6,Bool.false_and]
 · exact h.2 j (by omega)
theorem DlyI.hit {code:List InstrD} {N:Int} {k:Nat} (h:DlyI code N k) (hk:k < code.length) (h6:(code.getD k x0).1=6) (hN:xN (code.getD k x0)=N):dlyN code N=k :=
 dlyN_t hk (by unfold dlyP;rw[decide_eq_true h6,decide_eq_true hN];rfl) h.2
theorem DlyI.fin {code:List InstrD} {N:Int} {k:Nat} (h:DlyI code N k) (hk:code.length≤k):dlyN code N=0:=dlyN_f fun j hj=>h.2 j (by omega)
section
variable {g:ProgD} {fr:List Int} {k:Nat} {r:List Int} {B:List (List Int)}
theorem refS_18 (h:(g.2.2.2.1.getD k x0).1=18):refS g fr k (r,B)=(r,B.set (dlyN g.2.2.2.1 (xN (g.2.2.2.1.getD k x0))) ((B.getD (dlyN g.2.2.2.1 (xN (g.2.2.2.1.getD k x0))) []).drop 1++[r.getD ((xF (g.2.2.2.1.getD k x0)).getD 0 0).toNat 0])):=by unfold refS;rw[decide_eq_true h]
theorem refS_6 (h:(g.2.2.2.1.getD k x0).1=6):refS g fr k (r,B)=(r.set (xT (g.2.2.2.1.getD k x0)).toNat ((B.getD k []).getD 0 0),B):=by unfold refS;rw[decide_eq_false (show ¬(g.2.2.2.1.getD k x0).1=18 by omega),decide_eq_true h]
theorem refS_n (h:¬(g.2.2.2.1.getD k x0).1=18) (h6:¬(g.2.2.2.1.getD k x0).1=6):refS g fr k (r,B)=(r.set (xT (g.2.2.2.1.getD k x0)).toNat (outV (g.2.2.2.1.getD k x0).1 (g.2.2.2.1.getD k x0).2.1 g.2.2.1 (inX fr r (g.2.2.2.1.getD k x0)) (B.getD k [])),
        B.set k (nextV (g.2.2.2.1.getD k x0).1 (inX fr r (g.2.2.2.1.getD k x0)) (B.getD k []) (outV (g.2.2.2.1.getD k x0).1 (g.2.2.2.1.getD k x0).2.1 g.2.2.1 (inX fr r (g.2.2.2.1.getD k x0)) (B.getD k [])))):=by unfold refS;rw[decide_eq_false h,decide_eq_false h6]
end
end Go.Proofs.Ytenjbehedcegdaa
