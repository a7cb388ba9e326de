/-
  Texts of this claim, joined (part 24). No condition beyond those of the theorems.
-/
import Derived.Test.YtenjbehedcegdaaGreatQ23
import Derived.Test.YtenjbehedcegdaaGreatQ04
namespace Go.Proofs.YtenjbehedcegdaaGreat
open Go.RowKit
set_option linter.unusedSimpArgs false
set_option linter.unusedVariables false
theorem B0H {n:B1} {ts:List (List Int)} {i s:List Int} (h:stepOk n ts i s):X2 n ts i s:=by
 obtain⟨h1,h2,h3,h4,h5,h6⟩:=h;exact⟨⟨ts.length,h1,fun _=>⟨rfl,h2⟩⟩,h3,h4,h5,h6⟩
def B8y (g:G0) (fr:List Int) (k:Nat) (st:U2):U2:=match decide ((g.2.2.2.1.getD k x0).1=18) with
 | true=>(st.1,st.2.set (A0O g.2.2.2.1 (xN (g.2.2.2.1.getD k x0))) ((st.2.getD (A0O g.2.2.2.1 (xN (g.2.2.2.1.getD k x0))) []).drop 1++[st.1.getD ((xF (g.2.2.2.1.getD k x0)).getD 0 0).toNat 0]))
 | false => match decide ((g.2.2.2.1.getD k x0).1 = 6) with
   | true=>(st.1.set (xT (g.2.2.2.1.getD k x0)).toNat ((st.2.getD k []).getD 0 0),st.2)
   | false=>(st.1.set (xT (g.2.2.2.1.getD k x0)).toNat (x4 (g.2.2.2.1.getD k x0).1 (g.2.2.2.1.getD k x0).2.1 g.2.2.1 (inX fr st.1 (g.2.2.2.1.getD k x0)) (st.2.getD k [])),
    st.2.set k (A0D (g.2.2.2.1.getD k x0).1 (inX fr st.1 (g.2.2.2.1.getD k x0)) (st.2.getD k []) (x4 (g.2.2.2.1.getD k x0).1 (g.2.2.2.1.getD k x0).2.1 g.2.2.1 (inX fr st.1 (g.2.2.2.1.getD k x0)) (st.2.getD k []))))
def B5X (g:G0) (fr:List Int) (st:U2):Nat→U2
 | 0=>st
 | k+1=>B8y g fr k (B5X g fr st k)
def RefOk (g:G0) (st:U2):Prop:=∃S,RunOk g (st.1,S)∧st.2=byI g.2.2.2.1 S
theorem B2R {g:G0} (hG:ProgOk g) {fr:List Int} (hfs:I9 fr=true) {r:List Int} {S:List (List Int)} (h:RunOk g (r,S)):∀k,k≤g.2.2.2.1.length→B5X g fr (r,byI g.2.2.2.1 S) k=((A1A g fr (r,S) k).1,byI g.2.2.2.1 (A1A g fr (r,S) k).2):=by
 intro k
 induction k with
 | zero=>intro _;rfl
 | succ k ih =>
   intro hk;have hR:=A58 hG hfs h k (by omega)
   have hk':k < g.2.2.2.1.length:=by omega
   show B8y g fr k (B5X g fr _ k)=((y2 g.2.2.1 fr (g.2.2.2.1.getD k x0) (A1A g fr (r,S) k)).1,byI _ (y2 g.2.2.1 fr (g.2.2.2.1.getD k x0) (A1A g fr (r,S) k)).2)
   rw[ih (by omega)]
   generalize A1A g fr (r,S) k=st at *
   obtain⟨rg,Q⟩:=st;have hQ:Q.length=24:=hR.sl
   unfold B8y y2
   by_cases h18:(g.2.2.2.1.getD k x0).1=18
   · obtain⟨b1,b2,b3⟩:=B4I hG hQ hk' h18
     rw[decide_eq_true h18];simp only
     rw[b2,b3]
   · rw[decide_eq_false h18];simp only
     by_cases h6:(g.2.2.2.1.getD k x0).1=6
     · rw[decide_eq_true h6];simp only
       rw[A5a hk' h18]
     · rw[decide_eq_false h6];simp only
       rw[A5a hk' h18,B3C hG hQ hk' h18]
theorem RefOk.step {g:G0} (hG:ProgOk g) {fr:List Int} (hfs:I9 fr=true) {st:U2} (h:RefOk g st) (k:Nat) (hk:k≤g.2.2.2.1.length):RefOk g (B5X g fr st k):=by
 obtain⟨r,B⟩:=st;obtain⟨S,h1,h2⟩:=h;have h2:B=byI g.2.2.2.1 S:=h2
 subst h2;rw[B2R hG hfs h1 k hk];exact⟨_,A58 hG hfs h1 k hk,rfl⟩
section
variable {g:G0} (hG:ProgOk g) {st:U2} (h:RefOk g st)
include h
theorem RefOk.rl:st.1.length=g.2.1.toNat:=by obtain⟨S,h1,_⟩:=h;exact h1.rl
theorem RefOk.rs:I9 st.1=true:=by obtain⟨S,h1,_⟩:=h;exact h1.rs
theorem RefOk.sl:st.2.length=g.2.2.2.1.length:=by obtain⟨S,_,h2⟩:=h;rw[h2,A59]
include hG
theorem RefOk.ins {fr:List Int} (hfs:I9 fr=true) {k:Nat} (hk:k < g.2.2.2.1.length) (h18:¬(g.2.2.2.1.getD k x0).1=18) (h6:¬(g.2.2.2.1.getD k x0).1=6):X2 (H2 (g.2.2.2.1.getD k x0)) g.2.2.1 (inX fr st.1 (g.2.2.2.1.getD k x0)) (st.2.getD k []):=by
 obtain⟨S,h1,h2⟩:=h;rw[h2,A5a hk h18];exact B0H (A8c (st:=(st.1,S)) hG hfs h1 hk h18 h6)
theorem RefOk.dly {k:Nat} (hk:k < g.2.2.2.1.length) (h6:(g.2.2.2.1.getD k x0).1=6):1≤(st.2.getD k []).length∧(st.2.getD k []).length≤16:=by
 obtain⟨S,h1,h2⟩:=h;rw[h2,A5a hk (by omega)]
 have h3:=(h1.ss k hk (by omega)).1
 have h4:=(G7 (hG.ins k hk).1).2.2.2.2.1 h6
 have h5:(I0 (H2 (g.2.2.2.1.getD k x0))).length=(g.2.2.2.1.getD k x0).2.1.toNat:=A2w h6
 have h3:(S.getD (xN (g.2.2.2.1.getD k x0)).toNat []).length=_:=h3
 rw[h3,h5];omega
theorem RefOk.sto {k:Nat} (hk:k < g.2.2.2.1.length) (h18:(g.2.2.2.1.getD k x0).1=18):A0O g.2.2.2.1 (xN (g.2.2.2.1.getD k x0)) < g.2.2.2.1.length∧1≤(st.2.getD (A0O g.2.2.2.1 (xN (g.2.2.2.1.getD k x0))) []).length∧(st.2.getD (A0O g.2.2.2.1 (xN (g.2.2.2.1.getD k x0))) []).length≤16:=by
 obtain⟨q,h1,h2,h3⟩:=A0q hG hk h18
 obtain⟨g1,g2,g3⟩:=B2Y (code:=g.2.2.2.1) (N:=xN (g.2.2.2.1.getD k x0)) (q:=q) (by omega) (by unfold A3E;rw[decide_eq_true h2,decide_eq_true h3];rfl)
 exact⟨g1,RefOk.dly hG h g1 g2⟩
end
def A9E (n:B1):Prop:=1≤n.1∧n.1≤17∧(n.1=6→1≤n.2.1∧n.2.1≤16)∧(n.1=17→1≤n.2.2.1∧n.2.2.1≤16)
theorem B4p {r tb:Int} {x:A1} (h:A12 r tb x=true) (h18:¬x.1=18):A9E (H2 x):=by
 have hk:=A3H h
 have hp:=G7 h
 by_cases h6:x.1=6
 · exact⟨hk.1,by show x.1≤17;omega,fun _=>hp.2.2.2.2.1 h6,fun (e:x.1=17)=>by omega⟩
 · exact A4e ⟨tb,hp.2.2.2.2.2 h18 h6⟩
theorem B7N {r tb:Int} {x:A1} (h:A12 r tb x=true) (h1:x.1=1):0≤x.2.1:=by
 have hB:=(G7 h).2.2.2.2.2 (by omega) (by omega)
 obtain⟨kd,a,bb,nd,fr,tt⟩:=x;have h1:kd=1:=h1
 subst h1;have h2:=(O5 hB).2.2.1
 have h3:I6 a (kT 1).2.1 (kT 1).2.2.1=true:=h2
 exact(B4.1 h3).1
theorem B8r:∀k:Int,1≤k→k≤17→(kT k).1≤3:=by
 intro k h1 h2
 have:∀n:Nat,n < 17→(kT ((n:Int)+1)).1≤3:=by decide
 have h3:=this (k - 1).toNat (by omega)
 rwa [show ((k - 1).toNat:Int)+1=k by omega] at h3
theorem A9r {r tb:Int} {x:A1} (h:A12 r tb x=true):(xF x).length≤3:=by
 have hk:=A3H h
 have hp:=G7 h
 by_cases h18:x.1=18
 · have:=hp.2.2.1 h18;omega
 · by_cases h6:x.1=6
   · have h1:=h
     obtain⟨kd,a,bb,nd,fr,tt⟩:=x;rw[A05] at h1;have h18:¬kd=18:=h18
     have h6:kd=6:=h6
     rw[decide_eq_false h18,decide_eq_true h6] at h1;simp only[Bool.and_eq_true,decide_eq_true_eq] at h1
     show fr.length≤3
     omega
   · have hB:=hp.2.2.2.2.2 h18 h6
     simp only[O7,Bool.and_eq_true,decide_eq_true_eq] at hB
     have h3:=hB.1.2
     have h4:=B8r x.1 hk.1 (by omega)
     have h5:((xF x).length:Int)=(kT x.1).1:=h3
     omega
def DlyI (code:List A1) (N:Int) (k:Nat):Prop:=k≤code.length∧∀j,j < k→A3E (code.getD j x0) N=false
theorem DlyI.next {code:List A1} {N:Int} {k:Nat} (h:DlyI code N k) (hk:k < code.length) (hn:¬((code.getD k x0).1=6∧xN (code.getD k x0)=N)):DlyI code N (k+1):=by
 refine⟨hk,fun j hj=>?_⟩
 by_cases e:j=k
 · subst e;unfold A3E
   by_cases h6:(code.getD j x0).1=6
   · have:¬xN (code.getD j x0)=N:=fun h2=>hn ⟨h6,h2⟩
     rw[decide_eq_false this,Bool.and_false]
   · rw[decide_eq_false h6,Bool.false_and]
 · exact h.2 j (by omega)
theorem DlyI.hit {code:List A1} {N:Int} {k:Nat} (h:DlyI code N k) (hk:k < code.length) (h6:(code.getD k x0).1=6) (hN:xN (code.getD k x0)=N):A0O code N=k :=
 B9V hk (by unfold A3E;rw[decide_eq_true h6,decide_eq_true hN];rfl) h.2
theorem DlyI.fin {code:List A1} {N:Int} {k:Nat} (h:DlyI code N k) (hk:code.length≤k):A0O code N=0:=B8x fun j hj=>h.2 j (by omega)
section
variable {g:G0} {fr:List Int} {k:Nat} {r:List Int} {B:List (List Int)}
end
theorem B8e {g:G0} {ins:List (List Int)} {n:Int} (h:O0 g=false):A70 g ins n=([],1):=by unfold A70;rw[h]
theorem B9C {g:G0} {ins:List (List Int)} {n:Int} (h:O0 g=true) (h2:(decide ((ins.length:Int)=g.1) && ins.all d9 && I6 n 0 4000)=false):A70 g ins n=([],2):=by unfold A70;rw[h];simp only;rw[h2]
theorem B9O {g:G0} {ins:List (List Int)} {n:Int} (h:O0 g=true) (h2:(decide ((ins.length:Int)=g.1) && ins.all d9 && I6 n 0 4000)=true):A70 g ins n=(W5 g ins n.toNat,0):=by unfold A70;rw[h];simp only;rw[h2]
structure RunC (g:G0) (ins:List (List Int)) (n:Int):Prop where
 pr:O0 g=true
 ln:(ins.length:Int)=g.1
 al:ins.all d9=true
 nr:0≤n∧n≤4000
theorem RunC.of {g:G0} {ins:List (List Int)} {n:Int} (h:O0 g=true) (h2:(decide ((ins.length:Int)=g.1) && ins.all d9 && I6 n 0 4000)=true):RunC g ins n:=by
 simp only[Bool.and_eq_true,decide_eq_true_eq] at h2
 exact⟨h,h2.1.1,h2.1.2,B4.1 h2.2⟩
section
variable {g:G0} {ins:List (List Int)} {n:Int} (h:RunC g ins n)
include h
theorem RunC.ok:ProgOk g:=A0R h.pr
theorem RunC.frame (t:Int):((D3 ins t).length:Int)=g.1∧I9 (D3 ins t)=true:=by
 have hs:A1G (g.1,[],[],[]) ins=true:=by unfold A1G;rw[h.al,decide_eq_true h.ln];rfl
 exact A34 (p:=(g.1,[],[],[])) (A9c.1 hs) t
theorem RunC.run (t:Nat):RunOk g (Q9 g ins t):=B7a h.ok (fun t=>(h.frame t).2) t
theorem RunC.step (t:Nat):B5X g (D3 ins (t:Int)) ((Q9 g ins t).1,byI g.2.2.2.1 (Q9 g ins t).2) g.2.2.2.1.length=((Q9 g ins (t+1)).1,byI g.2.2.2.1 (Q9 g ins (t+1)).2) :=
 B2R h.ok (h.frame t).2 (h.run t) _ (Nat.le_refl _)
theorem RunC.out {m:Nat} (hm:m < g.2.2.2.2.length):0≤g.2.2.2.2.getD m 0∧g.2.2.2.2.getD m 0 < g.2.1:=by
 have hG:=h.ok
 have hi:=A9K (r:=g.2.1) (code:=g.2.2.2.1) (os:=g.2.2.2.2) (fun x hx h18=>by
  obtain⟨k,hk,rfl⟩:=List.mem_iff_getElem.1 hx
  have e:g.2.2.2.1.getD k x0=g.2.2.2.1[k]:=by simp[List.getD,hk]
  have h1:=hG.ins k hk
  rw[e] at h1;exact(G7 h1.1).2.2.2.1 h18) hG.wr
 have:=O1 hi (C6 (d:=0) hm)
 omega
end
theorem A0I (g:G0) (rg:List Int):(A33 g rg).length=g.2.2.2.2.length:=by simp[A33]
theorem B12 (g:G0) (ins:List (List Int)):∀t,(W5 g ins t).length=g.2.2.2.2.length:=by
 intro t
 induction t with
 | zero=>simp[W5]
 | succ t ih=>show (P8 (W5 g ins t) _).length=_;rw[Y8 (by rw[ih,A0I]),A0I]
theorem B50 (g:G0) (ins:List (List Int)) {m:Nat} (hm:m < g.2.2.2.2.length):∀t,((W5 g ins t).getD m []).length=t:=by
 intro t
 induction t with
 | zero=>simp[W5,List.getD,hm]
 | succ t ih =>
   show ((P8 (W5 g ins t) (A33 g (Q9 g ins (t+1)).1)).getD m []).length=_
   rw[A28 (by rw[B12];exact hm) (by rw[A0I];exact hm)]
   simp only[List.length_append,List.length_cons,List.length_nil];omega
section
variable {ts:List (List Int)} {fr:List Int} {x:A1} {r:List Int} {B:List (List Int)}
theorem B7P (h:x.1=18):y2 ts fr x (r,B)=(r,B.set (xN x).toNat ((B.getD (xN x).toNat []).drop 1++[r.getD ((xF x).getD 0 0).toNat 0])):=by unfold y2;rw[decide_eq_true h]
theorem B9J (h:x.1=6):y2 ts fr x (r,B)=(r.set (xT x).toNat ((B.getD (xN x).toNat []).getD 0 0),B):=by
 unfold y2;rw[decide_eq_false (show ¬x.1=18 by omega),decide_eq_true h]
theorem B92 (h:¬x.1=18) (h6:¬x.1=6) (h1:¬x.1=1):y2 ts fr x (r,B)=(r.set (xT x).toNat (x4 x.1 x.2.1 ts ((xF x).map fun q=>r.getD q.toNat 0) (B.getD (xN x).toNat [])),
 B.set (xN x).toNat (A0D x.1 ((xF x).map fun q=>r.getD q.toNat 0) (B.getD (xN x).toNat []) (x4 x.1 x.2.1 ts ((xF x).map fun q=>r.getD q.toNat 0) (B.getD (xN x).toNat [])))):=by
 unfold y2 inX;rw[decide_eq_false h,decide_eq_false h6,decide_eq_false h1]
theorem B8j (h:x.1=1) (hB:B.getD (xN x).toNat []=[]) (hl:(xN x).toNat < B.length):y2 ts fr x (r,B)=(r.set (xT x).toNat (fr.getD x.2.1.toNat 0),B):=by
 unfold y2 inX;rw[decide_eq_false (show ¬x.1=18 by omega),decide_eq_false (show ¬x.1=6 by omega),decide_eq_true h]
 simp only
 rw[show A0D x.1 [fr.getD x.2.1.toNat 0] (B.getD (xN x).toNat []) (x4 x.1 x.2.1 ts [fr.getD x.2.1.toNat 0] (B.getD (xN x).toNat []))=[] from F7 (by omega) (by omega) (by omega) (by omega) (by omega) (by omega) (by omega)]
 refine Prod.ext ?_ ?_
 · show r.set _ (x4 x.1 _ _ _ _)=_
   rw[h];rfl
 · show B.set (xN x).toNat []=B
   refine List.ext_getElem (by simp) fun i h1 h2=>?_
   rw[List.getElem_set]
   split
   · rename_i e;subst e
     rw[show B.getD (xN x).toNat []=B[(xN x).toNat] by simp[List.getD,hl]] at hB
     exact hB.symm
   · rfl
end
section
variable {g:G0} (hG:ProgOk g) {st:U2} (h:RunOk g st) {k:Nat} (hk:k < g.2.2.2.1.length)
include hG h hk
theorem RunOk.dly (h6:(g.2.2.2.1.getD k x0).1=6):1≤(st.2.getD (xN (g.2.2.2.1.getD k x0)).toNat []).length∧(st.2.getD (xN (g.2.2.2.1.getD k x0)).toNat []).length≤16:=by
 have h1:=(h.ss k hk (by omega)).1
 have h4:=(G7 (hG.ins k hk).1).2.2.2.2.1 h6
 have h5:(I0 (H2 (g.2.2.2.1.getD k x0))).length=(g.2.2.2.1.getD k x0).2.1.toNat:=A2w h6
 rw[h1,h5];omega
theorem RunOk.sto (h18:(g.2.2.2.1.getD k x0).1=18):1≤(st.2.getD (xN (g.2.2.2.1.getD k x0)).toNat []).length∧(st.2.getD (xN (g.2.2.2.1.getD k x0)).toNat []).length≤16:=by
 obtain⟨q,h1,h2,h3⟩:=A0q hG hk h18
 have:=RunOk.dly hG h (k:=q) (by omega) h2
 rwa [h3] at this
omit hG in
theorem RunOk.inp (h1:(g.2.2.2.1.getD k x0).1=1):st.2.getD (xN (g.2.2.2.1.getD k x0)).toNat []=[]:=by
 have h2:=(h.ss k hk (by omega)).1
 have h3:I0 (H2 (g.2.2.2.1.getD k x0))=[]:=C2 (kd:=(g.2.2.2.1.getD k x0).1) (by omega) (by omega) (by omega) (by omega) (by omega) (by omega) (by omega)
 rw[h3] at h2;exact List.eq_nil_of_length_eq_zero h2
theorem RunOk.stp {fr:List Int} (hfs:I9 fr=true) (h18:¬(g.2.2.2.1.getD k x0).1=18) (h6:¬(g.2.2.2.1.getD k x0).1=6) (h1:¬(g.2.2.2.1.getD k x0).1=1) :
 X2 (H2 (g.2.2.2.1.getD k x0)) g.2.2.1 ((xF (g.2.2.2.1.getD k x0)).map fun q=>st.1.getD q.toNat 0) (st.2.getD (xN (g.2.2.2.1.getD k x0)).toNat []):=by
 have:=B0H (A8c (fr:=fr) hG hfs h hk h18 h6)
 unfold inX at this
 rwa [decide_eq_false h1] at this
end
theorem B76 {code:List A1} {k:Nat} (h:(code.getD k x0).1=18):j7 code (k+1)=j7 code k:=by
 show (match decide ((code.getD k x0).1=18) with|true=>j7 code k|false=>_)=_
 rw[decide_eq_true h]
theorem B9W {code:List A1} {k:Nat} (h:¬(code.getD k x0).1=18):j7 code (k+1)=(j7 code k).set (xN (code.getD k x0)).toNat (I0 (H2 (code.getD k x0))):=by
 show (match decide ((code.getD k x0).1=18) with|true=>j7 code k|false=>_)=_
 rw[decide_eq_false h]
theorem B3E {g:G0} (hG:ProgOk g):N2 g.2.1 g.2.2.2.2=true :=
 A9K (r:=g.2.1) (code:=g.2.2.2.1) (os:=g.2.2.2.2) (fun x hx h18=>by
  obtain⟨k,hk,rfl⟩:=List.mem_iff_getElem.1 hx
  have e:g.2.2.2.1.getD k x0=g.2.2.2.1[k]:=by simp[List.getD,hk]
  have h1:=hG.ins k hk
  rw[e] at h1;exact(G7 h1.1).2.2.2.1 h18) hG.wr
def A2R (g:G0) (ins:List (List Int)):Nat→List Int
 | 0=>List.replicate g.1.toNat 0
 | t+1=>D3 ins (t:Int)
theorem A1S (ins:List (List Int)) (t:Int):(D3 ins t).length=ins.length:=by simp[D3]
theorem B3i {g:G0} {ins:List (List Int)} (h:(ins.length:Int)=g.1):∀t,(A2R g ins t).length=ins.length:=by
 intro t;cases t with
 | zero=>simp only[A2R,List.length_replicate];omega
 | succ t=>exact A1S _ _
end Go.Proofs.YtenjbehedcegdaaGreat
