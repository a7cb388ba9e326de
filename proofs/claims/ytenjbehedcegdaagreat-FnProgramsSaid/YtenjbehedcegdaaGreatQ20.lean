/-
  Texts of this claim, joined (part 20). No condition beyond those of the theorems.
-/
import Derived.Test.YtenjbehedcegdaaGreatQ19
namespace Go.Proofs.YtenjbehedcegdaaGreat
open Go.RowKit
set_option linter.unusedSimpArgs false
set_option linter.unusedVariables false
def Z3 (p:B7):List Int:=K0 p.2.2.1.length (C1 p.2.2.1) p.2.2.2
def AK (p:B7) (t:Nat):y8:=D4 (Z3 p) (C1 p.2.2.1) p.2.2.1.length t
abbrev cN (p:B7):Nat:=(C1 p.2.2.1).length
abbrev cX (p:B7) (t:Nat):A1:=(C1 p.2.2.1).getD t x0
def frR (p:B7) (t:Nat):Nat:=freeR (Z3 p) t (AK p t).1
def L7 (p:B7) (t:Nat):A1:=((cX p t).1,(cX p t).2.1,(cX p t).2.2.1,xN (cX p t),m6 (AK p t).2.1 (xF (cX p t)),match decide ((cX p t).1=18) with|true=>xT (cX p t)|false=>(frR p t:Int))
theorem B5Q {p:B7} {t:Nat} (h:(cX p t).1=18):(AK p (t+1)).1=(AK p t).1∧(AK p (t+1)).2.1=(AK p t).2.1∧(AK p (t+1)).2.2=(AK p t).2.2++[L7 p t]:=by
 obtain⟨a,b,c⟩:=B0f (last:=Z3 p) (n:=p.2.2.1.length) h
 refine⟨a,b,c.trans ?_⟩
 unfold L7;rw[decide_eq_true h];rfl
theorem B1x {p:B7} {t:Nat} (h:¬(cX p t).1=18):(AK p (t+1)).1=Z1 (AK p t).1 (frR p t) (xN (cX p t))∧(AK p (t+1)).2.1=(AK p t).2.1.set (xN (cX p t)).toNat (frR p t:Int)∧(AK p (t+1)).2.2=(AK p t).2.2++[L7 p t]:=by
 obtain⟨a,b,c⟩:=B0Y (last:=Z3 p) (n:=p.2.2.1.length) h rfl
 refine⟨a,b,c.trans ?_⟩
 unfold L7;rw[decide_eq_false h];rfl
theorem A0s (p:B7):∀m,(AK p m).2.2.length=m∧∀t,t < m→(AK p m).2.2.getD t x0=L7 p t:=by
 intro m
 induction m with
 | zero=>exact⟨rfl,fun t ht=>absurd ht (Nat.not_lt_zero _)⟩
 | succ m ih =>
   have e:(AK p (m+1)).2.2=(AK p m).2.2++[L7 p m]:=by
    by_cases c:(cX p m).1=18
    · exact(B5Q c).2.2
    · exact(B1x c).2.2
   rw[e];refine⟨by rw[List.length_append,ih.1];rfl,fun t ht=>?_⟩
   rcases Nat.lt_succ_iff_lt_or_eq.1 ht with h|h
   · rw[A03 (by rw[ih.1];exact h)];exact ih.2 t h
   · subst h;have:=A4b (c:=(AK p t).2.2) (x:=L7 p t)
     rwa [ih.1] at this
theorem A8x (p:B7) {t m:Nat} (h:t≤m):(AK p t).1.length≤(AK p m).1.length:=by
 induction h with
 | refl=>exact Nat.le_refl _
 | step h ih =>
   refine Nat.le_trans ih ?_
   rename_i m
   by_cases c:(cX p m).1=18
   · rw[(B5Q c).1];exact Nat.le_refl _
   · rw[(B1x c).1,U1];split<;>omega
/-! Last reads. -/
theorem A4M {v:Int} {q:Nat}:∀(is:List Int) {l:List Int},q < l.length→(Q0 l is v).getD q 0=v∨((Q0 l is v).getD q 0=l.getD q 0∧∀i∈is,i.toNat≠q):=by
 intro is
 induction is with
 | nil=>intro l h;exact .inr ⟨rfl,fun i hi=>by cases hi⟩
 | cons i is ih =>
   intro l h
   have e:Q0 l (i::is) v=Q0 (l.set i.toNat v) is v:=rfl
   rw[e];rcases ih (l:=l.set i.toNat v) (by rw[List.length_set];exact h) with h1|⟨h1,h2⟩
   · exact .inl h1
   · by_cases c:i.toNat=q
     · left;rw[h1,G6 (by omega),if_pos c]
     · right
       refine⟨?_,fun j hj=>?_⟩
       · rw[h1]
         by_cases hl:i.toNat < l.length
         · rw[G6 hl,if_neg c]
         · rw[List.set_eq_of_length_le (by omega)]
       · rcases List.mem_cons.1 hj with rfl|hj
         · exact c
         · exact h2 j hj
theorem B5j {n:Nat} {code:List A1} {t:Nat} {q:Int} (hq:q∈xF (code.getD t x0)) (hn:q.toNat < n):∀m,t < m→(t:Int)≤(U3 n code m).getD q.toNat 0:=by
 intro m
 induction m with
 | zero=>intro h;omega
 | succ m ih =>
   intro h;show (t:Int)≤(Q0 (U3 n code m) (code.getD m x0).2.2.2.2.1 (m:Int)).getD q.toNat 0
   rcases A4M (v:=(m:Int)) (code.getD m x0).2.2.2.2.1 (l:=U3 n code m) (q:=q.toNat) (by rw[o7];exact hn) with e|⟨e,e2⟩
   · rw[e];omega
   · rw[e];rcases Nat.lt_succ_iff_lt_or_eq.1 h with h'|h'
     · exact ih h'
     · subst h';exact absurd rfl (e2 q hq)
theorem B86 {p:B7} {t:Nat} {q:Int} (ht:t < cN p) (hq:q∈xF (cX p t)) (hn:q.toNat < p.2.2.1.length):(t:Int)≤(Z3 p).getD q.toNat 0:=by
 unfold Z3 K0;rcases A4M (v:=((C1 p.2.2.1).length:Int)) p.2.2.2 (l:=U3 p.2.2.1.length (C1 p.2.2.1) (C1 p.2.2.1).length) (q:=q.toNat) (by rw[o7];exact hn) with e|⟨e,_⟩
 · rw[e];have:t < (C1 p.2.2.1).length:=ht;omega
 · rw[e];exact B5j hq hn _ ht
theorem B6K {p:B7} {q:Int} (hq:q∈p.2.2.2) (hn:q.toNat < p.2.2.1.length):(Z3 p).getD q.toNat 0=(cN p:Int):=by
 unfold Z3 K0;rcases A4M (v:=((C1 p.2.2.1).length:Int)) p.2.2.2 (l:=U3 p.2.2.1.length (C1 p.2.2.1) (C1 p.2.2.1).length) (q:=q.toNat) (by rw[o7];exact hn) with e|⟨e,e2⟩
 · exact e
 · exact absurd rfl (e2 q hq)
section
variable {p:B7} (hP:G3 p=true)
include hP
theorem B8Z {t:Nat} (ht:t≤cN p):HeldOk p.2.2.1.length (C1 p.2.2.1) t (AK p t):=by
 obtain⟨c1,c2,_⟩:=Q5 (E1 hP).1
 exact A7L c1 c2 t ht
omit hP in
theorem A5D {t:Nat} (ht:t≤cN p):frR p t≤(AK p t).1.length∧(frR p t < (AK p t).1.length→¬(t:Int) < (Z3 p).getD ((AK p t).1.getD (frR p t) 0).toNat 0):=⟨(y0 (Z3 p) t (AK p t).1).1,(y0 (Z3 p) t (AK p t).1).2.2⟩
omit hP in
theorem B4X:∀t,t≤cN p→∀u,u < t→¬(cX p u).1=18→(t:Int)≤(Z3 p).getD (xN (cX p u)).toNat 0→xN (cX p u)∈(AK p t).1:=by
 intro t
 induction t with
 | zero=>intro _ u hu;omega
 | succ t ih =>
   intro ht u hu h18 hl
   by_cases c:(cX p t).1=18
   · rw[(B5Q c).1]
     have:u≠t:=fun e=>by subst e;exact h18 c
     exact ih (by omega) u (by omega) h18 (by omega)
   · obtain⟨f1,f2⟩:=A5D (show t≤cN p by omega)
     rw[(B1x c).1,B0m f1]
     by_cases e:u=t
     · subst e;exact .inl rfl
     · right
       obtain⟨j,hj,hj2⟩:=A6h (ih (by omega) u (by omega) h18 (by omega))
       refine⟨j,hj,fun ej=>?_,hj2⟩
       subst ej;have:=f2 hj
       rw[hj2] at this;omega
theorem B5Z {t:Nat} (ht:t≤cN p) {u:Nat} (hu:u < t) (h18:¬(cX p u).1=18) (hl:(t:Int)≤(Z3 p).getD (xN (cX p u)).toNat 0):∃r,r < (AK p t).1.length∧(AK p t).1.getD r 0=xN (cX p u)∧(AK p t).2.1.getD (xN (cX p u)).toNat 0=(r:Int):=by
 obtain⟨r,h1,h2⟩:=A6h (B4X t ht u hu h18 hl)
 refine⟨r,h1,h2,?_⟩
 rw[←h2];exact(B8Z hP ht).at_ r h1
theorem B6z {t:Nat} (ht:t < cN p) {q:Int} (hq:q∈xF (cX p t)):0≤q∧q.toNat < p.2.2.1.length:=by
 have:=O1 ((Q5 (E1 hP).1).1 _ (C6 (d:=x0) ht)).2.1 hq
 omega
theorem B0j {t:Nat} (ht:t < cN p) {q:Int} (hq:q∈xF (cX p t)):∃r,r < (AK p t).1.length∧(AK p t).1.getD r 0=q∧(AK p t).2.1.getD q.toNat 0=(r:Int):=by
 obtain⟨u,h1,h2,h3⟩:=(Q2 hP).frm t ht q hq
 obtain⟨g0,g1⟩:=B6z hP ht hq
 have h3:xN (cX p u)=q:=h3
 have:=B5Z hP (show t≤cN p by omega) h1 h2 (by rw[h3];exact B86 ht hq g1)
 rwa [h3] at this
theorem B3J {q:Int} (hq:q∈p.2.2.2):∃r,r < (AK p (cN p)).1.length∧(AK p (cN p)).1.getD r 0=q∧(AK p (cN p)).2.1.getD q.toNat 0=(r:Int):=by
 have hF:=(E1 hP).1
 have hb:=O1 (C0 hF).2.2.2.2.2.1 hq
 obtain⟨u,h1,h2,h3⟩:=(Q2 hP).all q.toNat (by omega)
 have h3:xN (cX p u)=q:=h3.trans (Int.toNat_of_nonneg hb.1)
 have:=B5Z hP (Nat.le_refl (cN p)) h1 h2 (by rw[h3,B6K hq (by omega)];exact Int.le_refl _)
 rwa [h3] at this
/-! A frame. -/
structure SimJ (p:B7) (s:List (List Int)) (fr v:List Int) (t:Nat) (st:U2):Prop where
 rl:st.1.length=(AK p (cN p)).1.length
 rv:∀r,r < (AK p t).1.length→st.1.getD r 0=v.getD ((AK p t).1.getD r 0).toNat 0
 sl:st.2.length=24
 old:∀i:Nat,i < p.2.2.1.length→(∀u,u < t→¬(cX p u).1=6→¬xN (cX p u)=(i:Int))→st.2.getD i []=s.getD i []
 new:∀u,u < t→¬(cX p u).1=6→st.2.getD (xN (cX p u)).toNat []=A17 p s fr v (v.getD (xN (cX p u)).toNat 0) (xN (cX p u)).toNat
section
variable {s:List (List Int)} {fr v:List Int} (hv:∀i:Nat,i < p.2.2.1.length→v.getD i 0=A77 p s fr v i) {t:Nat} (ht:t < cN p) {st:U2} (h:SimJ p s fr v t st)
omit hv in
include ht h in
theorem B56 {q:Int} (hq:q∈xF (cX p t)):st.1.getD ((AK p t).2.1.getD q.toNat 0).toNat 0=v.getD q.toNat 0:=by
 obtain⟨r,h1,h2,h3⟩:=B0j hP ht hq
 rw[h3,Int.toNat_natCast,h.rv r h1,h2]
omit hv in
include ht h in
theorem A7i:(xF (L7 p t)).map (fun q=>st.1.getD q.toNat 0)=(xF (cX p t)).map fun q=>v.getD q.toNat 0:=by
 show (m6 (AK p t).2.1 (xF (cX p t))).map _=_
 unfold m6;rw[List.map_map];exact List.map_congr_left fun q hq=>B56 hP ht h hq
include hv ht h
theorem B4s {i:Nat} (hi:i < p.2.2.1.length) (hx:cX p t=J4 (p.2.2.1.getD i n0) i) (h18:¬(p.2.2.1.getD i n0).1=18) (ho:st.2.getD i []=s.getD i []) :
 y2 p.2.1 fr (L7 p t) st=(st.1.set (frR p t) (v.getD i 0),match decide ((p.2.2.1.getD i n0).1=6) with|true=>st.2|false=>st.2.set i (A17 p s fr v (v.getD i 0) i)):=by
 have k1:(L7 p t).1=(p.2.2.1.getD i n0).1:=by show (cX p t).1=_;rw[hx];rfl
 have k2:(L7 p t).2.1=(p.2.2.1.getD i n0).2.1:=by show (cX p t).2.1=_;rw[hx];rfl
 have k3:xN (L7 p t)=(i:Int):=by show xN (cX p t)=_;rw[hx];rfl
 have k4:xT (L7 p t)=(frR p t:Int):=by show (match decide ((cX p t).1=18) with|true=>xT (cX p t)|false=>(frR p t:Int))=_;rw[decide_eq_false (by rw[hx];exact h18)]
 have k5:¬(p.2.2.1.getD i n0).1=6→inX fr st.1 (L7 p t)=A0N (p.2.2.1.getD i n0) fr v:=fun h6=>by
  unfold inX A0N;rw[k1,k2]
  by_cases c1:(p.2.2.1.getD i n0).1=1
  · rw[decide_eq_true c1]
  · rw[decide_eq_false c1,A7i hP ht h,hx];show (G9 (p.2.2.1.getD i n0)).map _=_
    unfold G9;rw[decide_eq_false h6]
 unfold y2;rw[k1,decide_eq_false h18,k3,k4];simp only[Int.toNat_natCast];rw[ho]
 by_cases h6:(p.2.2.1.getD i n0).1=6
 · rw[decide_eq_true h6];simp only
   rw[hv i hi];unfold A77 x4;rw[h6];rfl
 · rw[decide_eq_false h6];simp only
   rw[k5 h6,k2,hv i hi];unfold A17 A77
   rfl
omit hv in
theorem B4k {d:Nat} (hd:d < p.2.2.1.length) (h6:(p.2.2.1.getD d n0).1=6) (hx:cX p t=O4 (p.2.2.1.getD d n0) d) (ho:st.2.getD d []=s.getD d []) :
 y2 p.2.1 fr (L7 p t) st=(st.1,st.2.set d (A17 p s fr v (v.getD d 0) d)):=by
 have k1:(L7 p t).1=18:=by show (cX p t).1=_;rw[hx];rfl
 have k3:xN (L7 p t)=(d:Int):=by show xN (cX p t)=_;rw[hx];rfl
 have kx:xF (cX p t)=(p.2.2.1.getD d n0).2.2.2:=by rw[hx];rfl
 have hl:=(Z8 (E1 hP).1 hd).2.2.2.2 h6
 have e:=A7i hP ht h
 unfold y2;rw[k1,k3];simp only[decide_true,Int.toNat_natCast];rw[ho];unfold A17 A0D A0N;rw[h6];simp only[if_pos,decide_eq_true_eq];rw[kx] at e
 have e1:((xF (L7 p t)).map (fun q=>st.1.getD q.toNat 0)).getD 0 0=st.1.getD ((xF (L7 p t)).getD 0 0).toNat 0:=by
  have hl2:(xF (L7 p t)).length=1:=by show (m6 (AK p t).2.1 (xF (cX p t))).length=1;rw[kx,m6,List.length_map,hl]
  rw[←B5k hl2];rfl
 rw[←e1,e]
 rfl
omit hv h in
theorem A2i (h18:¬(cX p t).1=18) {u:Nat} (hu:u < t):¬xN (cX p u)=xN (cX p t):=fun e=>by
 have hD:=(Q5 (E1 hP).1).2.1
 by_cases c:(cX p u).1=18
 · obtain⟨w,h1,h2,h3⟩:=(Q2 hP).dly u (Nat.lt_trans hu ht) c
   exact hD w t (by omega) ht h2 h18 (h3.trans e)
 · exact hD u t hu ht c h18 e
omit hv h in
theorem A4k (h18:(cX p t).1=18) {u:Nat} (hu:u < t) (h6:¬(cX p u).1=6):¬xN (cX p u)=xN (cX p t):=fun e=>by
 have hA:=Q2 hP
 by_cases c:(cX p u).1=18
 · have:=hA.once u t (Nat.lt_trans hu ht) ht c h18 e;omega
 · rcases hA.each u (Nat.lt_trans hu ht) with⟨i,hi,hx,_⟩|⟨d,_,_,hx⟩
   · rcases hA.each t ht with⟨j,_,hy,hj⟩|⟨d,hd,hd6,hy⟩
     · have:(cX p t).1=(p.2.2.1.getD j n0).1:=by show ((C1 p.2.2.1).getD t x0).1=_;rw[hy];rfl
       exact hj (by rw[←this];exact h18)
     · have e1:xN (cX p u)=(i:Int):=by show xN ((C1 p.2.2.1).getD u x0)=_;rw[hx];rfl
       have e2:xN (cX p t)=(d:Int):=by show xN ((C1 p.2.2.1).getD t x0)=_;rw[hy];rfl
       have e3:(cX p u).1=(p.2.2.1.getD i n0).1:=by show ((C1 p.2.2.1).getD u x0).1=_;rw[hx];rfl
       obtain rfl:i=d:=by omega
       exact h6 (e3.trans hd6)
   · exact c (by show ((C1 p.2.2.1).getD u x0).1=_;rw[hx];rfl)
theorem B6N:SimJ p s fr v (t+1) (y2 p.2.1 fr (L7 p t) st):=by
 have hn24:=(C0 (E1 hP).1).1
 rcases (Q2 hP).each t ht with⟨i,hi,hx,h18⟩|⟨d,hd,h6,hx⟩
 · have hx:cX p t=J4 (p.2.2.1.getD i n0) i:=hx
   have k3:xN (cX p t)=(i:Int):=by rw[hx];rfl
   have k1:(cX p t).1=(p.2.2.1.getD i n0).1:=by rw[hx];rfl
   have kn:¬(cX p t).1=18:=by rw[k1];exact h18
   have hf:∀u,u < t→¬xN (cX p u)=(i:Int):=fun u hu e=>A2i hP ht kn hu (e.trans k3.symm)
   rw[B4s hP hv ht h hi hx h18 (h.old i hi fun u hu _=>hf u hu)]
   obtain⟨f1,_⟩:=A5D (p:=p) (show t≤cN p by omega)
   have hlen:(AK p (t+1)).1.length≤(AK p (cN p)).1.length:=A8x p (by omega)
   have hrl:=h.rl
   have hfr:frR p t < (AK p (t+1)).1.length:=by rw[(B1x kn).1,U1];split<;>omega
   refine⟨by simp only[List.length_set];exact h.rl,fun r hr=>?_,?_,fun j hj hu=>?_,fun u hu hu6=>?_⟩
   · simp only
     rw[G6 (by omega)]
     rw[(B1x kn).1] at hr ⊢
     rw[A3j f1 hr,k3]
     by_cases e:r=frR p t
     · rw[if_pos e.symm,if_pos e,Int.toNat_natCast]
     · rw[if_neg (fun x=>e x.symm),if_neg e]
       refine h.rv r ?_
       rw[U1] at hr;split at hr<;>omega
   · simp only
     split
     · exact h.sl
     · rw[List.length_set];exact h.sl
   · simp only
     have hold:=h.old j hj fun u hu'=>hu u (by omega)
     split
     · exact hold
     · rename_i c
       rw[decide_eq_false_iff_not] at c;have:=hu t (by omega) (by rw[k1];exact c)
       rw[G6 (by rw[h.sl];omega),if_neg (by omega)]
       exact hold
   · simp only
     by_cases e:u=t
     · subst e;rw[k3,Int.toNat_natCast];rw[decide_eq_false (by rw[←k1];exact hu6)]
       simp only
       rw[G6 (by rw[h.sl];omega),if_pos rfl]
     · have hnew:=h.new u (by omega) hu6
       split
       · exact hnew
       · have:=hf u (by omega)
         have h0:=((Q5 (E1 hP).1).1 _ (C6 (d:=x0) (show u < cN p by omega))).1.1
         have h0:0≤xN (cX p u):=h0
         rw[G6 (by rw[h.sl];omega),if_neg (by omega)]
         exact hnew
 · have hx:cX p t=O4 (p.2.2.1.getD d n0) d:=hx
   have k3:xN (cX p t)=(d:Int):=by rw[hx];rfl
   have k1:(cX p t).1=18:=by rw[hx];rfl
   have hf:∀u,u < t→¬(cX p u).1=6→¬xN (cX p u)=(d:Int):=fun u hu h6 e=>A4k hP ht k1 hu h6 (e.trans k3.symm)
   rw[B4k hP ht h hd h6 hx (h.old d hd hf)]
   refine⟨h.rl,fun r hr=>?_,by simp only[List.length_set];exact h.sl,fun j hj hu=>?_,fun u hu hu6=>?_⟩
   · rw[(B5Q k1).1] at hr ⊢;exact h.rv r hr
   · have hold:=h.old j hj fun u hu'=>hu u (by omega)
     have:=hu t (by omega) (by omega)
     simp only
     rw[G6 (by rw[h.sl];omega),if_neg (by omega)]
     exact hold
   · simp only
     by_cases e:u=t
     · subst e;rw[k3,Int.toNat_natCast,G6 (by rw[h.sl];omega),if_pos rfl]
     · have:=hf u (by omega) hu6
       have h0:=((Q5 (E1 hP).1).1 _ (C6 (d:=x0) (show u < cN p by omega))).1.1
       have h0:0≤xN (cX p u):=h0
       rw[G6 (by rw[h.sl];omega),if_neg (by omega)]
       exact h.new u (by omega) hu6
end
theorem A2H {s:List (List Int)} {fr:List Int} {st:U2} (h1:st.1.length=(AK p (cN p)).1.length) (h2:st.2.length=24) (h3:∀i,i < p.2.2.1.length→st.2.getD i []=s.getD i []) :
 (A6i (M4 p) fr st).1.length=(AK p (cN p)).1.length∧(A6i (M4 p) fr st).2.length=24∧(∀i,i < p.2.2.1.length→(A6i (M4 p) fr st).2.getD i []=(A4q p s fr (T7 p s fr)).getD i [])∧A33 (M4 p) (A6i (M4 p) fr st).1=v8 p (T7 p s fr):=by
 obtain⟨hF,hl⟩:=E1 hP
 have hg:=W2 p.2.2.1
 have hv:∀i:Nat,i < p.2.2.1.length→(T7 p s fr).getD i 0=A77 p s fr (T7 p s fr) i:=fun i hi=>by
  have:=B7p (p:=p) (s:=s) (fr:=fr) hg (v0:=List.replicate p.2.2.1.length 0) (by simp) (i:Int) (hg.full hl hi)
  rwa [Int.toNat_natCast] at this
 obtain⟨v,hve⟩:∃v,T7 p s fr=v:=⟨_,rfl⟩
 rw[hve] at hv ⊢
 have hall:∀m,m≤cN p→SimJ p s fr v m (A1A (M4 p) fr st m):=by
  intro m
  induction m with
  | zero =>
    intro _;exact⟨h1,fun r hr=>absurd hr (Nat.not_lt_zero _),h2,fun i hi _=>h3 i hi,fun u hu=>absurd hu (Nat.not_lt_zero _)⟩
  | succ m ih =>
    intro hm;have:=B6N hP hv (show m < cN p by omega) (ih (by omega))
    have e:(M4 p).2.2.2.1.getD m x0=L7 p m:=(A0s p (cN p)).2 m (by omega)
    show SimJ p s fr v (m+1) (y2 p.2.1 fr ((M4 p).2.2.2.1.getD m x0) (A1A (M4 p) fr st m))
    rw[e];exact this
 have hN:(M4 p).2.2.2.1.length=cN p:=(A0s p (cN p)).1
 have hfin:=hall _ (Nat.le_refl _)
 have e:A6i (M4 p) fr st=A1A (M4 p) fr st (cN p):=by unfold A6i;rw[hN]
 rw[e];refine⟨hfin.rl,hfin.sl,fun i hi=>?_,?_⟩
 · rw[A9d hi];have hA:=Q2 hP
   obtain⟨u,hu,hu6,huN⟩:∃u,u < cN p∧¬(cX p u).1=6∧xN (cX p u)=(i:Int):=by
    by_cases c6:(p.2.2.1.getD i n0).1=6
    · obtain⟨u,g1,g2,g3⟩:=hA.sto i hi c6
      exact⟨u,g1,by show ¬((C1 p.2.2.1).getD u x0).1=6;omega,g3⟩
    · obtain⟨u,g1,g2,g3⟩:=hA.all i hi
      refine⟨u,g1,?_,g3⟩
      show ¬((C1 p.2.2.1).getD u x0).1=6
      rcases hA.each u g1 with⟨j,hj,hx,_⟩|⟨d,_,_,hx⟩
      · rw[hx] at g3 ⊢
        have g3:(j:Int)=(i:Int):=g3
        obtain rfl:j=i:=by omega
        exact c6
      · rw[hx] at g2;exact absurd rfl g2
   have:=hfin.new u hu hu6
   rw[huN,Int.toNat_natCast] at this;exact this
 · show (m6 (AK p (cN p)).2.1 p.2.2.2).map _=p.2.2.2.map _
   unfold m6;rw[List.map_map];refine List.map_congr_left fun q hq=>?_
   obtain⟨r,r1,r2,r3⟩:=B3J hP hq
   show (A1A (M4 p) fr st (cN p)).1.getD ((AK p (cN p)).2.1.getD q.toNat 0).toNat 0=_
   rw[r3,Int.toNat_natCast,hfin.rv r r1,r2]
end
end Go.Proofs.YtenjbehedcegdaaGreat
