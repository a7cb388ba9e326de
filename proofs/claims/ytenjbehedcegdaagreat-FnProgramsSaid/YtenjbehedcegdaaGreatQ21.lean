/-
  Texts of this claim, joined (part 21). No condition beyond those of the theorems.
-/
import Derived.Test.YtenjbehedcegdaaGreatQ20
namespace Go.Proofs.YtenjbehedcegdaaGreat
open Go.RowKit
set_option linter.unusedSimpArgs false
set_option linter.unusedVariables false
theorem B49 {x:B1} {tb:Int} {g:List Int} (h:O7 x tb=true) (hl:g.length=x.2.2.2.length) (hg:g.all (fun x=>I6 x 0 23)=true):O7 (x.1,x.2.1,x.2.2.1,g) tb=true:=by
 simp only[O7,Bool.and_eq_true] at h ⊢
 obtain⟨⟨⟨⟨⟨h1,h2⟩,h3⟩,h4⟩,h5⟩,h6⟩:=h
 exact⟨⟨⟨⟨⟨h1,h2⟩,h3⟩,hg⟩,by rw[hl];exact h5⟩,h6⟩
theorem kT6:(kT 6).2.2.2.2=false:=by decide
section
variable {p:B7} (hP:G3 p=true)
include hP
theorem B6B:(AK p (cN p)).1.length≤p.2.2.1.length∧p.2.2.1.length≤24:=⟨(B8Z hP (Nat.le_refl _)).small,(C0 (E1 hP).1).1⟩
theorem A6F {t:Nat} (ht:t < cN p) {r:Int} (hr:r∈m6 (AK p t).2.1 (xF (cX p t))):0≤r∧r < ((AK p t).1.length:Int):=by
 obtain⟨q,hq,rfl⟩:=List.mem_map.1 hr
 obtain⟨j,h1,h2,h3⟩:=B0j hP ht hq
 rw[h3];omega
omit hP in
theorem C0W {t:Nat} (ht:t < cN p) (h:¬(cX p t).1=18):frR p t < (AK p (t+1)).1.length∧frR p t < (AK p (cN p)).1.length:=by
 have f1:=(A5D (p:=p) (show t≤cN p by omega)).1
 have hlen:(AK p (t+1)).1.length≤(AK p (cN p)).1.length:=A8x p (by omega)
 have hfr:frR p t < (AK p (t+1)).1.length:=by rw[(B1x h).1,U1];split<;>omega
 omega
theorem B7X {t:Nat} (ht:t < cN p):A12 ((AK p (cN p)).1.length:Int) p.2.1.length (L7 p t)=true∧((L7 p t).1=1→(L7 p t).2.1 < p.1):=by
 obtain⟨hF,hl⟩:=E1 hP
 have h24:=B6B hP
 have hm:(AK p t).1.length≤(AK p (cN p)).1.length:=A8x p (by omega)
 have hx:=(Q5 hF).1 _ (C6 (d:=x0) ht)
 have hx:X1 p.2.2.1.length (cX p t):=hx
 have hid:N2 ((AK p (cN p)).1.length:Int) (xF (L7 p t))=true:=List.all_eq_true.2 fun r hr=>by
  have:=A6F hP ht hr
  exact B4.2 ⟨by omega,by omega⟩
 have hN:I6 (xN (L7 p t)) 0 23=true:=by
  have h1:=hx.1.1
  have h2:xN (cX p t) < (p.2.2.1.length:Int):=hx.1.2
  have h3:xN (cX p t)≤23:=by omega
  exact B4.2 ⟨h1,h3⟩
 unfold A12;rw[hN,hid];simp only[Bool.true_and];rcases (Q2 hP).each t ht with⟨i,hi,hx,h18⟩|⟨d,hd,h6,hx⟩
 · have hx:cX p t=J4 (p.2.2.1.getD i n0) i:=hx
   have k1:(L7 p t).1=(p.2.2.1.getD i n0).1:=by show (cX p t).1=_;rw[hx];rfl
   have k2:(L7 p t).2.1=(p.2.2.1.getD i n0).2.1:=by show (cX p t).2.1=_;rw[hx];rfl
   have k3:(L7 p t).2.2.1=(p.2.2.1.getD i n0).2.2.1:=by show (cX p t).2.2.1=_;rw[hx];rfl
   have kn:¬(cX p t).1=18:=by rw[hx];exact h18
   have k4:xT (L7 p t)=(frR p t:Int):=by show (match decide ((cX p t).1=18) with|true=>xT (cX p t)|false=>(frR p t:Int))=_;rw[decide_eq_false kn]
   have kf:(xF (L7 p t)).length=(G9 (p.2.2.1.getD i n0)).length:=by show (m6 (AK p t).2.1 (xF (cX p t))).length=_;rw[m6,List.length_map,hx];rfl
   obtain⟨q1,q2,q3⟩:=M6 (A25 hF hi)
   have hfr:=(C0W ht kn).2
   have hto:I6 (xT (L7 p t)) 0 (((AK p (cN p)).1.length:Int) - 1)=true:=B4.2 ⟨by rw[k4];omega,by rw[k4];omega⟩
   refine⟨?_,fun e=>?_⟩
   · rw[k1,decide_eq_false h18];simp only
     rw[hto,Bool.true_and]
     by_cases c6:(p.2.2.1.getD i n0).1=6
     · rw[decide_eq_true c6];simp only
       have hw:G9 (p.2.2.1.getD i n0)=[]:=by unfold G9;rw[decide_eq_true c6]
       rw[kf,hw,k2,k3];have g1:=(Y2 q1).2.2.1 c6
       have g2:=(O5 q1).2.2.2.1
       rw[c6,kT6] at g2;simp only at g2
       have g3:I6 (p.2.2.1.getD i n0).2.1 1 16=true:=B4.2 g1
       rw[g2,g3];rfl
     · rw[decide_eq_false c6];simp only
       have hw:G9 (p.2.2.1.getD i n0)=(p.2.2.1.getD i n0).2.2.2:=by unfold G9;rw[decide_eq_false c6]
       unfold H2;rw[k1,k2,k3];refine B49 q1 (by rw[kf,hw]) (List.all_eq_true.2 fun r hr=>?_)
       have:=A6F hP ht hr
       exact B4.2 ⟨by omega,by omega⟩
   · rw[k1] at e;rw[k2]
     apply Classical.byContradiction
     intro hc;exact q3 ⟨e,by omega⟩
 · have hx:cX p t=O4 (p.2.2.1.getD d n0) d:=hx
   have k1:(L7 p t).1=18:=by show (cX p t).1=_;rw[hx];rfl
   have k2:(L7 p t).2.1=0:=by show (cX p t).2.1=_;rw[hx];rfl
   have k3:(L7 p t).2.2.1=0:=by show (cX p t).2.2.1=_;rw[hx];rfl
   have k4:xT (L7 p t)=0:=by show (match decide ((cX p t).1=18) with|true=>xT (cX p t)|false=>(frR p t:Int))=_;rw[hx];rfl
   have kf:(xF (L7 p t)).length=1:=by
    show (m6 (AK p t).2.1 (xF (cX p t))).length=_
    rw[m6,List.length_map,hx];exact(Z8 hF hd).2.2.2.2 h6
   refine⟨?_,fun e=>by omega⟩
   rw[k1,k2,k3,k4,kf];rfl
abbrev gX (p:B7):List A1:=(AK p (cN p)).2.2
omit hP in
theorem B32 {t:Nat} (ht:t < cN p):(gX p).getD t x0=L7 p t:=(A0s p (cN p)).2 t ht
theorem B6t:∀k,k≤cN p→∃s,R7 (gX p) k=some s∧(∀N,N∈s.1↔∃u,u < k∧¬(cX p u).1=18∧xN (cX p u)=N) ∧
 (∀N,N∈s.2↔(∃u,u < k∧(cX p u).1=6∧xN (cX p u)=N)∧∀u,u < k→(cX p u).1=18→¬xN (cX p u)=N):=by
 have hA:=Q2 hP
 intro k
 induction k with
 | zero=>intro _;exact⟨([],[]),rfl,fun N=>⟨(fun h=>by cases h),fun ⟨u,h,_⟩=>by omega⟩,fun N=>⟨(fun h=>by cases h),fun ⟨⟨u,h,_⟩,_⟩=>by omega⟩⟩
 | succ k ih =>
   intro hk;obtain⟨s,e,i1,i2⟩:=ih (by omega)
   have e1:(L7 p k).1=(cX p k).1:=rfl
   have e2:xN (L7 p k)=xN (cX p k):=rfl
   show ∃s,(R7 (gX p) k).bind (Y7 ((gX p).getD k x0))=some s∧_
   rw[e,B32 (by omega)]
   show ∃s',Y7 (L7 p k) s=some s'∧_
   unfold Y7;rw[e1,e2]
   by_cases c:(cX p k).1=18
   · rw[decide_eq_true c]
     have hm:xN (cX p k)∈s.2:=(i2 _).2 ⟨by
      obtain⟨u,h1,h2,h3⟩:=hA.dly k (show k < cN p by omega) c
      refine⟨u,h1,?_,h3⟩
      apply Classical.byContradiction
      intro h6;exact A4k hP (show k < cN p by omega) c h1 h6 h3,fun u hu h18 he=>by have:=hA.once u k (Nat.lt_trans hu hk) hk h18 c he;omega⟩
     rw[List.contains_iff_mem.2 hm];refine⟨_,rfl,fun N=>?_,fun N=>?_⟩
     · rw[i1];exact⟨fun ⟨u,h1,h2⟩=>⟨u,by omega,h2⟩,fun ⟨u,h1,h2,h3⟩=>⟨u,by have:u≠k:=(fun h=>by subst h;exact h2 c);omega,h2,h3⟩⟩
     · simp only[List.mem_filter,Bool.not_eq_true',decide_eq_false_iff_not];rw[i2]
       constructor
       · rintro⟨⟨⟨u,h1,h2⟩,h3⟩,h4⟩
         refine⟨⟨u,by omega,h2⟩,fun w hw h18 he=>?_⟩
         by_cases ew:w=k
         · subst ew;exact h4 he.symm
         · exact h3 w (by omega) h18 he
       · rintro⟨⟨u,h1,h2,h3⟩,h4⟩
         exact⟨⟨⟨u,by have:u≠k:=(fun h=>by subst h;omega);omega,h2,h3⟩,fun w hw=>h4 w (by omega)⟩,fun he=>h4 k (by omega) c he.symm⟩
   · rw[decide_eq_false c]
     have hm:¬xN (cX p k)∈s.1:=fun hm=>by
      obtain⟨u,h1,_,h3⟩:=(i1 _).1 hm
      exact A2i hP (show k < cN p by omega) c h1 h3
     have hm':s.1.contains (xN (cX p k))=false:=by simpa using hm
     simp only
     rw[hm']
     refine⟨_,rfl,fun N=>?_,fun N=>?_⟩
     · simp only[List.mem_append,List.mem_singleton];rw[i1]
       constructor
       · rintro (⟨u,h1,h2⟩|rfl)
         · exact⟨u,by omega,h2⟩
         · exact⟨k,by omega,c,rfl⟩
       · rintro⟨u,h1,h2,h3⟩
         by_cases eu:u=k
         · subst eu;exact .inr h3.symm
         · exact .inl ⟨u,by omega,h2,h3⟩
     · have hns:∀u,u < k→¬xN (cX p u)=xN (cX p k):=fun u hu=>A2i hP (show k < cN p by omega) c hu
       by_cases c6:(cX p k).1=6
       · rw[decide_eq_true c6];simp only[List.mem_append,List.mem_singleton];rw[i2]
         constructor
         · rintro (⟨⟨u,h1,h2⟩,h3⟩|rfl)
           · exact⟨⟨u,by omega,h2⟩,fun w hw h18 he=>h3 w (by have:w≠k:=(fun h=>by subst h;exact c h18);omega) h18 he⟩
           · exact⟨⟨k,by omega,c6,rfl⟩,fun w hw h18 he=>hns w (by have:w≠k:=(fun h=>by subst h;exact c h18);omega) he⟩
         · rintro⟨⟨u,h1,h2,h3⟩,h4⟩
           by_cases eu:u=k
           · subst eu;exact .inr h3.symm
           · exact .inl ⟨⟨u,by omega,h2,h3⟩,fun w hw=>h4 w (by omega)⟩
       · rw[decide_eq_false c6];simp only
         rw[i2]
         constructor
         · rintro⟨⟨u,h1,h2⟩,h3⟩
           exact⟨⟨u,by omega,h2⟩,fun w hw h18 he=>h3 w (by have:w≠k:=(fun h=>by subst h;exact c h18);omega) h18 he⟩
         · rintro⟨⟨u,h1,h2,h3⟩,h4⟩
           exact⟨⟨u,by have:u≠k:=(fun h=>by subst h;exact c6 h2);omega,h2,h3⟩,fun w hw=>h4 w (by omega)⟩
theorem B9F:b9 (gX p)=true:=by
 have hA:=Q2 hP
 obtain⟨s,e,_,h2⟩:=B6t hP _ (Nat.le_refl _)
 unfold b9;rw[(A0s p (cN p)).1,e]
 simp only[decide_eq_true_eq];cases hs:s.2 with
 | nil=>rfl
 | cons N l =>
   obtain⟨⟨u,hu,hu6,huN⟩,hno⟩:=(h2 N).1 (by rw[hs];exact List.mem_cons_self)
   exfalso;rcases hA.each u hu with⟨i,hi,hx,_⟩|⟨d,_,_,hx⟩
   · have hx:cX p u=J4 (p.2.2.1.getD i n0) i:=hx
     rw[hx] at hu6 huN
     obtain⟨t,h1,h2,h3⟩:=hA.sto i hi hu6
     exact hno t h1 h2 (by rw[←huN];exact h3)
   · have hx:cX p u=O4 (p.2.2.1.getD d n0) d:=hx
     rw[hx] at hu6;exact absurd hu6 (by show ¬(18:Int)=6;decide)
theorem B8G:∀k,k≤cN p→∃s,A2M (gX p) k=some s∧∀r,r < (AK p k).1.length→(r:Int)∈s:=by
 intro k
 induction k with
 | zero=>intro _;exact⟨[],rfl,fun r hr=>absurd hr (Nat.not_lt_zero _)⟩
 | succ k ih =>
   intro hk;obtain⟨s,e,i1⟩:=ih (by omega)
   have e1:(L7 p k).1=(cX p k).1:=rfl
   show ∃s,(A2M (gX p) k).bind (A2N ((gX p).getD k x0))=some s∧_
   rw[e,B32 (by omega)]
   show ∃s',A2N (L7 p k) s=some s'∧_
   unfold A2N
   have hr:(xF (L7 p k)).all (fun f=>s.contains f)=true:=List.all_eq_true.2 fun r hr=>by
    have:=A6F hP (show k < cN p by omega) hr
    rw[List.contains_iff_mem];have g:=i1 r.toNat (by omega)
    rwa [Int.toNat_of_nonneg this.1] at g
   rw[hr,e1]
   by_cases c:(cX p k).1=18
   · rw[decide_eq_true c];refine⟨_,rfl,fun r hr=>?_⟩
     rw[(B5Q c).1] at hr
     exact i1 r hr
   · rw[decide_eq_false c];refine⟨_,rfl,fun r hr=>?_⟩
     have k4:xT (L7 p k)=(frR p k:Int):=by show (match decide ((cX p k).1=18) with|true=>xT (cX p k)|false=>(frR p k:Int))=_;rw[decide_eq_false c]
     have f1:=(A5D (p:=p) (show k≤cN p by omega)).1
     rw[(B1x c).1,U1] at hr
     rw[k4,List.mem_append,List.mem_singleton]
     by_cases er:r=frR p k
     · right;rw[er]
     · left
       exact i1 r (by split at hr<;>omega)
theorem C0K:A2r (gX p) (M4 p).2.2.2.2=true:=by
 obtain⟨s,e,h2⟩:=B8G hP _ (Nat.le_refl _)
 unfold A2r;rw[(A0s p (cN p)).1,e]
 refine List.all_eq_true.2 fun r hr=>?_
 obtain⟨q,hq,rfl⟩:=List.mem_map.1 hr
 obtain⟨j,h1,_,h3⟩:=B3J hP hq
 have h3:(D4 (K0 p.2.2.1.length (C1 p.2.2.1) p.2.2.2) (C1 p.2.2.1) p.2.2.1.length (C1 p.2.2.1).length).2.1.getD q.toNat 0=(j:Int):=h3
 rw[h3,List.contains_iff_mem];exact h2 j h1
theorem A96:ProgOk (M4 p):=by
 obtain⟨hF,hl⟩:=E1 hP
 obtain⟨f1,f2,f3,f4,f5,f6,f7⟩:=C0 hF
 have h24:=B6B hP
 have hN:(M4 p).2.2.2.1.length=cN p:=(A0s p (cN p)).1
 refine⟨f4,f5,Int.natCast_nonneg _,by show ((AK p (cN p)).1.length:Int)≤24;omega,f3,by rw[hN];exact(Q5 hF).2.2,by show (m6 _ p.2.2.2).length≤4;rw[m6,List.length_map];exact f2,fun k hk=>?_,B9F hP,C0K hP⟩
 rw[hN] at hk;have e:(M4 p).2.2.2.1.getD k x0=L7 p k:=B32 hk
 rw[e];exact B7X hP hk
end
theorem A6d {g:G0} (h:ProgOk g):O0 g=true:=by
 unfold O0;rw[B4.2 ⟨h.i0,h.i4⟩,B4.2 ⟨h.r0,h.r24⟩,h.ts,decide_eq_true h.cl,decide_eq_true h.ol,h.pr,h.wr]
 simp only[Bool.true_and,Bool.and_true];refine List.all_eq_true.2 fun x hx=>?_
 obtain⟨k,hk,rfl⟩:=List.mem_iff_getElem.1 hx
 obtain⟨h1,h2⟩:=h.ins k hk
 rw[List.getD_eq_getElem?_getD,List.getElem?_eq_getElem hk] at h1 h2
 simp only[Option.getD_some] at h1 h2
 simp only[Bool.and_eq_true,Bool.not_eq_true',Bool.and_eq_false_iff,decide_eq_false_iff_not];refine⟨h1,?_⟩
 by_cases c:g.2.2.2.1[k].1=1
 · right;have:=h2 c;omega
 · exact .inl c
section
variable {p:B7} (hP:G3 p=true)
include hP
theorem B7T {ins:List (List Int)}:∀t:Nat,(Q9 (M4 p) ins t).1.length=(AK p (cN p)).1.length∧(Q9 (M4 p) ins t).2.length=24 ∧
 ∀o,∀i,i < p.2.2.1.length→(Q9 (M4 p) ins t).2.getD i []=(D0 p ins 0 t (V1 p,o)).1.getD i []:=by
 have hG:=A96 hP
 have hN:(M4 p).2.2.2.1.length=cN p:=(A0s p (cN p)).1
 intro t
 induction t with
 | zero =>
   refine⟨by show (List.replicate ((AK p (cN p)).1.length:Int).toNat 0).length=_;simp,A3F _ _,fun o i hi=>?_⟩
   obtain⟨u,g1,g2,g3⟩:=(Q2 hP).all i hi
   have e:(M4 p).2.2.2.1.getD u x0=L7 p u:=B32 g1
   have:=B2m hG _ (Nat.le_refl _) u (by rw[hN];exact g1) (by rw[e];exact g2)
   rw[e,show (xN (L7 p u)).toNat=i by show (xN (cX p u)).toNat=i;have g3:xN (cX p u)=(i:Int):=g3;omega] at this
   show (j7 (M4 p).2.2.2.1 (M4 p).2.2.2.1.length).getD i []=(V1 p).getD i []
   rw[this];rcases (Q2 hP).each u g1 with⟨j,hj,hx,_⟩|⟨d,_,_,hx⟩
   · have hx:cX p u=J4 (p.2.2.1.getD j n0) j:=hx
     have g3:xN (cX p u)=(i:Int):=g3
     rw[hx] at g3;have g3:(j:Int)=(i:Int):=g3
     obtain rfl:j=i:=by omega
     have e3:I0 (H2 (L7 p u))=I0 (p.2.2.1.getD j n0):=by
      have k1:(H2 (L7 p u)).1=(p.2.2.1.getD j n0).1:=by show (cX p u).1=_;rw[hx];rfl
      have k2:(H2 (L7 p u)).2.1=(p.2.2.1.getD j n0).2.1:=by show (cX p u).2.1=_;rw[hx];rfl
      have k3:(H2 (L7 p u)).2.2.1=(p.2.2.1.getD j n0).2.2.1:=by show (cX p u).2.2.1=_;rw[hx];rfl
      unfold I0;rw[k1,k2,k3]
     rw[e3];simp[V1,List.getD,hi]
   · exact absurd (show (cX p u).1=18 by show ((C1 p.2.2.1).getD u x0).1=18;rw[hx];rfl) g2
 | succ t ih =>
   obtain⟨i1,i2,i3⟩:=ih;refine⟨?_,?_,fun o i hi=>?_⟩
   · exact(A2H hP (fr:=D3 ins (t:Int)) (s:=(D0 p ins 0 t (V1 p,[])).1) i1 i2 (i3 [])).1
   · exact(A2H hP (fr:=D3 ins (t:Int)) (s:=(D0 p ins 0 t (V1 p,[])).1) i1 i2 (i3 [])).2.1
   · have:=(A2H hP (fr:=D3 ins (t:Int)) (s:=(D0 p ins 0 t (V1 p,o)).1) i1 i2 (i3 o)).2.2.1 i hi
     simp only[D0,Int.zero_add];exact this
theorem B6x {ins o:List (List Int)} (t:Nat):A33 (M4 p) (Q9 (M4 p) ins (t+1)).1=v8 p (T7 p (D0 p ins 0 t (V1 p,o)).1 (D3 ins (t:Int))):=by
 obtain⟨i1,i2,i3⟩:=B7T hP (ins:=ins) t
 exact(A2H hP (fr:=D3 ins (t:Int)) (s:=(D0 p ins 0 t (V1 p,o)).1) i1 i2 (i3 o)).2.2.2
end
def W5 (g:G0) (ins:List (List Int)):Nat→List (List Int)
 | 0=>List.replicate g.2.2.2.2.length []
 | k+1=>P8 (W5 g ins k) (A33 g (Q9 g ins (k+1)).1)
def A70 (g:G0) (ins:List (List Int)) (n:Int):List (List Int) × Int:=match O0 g with
 | true => match decide ((ins.length : Int) = g.1) && ins.all d9 && I6 n 0 4000 with
   | true=>(W5 g ins n.toNat,0)
   | false=>([],2)
 | false=>([],1)
theorem B2Q {p:B7} (hP:G3 p=true) (ins:List (List Int)) (n:Int):A70 (M4 p) ins n=a6 p ins n:=by
 have h:∀k,W5 (M4 p) ins k=(D0 p ins 0 k (V1 p,List.replicate p.2.2.2.length [])).2:=by
  intro k
  induction k with
  | zero =>
    show List.replicate (m6 _ p.2.2.2).length []=_
    rw[m6,List.length_map];rfl
  | succ k ih =>
    simp only[W5,D0];rw[ih,B6x hP (o:=List.replicate p.2.2.2.length []) k]
    simp only[Int.zero_add]
 unfold A70 a6;have e:(decide ((ins.length:Int)=(M4 p).1) && ins.all d9 && I6 n 0 4000)=(A1G p ins && I6 n 0 4000):=rfl
 rw[A6d (A96 hP),hP,h,e]
 cases A1G p ins && I6 n 0 4000<;>rfl
end Go.Proofs.YtenjbehedcegdaaGreat
