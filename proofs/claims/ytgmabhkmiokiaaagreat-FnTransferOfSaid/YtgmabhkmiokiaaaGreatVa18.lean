/-
  Texts of this claim, joined (part 18). No condition beyond those of the theorems.
-/
import Derived.Test.YtgmabhkmiokiaaaGreatVa17
namespace Go.Proofs.YtgmabhkmiokiaaaGreat
open Go.RowKit
set_option linter.unusedSimpArgs false
set_option linter.unusedVariables false
theorem mod_sg {f g:Nat→Int} :∀{n:Nat},(∀ i,i < n→wrap32 (f i)=wrap32 (g i))→wrap32 (sg f n)=wrap32 (sg g n):=by
 intro n
 induction n with
 | zero=>intro _; rfl
 | succ n ih =>
   intro h;simp only[sg];rw [← wrap32_add,ih fun i hi=>h i (by omega),h n (by omega),wrap32_add]
theorem sg_cut {f:Nat→Int} {n m:Nat} (h:n≤m) (hz :∀x,n≤x→x < m→f x=0):sg f m=sg f n:=by
 induction m with
 | zero => have : n = 0 := by omega
           subst this; rfl
 | succ m ih =>
   by_cases e:n=m+1
   · subst e; rfl
   · simp only[sg]; rw [ih (by omega) fun x h1 h2=>hz x h1 (by omega),hz m (by omega) (by omega)]; simp
theorem w32_1:wrap32 1=1:=by unfold wrap32; omega
def cf (l:List Int):PS:=fun j=>l.getD j 0
def tl (l:List Int):Nat→Nat
 | 0=>0
 | n+1=>match decide (l.getD n 0=0) with
   | true=>tl l n
   | false=>n+1
theorem tl_t {l:List Int} {n:Nat} (h:l.getD n 0=0):tl l (n+1)=tl l n:=by simp only[tl]; rw [decide_eq_true h]
theorem tl_f {l:List Int} {n:Nat} (h:¬ l.getD n 0=0):tl l (n+1)=n+1:=by simp only[tl]; rw [decide_eq_false h]
theorem tl_le (l:List Int) :∀n,tl l n≤n:=by
 intro n
 induction n with
 | zero=>exact Nat.le_refl _
 | succ n ih =>
   by_cases h:l.getD n 0=0
   · rw [tl_t h]; omega
   · rw [tl_f h]; omega
theorem tl_z {l:List Int} :∀{n j:Nat},tl l n≤j→j < n→l.getD j 0=0:=by
 intro n
 induction n with
 | zero=>intro j _ h; omega
 | succ n ih =>
   intro j h1 h2
   by_cases h:l.getD n 0=0
   · rw [tl_t h] at h1
     by_cases e:j=n
     · rw [e]; exact h
     · exact ih h1 (by omega)
   · rw [tl_f h] at h1; omega
theorem tl_last {l:List Int} :∀{n m:Nat},tl l n=m+1→¬ l.getD m 0=0:=by
 intro n
 induction n with
 | zero=>intro m h; simp [tl] at h
 | succ n ih =>
   intro m h
   by_cases c:l.getD n 0=0
   · rw [tl_t c] at h; exact ih h
   · rw [tl_f c] at h; obtain rfl:n=m:=by omega
     exact c
def trimL (l:List Int):List Int:=match tl l l.length with
 | 0=>[0]
 | n+1=>l.take (n+1)
theorem trimL_0 {l:List Int} (h:tl l l.length=0):trimL l=[0]:=by unfold trimL; rw [h]
theorem trimL_s {l:List Int} {n:Nat} (h:tl l l.length=n+1):trimL l=l.take (n+1):=by unfold trimL; rw [h]
theorem trimL_p {l:List Int} {n:Nat} (h:tl l l.length=n) (hn:0 < n):trimL l=l.take n:=by
 obtain ⟨m,rfl⟩ :∃m,n=m+1:=⟨n - 1,by omega⟩
 exact trimL_s h
theorem take_at (l:List Int) (n j:Nat):(l.take n).getD j 0=if j < n then l.getD j 0 else 0:=by
 by_cases h:j < n
 · rw [if_pos h]; simp [List.getD,h]
 · rw [if_neg h]; exact getD_ge (by rw [List.length_take]; omega)
theorem trimL_at (l:List Int) (j:Nat):(trimL l).getD j 0=l.getD j 0:=by
 cases h:tl l l.length with
 | zero =>
   rw [trimL_0 h]
   have hz:l.getD j 0=0:=by
    by_cases hj:j < l.length
    · exact tl_z (by omega) hj
    · exact getD_ge (by omega)
   rw [hz]; cases j<;>rfl
 | succ n =>
   rw [trimL_s h,take_at]
   split
   · rfl
   · by_cases hj:j < l.length
     · exact (tl_z (by omega) hj).symm
     · exact (getD_ge (by omega)).symm
theorem trimL_len (l:List Int):1≤(trimL l).length∧(trimL l).length≤max 1 l.length:=by
 cases h:tl l l.length with
 | zero=>rw [trimL_0 h]; simp only[List.length_singleton]; omega
 | succ n=>rw [trimL_s h,List.length_take]; have:=tl_le l l.length; omega
theorem trimL_smp {l:List Int} (h:smps l=true):smps (trimL l)=true:=by
 cases e:tl l l.length with
 | zero=>rw [trimL_0 e]; rfl
 | succ n=>rw [trimL_s e]; exact smps_take h _
theorem trimL_last (l:List Int):(trimL l).length=1∨(trimL l).getD ((trimL l).length - 1) 0≠0:=by
 cases e:tl l l.length with
 | zero=>rw [trimL_0 e]; exact Or.inl rfl
 | succ n =>
   right
   have h:=tl_last e
   rw [trimL_s e];have:=tl_le l l.length
   rw [List.length_take,take_at,if_pos (by omega),show min (n+1) l.length - 1=n by omega]
   exact h
def convN (p a:List Int) (n:Nat):List Int:=(List.range n).map fun i=>wrap32 (pm (cf p) (cf a) i)
theorem convN_len (p a:List Int) (n:Nat):(convN p a n).length=n:=by simp [convN]
theorem convN_at (p a:List Int) (n j:Nat):(convN p a n).getD j 0=if j < n then wrap32 (pm (cf p) (cf a) j) else 0:=by
 by_cases h:j < n
 · rw [if_pos h]; simp [convN,List.getD,h]
 · rw [if_neg h]; exact getD_ge (by rw [convN_len]; omega)
theorem convN_smp (p a:List Int) (n:Nat):smps (convN p a n)=true:=smps_iff.2 fun z hz=>by
 simp only[convN,List.mem_map] at hz
 obtain ⟨i,_,rfl⟩:=hz;exact smp_w _
def cvS (p a:List Int) (i k:Nat):Int:=wrap32 (sg (fun x=>if x≤i then p.getD x 0 * a.getD (i - x) 0 else 0) k)
theorem cvS_0 (p a:List Int) (i:Nat):cvS p a i 0=0:=w32_0
theorem cvS_next {p a:List Int} {i k:Nat} (h:k≤i):cvS p a i (k+1)=wrap32 (cvS p a i k+p.getD k 0 * a.getD (i - k) 0):=by
 unfold cvS; simp only[sg]; rw [if_pos h,w32_al]
theorem cvS_skip {p a:List Int} {i k:Nat} (h:¬ k≤i):cvS p a i (k+1)=cvS p a i k:=by
 unfold cvS; simp only[sg]; rw [if_neg h,Int.add_zero]
theorem cvS_full {p a:List Int} {i k:Nat} (h:i < k∨p.length≤k):cvS p a i k=wrap32 (pm (cf p) (cf a) i):=by
 unfold cvS pm cf
 congr 1
 have e:sg (fun x=>p.getD x 0 * a.getD (i - x) 0) (i+1)=sg (fun x=>if x≤i then p.getD x 0 * a.getD (i - x) 0 else 0) (i+1):=sg_congr fun x hx=>by rw [if_pos (by omega)]
 rw [e]
 by_cases c:i < k
 · exact sg_cut (by omega) fun x h1 h2=>if_neg (by omega)
 · refine (sg_cut (by omega) fun x h1 h2=>?_).symm
   rw [if_pos (by omega),getD_ge (l:=p) (by omega),Int.zero_mul]
def cvP (p a:List Int) (n i k:Nat):List Int:=(List.range n).map fun j=>if j < i then wrap32 (pm (cf p) (cf a) j) else if j=i then cvS p a i k else 0
theorem cvP_len (p a:List Int) (n i k:Nat):(cvP p a n i k).length=n:=by simp [cvP]
theorem cvP_at (p a:List Int) {n j:Nat} (i k:Nat) (h:j < n):(cvP p a n i k).getD j 0=if j < i then wrap32 (pm (cf p) (cf a) j) else if j=i then cvS p a i k else 0:=by
 simp [cvP,List.getD,h]
theorem cvP_0 (p a:List Int) (n:Nat):cvP p a n 0 0=List.replicate n 0:=ext_getD (by rw [cvP_len,List.length_replicate]) fun j=>by
 by_cases h:j < n
 · rw [cvP_at _ _ _ _ h,if_neg (by omega)]
   have e:(List.replicate n (0:Int)).getD j 0=0:=zerL_at n j
   rw [e]
   split
   · exact cvS_0 _ _ _
   · rfl
 · rw [getD_ge (by rw [cvP_len]; omega),getD_ge (by rw [List.length_replicate]; omega)]
theorem cvP_i {p a:List Int} {n i k:Nat} (h:i < n):(cvP p a n i k).getD i 0=cvS p a i k:=by
 rw [cvP_at _ _ _ _ h,if_neg (by omega),if_pos rfl]
theorem cvP_next {p a:List Int} {n i k:Nat} (hi:i < n) (h:k≤i):(cvP p a n i k).set i (wrap32 ((cvP p a n i k).getD i 0+p.getD k 0 * a.getD (i - k) 0))=cvP p a n i (k+1) :=
 ext_getD (by rw [List.length_set,cvP_len,cvP_len]) fun j=>by
  rw [cvP_i hi,← cvS_next h,getD_set (by rw [cvP_len]; exact hi)]
  by_cases hj:j < n
  · rw [cvP_at _ _ _ _ hj,cvP_at _ _ _ _ hj]
    by_cases e:i=j
    · subst e; rw [if_pos rfl,if_neg (by omega),if_pos rfl]
    · rw [if_neg e]
      by_cases l:j < i
      · rw [if_pos l,if_pos l]
      · rw [if_neg l,if_neg l,if_neg (by omega),if_neg (by omega)]
  · rw [if_neg (by omega),getD_ge (by rw [cvP_len]; omega),getD_ge (by rw [cvP_len]; omega)]
theorem cvP_skip {p a:List Int} {n i k:Nat} (h:¬ k≤i):cvP p a n i (k+1)=cvP p a n i k:=by
 unfold cvP; rw [cvS_skip h]
theorem cvP_end {p a:List Int} {n i k:Nat} (h:i < k∨p.length≤k):cvP p a n i k=cvP p a n (i+1) 0 :=
 ext_getD (by rw [cvP_len,cvP_len]) fun j=>by
  by_cases hj:j < n
  · rw [cvP_at _ _ _ _ hj,cvP_at _ _ _ _ hj]
    by_cases e:j=i
    · subst e; rw [if_neg (by omega),if_pos rfl,if_pos (by omega)]; exact cvS_full h
    · by_cases l:j < i
      · rw [if_pos l,if_pos (by omega)]
      · rw [if_neg l,if_neg e,if_neg (by omega)]
        split
        · rw [cvS_0]
        · rfl
  · rw [getD_ge (by rw [cvP_len]; omega),getD_ge (by rw [cvP_len]; omega)]
theorem cvP_all {p a:List Int} {n i:Nat} (h:n≤i):cvP p a n i 0=convN p a n:=ext_getD (by rw [cvP_len,convN_len]) fun j=>by
 by_cases hj:j < n
 · rw [cvP_at _ _ _ _ hj,convN_at,if_pos (by omega),if_pos hj]
 · rw [getD_ge (by rw [cvP_len]; omega),getD_ge (by rw [convN_len]; omega)]
/-! The characteristic polynomial. -/
def mF (A:List (List Int)):Nat→Nat→Int:=fun i j=>(A.getD i []).getD j 0
def chN (A:List (List Int)) (r:Nat):List Int:=(List.range (r+1)).map fun i=>wrap32 (pQ r (mF A) i)
def fsN (A:List (List Int)) (r k:Nat):List Int:=(List.range (k+2)).map fun i=>wrap32 (pS r (mF A) r r i)
def clN (A:List (List Int)) (r k:Nat):List Int:=(List.range r).map fun i=>wrap32 (pW r (mF A) (fun x=>mF A x r) i k)
theorem chN_len (A:List (List Int)) (r:Nat):(chN A r).length=r+1:=by simp [chN]
theorem fsN_len (A:List (List Int)) (r k:Nat):(fsN A r k).length=k+2:=by simp [fsN]
theorem clN_len (A:List (List Int)) (r k:Nat):(clN A r k).length=r:=by simp [clN]
theorem range_at (f:Nat→Int) {n i:Nat} (h:i < n):((List.range n).map f).getD i 0=f i:=by simp [List.getD,h]
theorem chN_0 (A:List (List Int)):chN A 0=[1]:=by
 show [wrap32 (pQ 0 (mF A) 0)]=[1]
 rw [show pQ 0 (mF A) 0=1 from rfl,w32_1]
theorem fsN_0 (A:List (List Int)) (r:Nat):fsN A r 0=[1,wrap32 (- (A.getD r []).getD r 0)]:=by
 have e0:pS r (mF A) r r 0=1:=by simp [pS,pa,pn,pz,pc]
 have e1:pS r (mF A) r r 1=- (A.getD r []).getD r 0:=by simp [pS,pa,pn,pz,pc,pW,pw,mF]
 show [wrap32 (pS r (mF A) r r 0),wrap32 (pS r (mF A) r r 1)]=_
 rw [e0,e1,w32_1]
theorem cl_dot (A:List (List Int)) (r k i:Nat):dotN ((A.getD i []).take r) (clN A r k) r=wrap32 (pW r (mF A) (fun x=>mF A x r) i (k+1)):=by
 rw [dotN_eq];show _=wrap32 (sg (fun j=>mF A i j * pW r (mF A) (fun x=>mF A x r) j k) r)
 refine mod_sg fun j hj=>?_
 rw [take_at,if_pos hj];unfold clN;rw [range_at _ hj,w32_mr]
 rfl
theorem fsN_next (A:List (List Int)) (r k:Nat):fsN A r k++[wrap32 (- dotN ((A.getD r []).take r) (clN A r k) r)]=fsN A r (k+1):=by
 have e:pS r (mF A) r r (k+2)=- pW r (mF A) (fun x=>mF A x r) r (k+1):=by simp [pS,pa,pn,pz,pc]
 have h:wrap32 (- wrap32 (pW r (mF A) (fun x=>mF A x r) r (k+1)))=wrap32 (- pW r (mF A) (fun x=>mF A x r) r (k+1)):=by
  have:=w32_sr 0 (pW r (mF A) (fun x=>mF A x r) r (k+1)); simpa using this
 rw [cl_dot,h,← e];exact map_range_next (fun i=>wrap32 (pS r (mF A) r r i)) (k+2)
theorem clN_0 {A:List (List Int)} (r:Nat) (hs :∀i,i < r→smps (A.getD i [])=true):(List.range r).map (fun i=>(A.getD i []).getD r 0)=clN A r 0:=by
 unfold clN;refine List.map_congr_left fun i hi=>?_
 have:=smp_at (hs i (List.mem_range.1 hi)) r
 exact this.symm
theorem clN_next (A:List (List Int)) (r k:Nat):(List.range r).map (fun i=>dotN ((A.getD i []).take r) (clN A r k) r)=clN A r (k+1):=by
 unfold clN;exact List.map_congr_left fun i hi=>cl_dot A r k i
theorem chN_next (A:List (List Int)) (r:Nat):convN (chN A r) (fsN A r r) (r+2)=chN A (r+1):=by
 unfold convN;show _=(List.range (r+2)).map fun i=>wrap32 (pQ (r+1) (mF A) i)
 refine List.map_congr_left fun i hi=>?_
 have hi:i < r+2:=List.mem_range.1 hi
 show wrap32 (sg _ _)=wrap32 (sg _ _)
 refine mod_sg fun x hx=>?_
 unfold cf;have hf:(fsN A r r).getD (i - x) 0=wrap32 (pS r (mF A) r r (i - x)):=range_at _ (by omega)
 rw [hf,w32_mr]
 by_cases c:x < r+1
 · have hc:(chN A r).getD x 0=wrap32 (pQ r (mF A) x):=range_at _ c
   rw [hc,w32_ml]
 · rw [getD_ge (by rw [chN_len]; omega),ch_deg r (mF A) (by omega)]
theorem chN_smp (A:List (List Int)) (r:Nat):smps (chN A r)=true:=smps_iff.2 fun z hz=>by
 simp only[chN,List.mem_map] at hz
 obtain ⟨i,_,rfl⟩:=hz;exact smp_w _
theorem chN_at (A:List (List Int)) (r j:Nat):(chN A r).getD j 0=wrap32 (pQ r (mF A) j):=by
 by_cases c:j < r+1
 · exact range_at _ c
 · rw [getD_ge (by rw [chN_len]; omega),ch_deg r (mF A) (by omega),w32_0]
theorem pQ_0 (M:Nat→Nat→Int) :∀n,pQ n M 0=1:=by
 intro n
 induction n with
 | zero=>rfl
 | succ n ih=>simp only[pQ]; rw [pm_0,ih]; simp [pS,pa,pn,pz,pc]
theorem chN_1 (A:List (List Int)) (r:Nat):(chN A r).getD 0 0=1:=by rw [chN_at,pQ_0,w32_1]
def timesL (R:List (List Int)) (v:List Int):List Int:=(List.range R.length).map fun i=>dotN (R.getD i []) v v.length
def sumV (a b:List Int):List Int:=(List.range a.length).map fun i=>wrap32 (a.getD i 0+b.getD i 0)
theorem timesL_len (R:List (List Int)) (v:List Int):(timesL R v).length=R.length:=by simp [timesL]
theorem sumV_len (a b:List Int):(sumV a b).length=a.length:=by simp [sumV]
theorem timesL_at {R:List (List Int)} {v:List Int} {i:Nat} (h:i < R.length):(timesL R v).getD i 0=dotN (R.getD i []) v v.length:=range_at _ h
def stepL (x:LinD) (s f:List Int):List Int × List Int:=(sumV (timesL x.2.1 s) (timesL x.2.2.1 f),sumV (timesL x.2.2.2.1 s) (timesL x.2.2.2.2 f))
def rowsOk (R:List (List Int)) (m n:Nat):Prop:=R.length=m∧∀ i,i < m→(R.getD i []).length=n∧smps (R.getD i [])=true
structure linW (x:LinD) (n:Nat):Prop where
 a:rowsOk x.2.1 n n
 b:rowsOk x.2.2.1 n x.1.toNat
 c:rowsOk x.2.2.2.1 x.2.2.2.1.length n
 d:rowsOk x.2.2.2.2 x.2.2.2.1.length x.1.toNat
 i0:0≤x.1
 i4:x.1≤4
theorem step_ap {x:LinD} {n:Nat} (h:linW x n) {s f:List Int} (hs:s.length=n) (hf:f.length=x.1.toNat):stepL x s f=(apM x.2.1 x.2.2.1 s f,apM x.2.2.2.1 x.2.2.2.2 s f):=by
 have key :∀R S:List (List Int),∀ m,rowsOk R m n→rowsOk S m x.1.toNat→sumV (timesL R s) (timesL S f)=apM R S s f:=fun R S m h1 h2=>by
  unfold sumV apM;rw [timesL_len];refine List.map_congr_left fun i hi=>?_
  have hi:i < R.length:=List.mem_range.1 hi
  rw [timesL_at hi,timesL_at (by rw [h2.1,← h1.1]; exact hi),(h1.2 i (by rw [← h1.1]; exact hi)).1,(h2.2 i (by rw [← h1.1]; exact hi)).1,hs,hf]
 unfold stepL;rw [key _ _ _ h.a h.b,key _ _ _ h.c h.d]
theorem matC_ok {f:Nat→List Int} {m n:Nat} (h :∀j,j < n→(f j).length=m∧smps (f j)=true):rowsOk (matC f m n) m n:=by
 refine ⟨matC_len _ _ _,fun i hi=>?_⟩
 rw [matC_at hi];refine ⟨by simp,smps_iff.2 fun z hz=>?_⟩
 obtain ⟨j,hj,rfl⟩:=List.mem_map.1 hz
 have hj:=List.mem_range.1 hj
 obtain ⟨h1,h2⟩:=h j hj
 exact smps_iff.1 h2 _ (getD_mem (by omega))
theorem colM_smp {q:PatchD} (hF:formedB q=true) {c fr:List Int} (hc:c.length=cellN q.2.2.1) (hs:smps c=true) (hf:smps fr=true):smps (colM q c fr).1=true∧smps (colM q c fr).2=true:=by
 have hS:=setS_ok (q:=q) hc hs
 have hv:=valsL_ok' hF hS hf
 refine ⟨smps_iff.2 fun z hz=>?_,smps_iff.2 fun z hz=>?_⟩
 · obtain ⟨l,hl,hz⟩:=List.mem_flatten.1 hz
   have hn:=nextL_ok hF hS hf hv
   obtain ⟨i,hi,rfl⟩:=List.mem_iff_getElem.1 hl
   have hi':i < q.2.2.1.length:=by rw [← hn.1]; exact hi
   have h2:=(hn.2 i hi').2
   have e:(nextL q (setS q.2.2.1 c) fr (valsL q (setS q.2.2.1 c) fr)).getD i []=(nextL q (setS q.2.2.1 c) fr (valsL q (setS q.2.2.1 c) fr))[i]:=by simp [List.getD,hi]
   rw [e] at h2;exact smps_iff.1 h2 _ hz
 · simp only[colM,outsL,List.mem_map] at hz
   obtain ⟨i,hi,rfl⟩:=hz;exact smps_at hv.2 _
theorem linM_w {q:PatchD} (hF:formedB q=true):linW (linM q) (cellN q.2.2.1):=by
 have hi:=(formedB_parts hF).2.2.2
 have hu :∀n j,(unitL n j).length=n∧smps (unitL n j)=true:=unitL_ok
 have hz:=zerL_ok
 have s1 :∀j,(stC q j).1.length=cellN q.2.2.1∧(stC q j).2.length=q.2.2.2.length:=fun j=>colM_len hF (hu _ _).1 (hu _ _).2 (hz _).2
 have s2 :∀j,(inC q j).1.length=cellN q.2.2.1∧(inC q j).2.length=q.2.2.2.length:=fun j=>colM_len hF (hz _).1 (hz _).2 (hu _ _).2
 have t1 :∀j,smps (stC q j).1=true∧smps (stC q j).2=true:=fun j=>colM_smp hF (hu _ _).1 (hu _ _).2 (hz _).2
 have t2 :∀j,smps (inC q j).1=true∧smps (inC q j).2=true:=fun j=>colM_smp hF (hz _).1 (hz _).2 (hu _ _).2
 have ho:(linM q).2.2.2.1.length=q.2.2.2.length:=matC_len _ _ _
 refine ⟨matC_ok fun j _=>⟨(s1 j).1,(t1 j).1⟩,matC_ok fun j _=>⟨(s2 j).1,(t2 j).1⟩,?_,?_,hi.1,hi.2.1⟩
 · rw [ho]; exact matC_ok fun j _=>⟨(s1 j).2,(t1 j).2⟩
 · rw [ho]; exact matC_ok fun j _=>⟨(s2 j).2,(t2 j).2⟩
def rspF (x:LinD) (i:Int):Nat→List Int
 | 0=>unitL x.1.toNat i.toNat
 | _+1=>zerL x.1.toNat
def rspS (x:LinD) (i:Int):Nat→List Int
 | 0=>zerL x.2.1.length
 | t+1=>(stepL x (rspS x i t) (rspF x i t)).1
def rspO (x:LinD) (i:Int) (t:Nat):List Int:=(stepL x (rspS x i t) (rspF x i t)).2
def rspL (x:LinD) (i o:Int) (n:Nat):List Int:=(List.range n).map fun t=>(rspO x i t).getD o.toNat 0
theorem rspL_len (x:LinD) (i o:Int) (n:Nat):(rspL x i o n).length=n:=by simp [rspL]
theorem rspF_len (x:LinD) (i:Int) (t:Nat):(rspF x i t).length=x.1.toNat:=by
 cases t with
 | zero=>exact (unitL_ok _ _).1
 | succ t=>exact (zerL_ok _).1
theorem rspS_len (x:LinD) (i:Int) (t:Nat):(rspS x i t).length=x.2.1.length:=by
 cases t with
 | zero=>exact (zerL_ok _).1
 | succ t=>simp only[rspS,stepL]; rw [sumV_len,timesL_len]
theorem sumV_smp (a b:List Int):smps (sumV a b)=true:=smps_iff.2 fun z hz=>by
 simp only[sumV,List.mem_map] at hz
 obtain ⟨i,_,rfl⟩:=hz;exact smp_w _
theorem rspL_smp (x:LinD) (i o:Int) (n:Nat):smps (rspL x i o n)=true:=smps_iff.2 fun z hz=>by
 simp only[rspL,List.mem_map] at hz
 obtain ⟨t,_,rfl⟩:=hz;exact smps_at (sumV_smp _ _) _
abbrev TrD:=List Int × List Int
def trnL (x:LinD) (i o:Int):TrD:=(trimL (convN (chN x.2.1 x.2.1.length) (rspL x i o (x.2.1.length+1)) (x.2.1.length+1)),trimL (chN x.2.1 x.2.1.length))
/-! A patch's render is its system's. -/
theorem flat_set :∀{ns:List NodeD} {s:List (List Int)},s.length=ns.length→(∀ i,i < ns.length→(s.getD i []).length=(startV (ns.getD i n0)).length)→setS ns s.flatten=s:=by
 intro ns
 induction ns with
 | nil=>intro s h _; rw [List.eq_nil_of_length_eq_zero h]; rfl
 | cons n ns ih =>
   intro s h hl
   cases s with
   | nil=>simp at h
   | cons a s =>
     have h0:a.length=(startV n).length:=hl 0 (by simp)
     simp only[List.flatten_cons,setS];rw [← h0,List.take_left',List.drop_left']
     · rw [ih (by simpa using h) fun i hi=>hl (i+1) (by simpa using hi)]
     · rfl
     · rfl
theorem flat_setS {q:PatchD} {s:List (List Int)} (h:StOk q s):setS q.2.2.1 s.flatten=s:=flat_set h.1 fun i hi=>(h.2 i hi).1
def impI (n:Nat) (i:Int):List (List Int):=(List.replicate n []).set i.toNat [1]
theorem impI_len (n:Nat) (i:Int):(impI n i).length=n:=by simp [impI]
theorem impI_at {n:Nat} {i:Int} (j:Nat):(impI n i).getD j []=if i.toNat=j∧j < n then [1] else []:=by
 unfold impI
 have hr :∀j,(List.replicate n ([]:List Int)).getD j []=[]:=fun j=>by
  by_cases h:j < n
  · simp [List.getD,h]
  · exact getD_ge (by simp; omega)
 by_cases h:i.toNat < n
 · rw [getD_set (by simpa using h),hr]
   by_cases e:i.toNat=j
   · rw [if_pos e,if_pos ⟨e,by omega⟩]
   · rw [if_neg e,if_neg (fun z=>e z.1)]
 · rw [List.set_eq_of_length_le (by simp; omega),hr,if_neg (by omega)]
theorem impI_ok {q:PatchD} (h0:0≤q.1) (i:Int):insOk q (impI q.1.toNat i):=by
 refine ⟨by rw [impI_len]; omega,fun a ha=>?_⟩
 obtain ⟨j,hj,rfl⟩:=List.mem_iff_getElem.1 ha
 have e:(impI q.1.toNat i)[j]=(impI q.1.toNat i).getD j []:=by simp [List.getD,hj]
 rw [e,impI_at]
 split
 · exact ⟨by simp,rfl⟩
 · exact ⟨by simp,rfl⟩
theorem impI_frame {n:Nat} {i:Int} (hi:i.toNat < n) (t:Nat):frameAt (impI n i) (t:Int)=match t with | 0=>unitL n i.toNat | _+1=>zerL n:=by
 refine ext_getD (by cases t<;>simp [frameAt,impI,unitL,zerL]) fun j=>?_
 by_cases hj:j < n
 · rw [frameAt_at (by rw [impI_len]; exact hj),impI_at,Int.toNat_natCast]
   cases t with
   | zero =>
     simp only
     rw [unitL_at hi]
     by_cases e:i.toNat=j
     · rw [if_pos ⟨e,hj⟩,if_pos e]; rfl
     · rw [if_neg (fun z=>e z.1),if_neg e]; rfl
   | succ t =>
     simp only
     rw [zerL_at]
     split
     · exact getD_ge (by simp)
     · rfl
 · rw [getD_ge (by simp [frameAt,impI]; omega),getD_ge (by cases t<;>simp [unitL,zerL]<;>omega)]
theorem startV_len0 {n:NodeD} (hk:linK n.1):startV n=zerL (startV n).length:=list_zero (startV_zero hk)
theorem start_flat {q:PatchD} (hp:linP q):(startL q).flatten=zerL (cellN q.2.2.1):=by
 unfold startL cellN
 have :∀ns:List NodeD,(∀ nd∈ns,linK nd.1)→(ns.map startV).flatten=zerL (ns.map fun n=>(startV n).length).sum:=by
  intro ns
  induction ns with
  | nil=>intro _; rfl
  | cons n ns ih =>
    intro h;simp only[List.map_cons,List.flatten_cons,List.sum_cons];rw [ih fun nd hd=>h nd (List.mem_cons_of_mem _ hd)]
    have h1:=startV_len0 (h n (List.mem_cons_self))
    rw [h1];simp only[zerL,List.length_replicate,List.replicate_append_replicate]
 exact this _ hp
section
variable {q:PatchD} (hF:formedB q=true) (hp:linP q) {ins:List (List Int)} (hin:insOk q ins)
include hF hp hin
theorem st_step (t:Nat):(stN q ins (t+1)).flatten=apM (linM q).2.1 (linM q).2.2.1 (stN q ins t).flatten (frameAt ins (t:Int))∧outsL q (valN q ins t)=apM (linM q).2.2.2.1 (linM q).2.2.2.2 (stN q ins t).flatten (frameAt ins (t:Int)):=by
 have hS:=stN_ok hF hin t
 obtain ⟨f1,f2⟩:=frameAt_ok (p:=q) hin (t:Int)
 have hsm:smps (stN q ins t).flatten=true:=smps_iff.2 fun z hz=>by
  obtain ⟨l,hl,hz⟩:=List.mem_flatten.1 hz
  obtain ⟨i,hi,rfl⟩:=List.mem_iff_getElem.1 hl
  have hi':i < q.2.2.1.length:=by rw [← hS.1]; exact hi
  have h2:=(hS.2 i hi').2
  have e:(stN q ins t).getD i []=(stN q ins t)[i]:=by simp [List.getD,hi]
  rw [e] at h2;exact smps_iff.1 h2 _ hz
 have h:=lin_step hF hp (c:=(stN q ins t).flatten) (f:=frameAt ins (t:Int)) (flat_len hS) hsm f1 f2
 rw [← h.1,← h.2];unfold colM;rw [flat_setS hS,stN_next];exact ⟨rfl,rfl⟩
end
theorem rsp_st {q:PatchD} (hF:formedB q=true) (hp:linP q) {i:Int} (hi:i.toNat < q.1.toNat) (h0:0≤q.1) :∀t,(stN q (impI q.1.toNat i) t).flatten=rspS (linM q) i t:=by
 intro t;have hW:=linM_w hF
 have hin:=impI_ok (q:=q) h0 i
 have hA:(linM q).2.1.length=cellN q.2.2.1:=hW.a.1
 induction t with
 | zero=>rw [stN_zero,start_flat hp]; simp only[rspS]; rw [hA]
 | succ t ih =>
   rw [(st_step hF hp hin t).1,ih]
   have hf:frameAt (impI q.1.toNat i) (t:Int)=rspF (linM q) i t:=by rw [impI_frame hi]; cases t<;>rfl
   rw [hf];simp only[rspS];rw [step_ap hW (by rw [rspS_len,hA]) (rspF_len _ _ _)]
theorem rsp_out {q:PatchD} (hF:formedB q=true) (hp:linP q) {i:Int} (hi:i.toNat < q.1.toNat) (h0:0≤q.1) (t:Nat):outsL q (valN q (impI q.1.toNat i) t)=rspO (linM q) i t:=by
 have hW:=linM_w hF
 have hin:=impI_ok (q:=q) h0 i
 have hA:(linM q).2.1.length=cellN q.2.2.1:=hW.a.1
 rw [(st_step hF hp hin t).2,rsp_st hF hp hi h0]
 have hf:frameAt (impI q.1.toNat i) (t:Int)=rspF (linM q) i t:=by rw [impI_frame hi]; cases t<;>rfl
 rw [hf];simp only[rspO];rw [step_ap hW (by rw [rspS_len,hA]) (rspF_len _ _ _)]
theorem linP_of {p:PatchD} (h:(p.2.2.1.all fun n=>linKB n.1)=true):linP p:=fun nd hd=>by
 have:=List.all_eq_true.1 h nd hd
 have this:linKB nd.1=true:=this
 unfold linKB at this;unfold linK;simp only[List.contains_cons,List.contains_nil,Bool.or_eq_true,beq_iff_eq,Bool.or_false] at this
 omega
theorem trim_linP {p:PatchD} (h:linB p=true):linP (trimP p):=linP_of (by rw [trim_lin]; exact h)
theorem render_rsp {p:PatchD} (hP:patchB p=true) (hl:linB p=true) {i o:Int} (hi:0≤i∧i < p.1) (ho:0≤o∧o < p.2.2.2.length) (n:Nat):(renderL p (impI p.1.toNat i) n).getD o.toNat []=rspL (linM (trimP p)) i o n:=by
 have hT:=trim_patch hP
 have hF:=(patchB_parts hT).1
 have hp:=trim_linP hl
 have h1:(trimP p).1=p.1:=rfl
 have h2:(trimP p).2.2.2.length=p.2.2.2.length:=by simp [trimP,keepP,clsM]
 have hin:insOk (trimP p) (impI p.1.toNat i):=impI_ok (q:=trimP p) (by omega) i
 have hinp:insOk p (impI p.1.toNat i):=impI_ok (by omega) i
 rw [trim_render hP hinp];refine ext_getD (by rw [lenN hF hin (by omega),rspL_len]) fun t=>?_
 by_cases ht:t < n
 · rw [colN hF hin (by omega) n ht]
   unfold rspL;rw [range_at _ ht];show (outsL (trimP p) (valN (trimP p) (impI (trimP p).1.toNat i) t)).getD o.toNat 0=_
   rw [rsp_out hF hp (by omega) (by omega)]
 · rw [getD_ge (by rw [lenN hF hin (by omega)]; omega),getD_ge (by rw [rspL_len]; omega)]
end Go.Proofs.YtgmabhkmiokiaaaGreat
