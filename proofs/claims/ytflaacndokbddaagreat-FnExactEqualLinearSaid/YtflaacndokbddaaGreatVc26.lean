/-
  Texts of this claim, joined (part 26). No condition beyond those of the theorems.
-/
import Derived.Test.YtflaacndokbddaaGreatVc25
namespace Go.Proofs.YtflaacndokbddaaGreat
open Go.RowKit
set_option linter.unusedSimpArgs false
set_option linter.unusedVariables false
theorem mod_sg {f g:Nat→Int} :∀{n:Nat},(∀ i,i < n→wrap32 (f i)=wrap32 (g i))→wrap32 (sg f n)=wrap32 (sg g n):=by
 intro n
 induction n with
 | zero=>intro _; rfl
 | succ n ih =>
   intro h
   simp only[sg]
   rw [← wrap32_add,ih fun i hi=>h i (by omega),h n (by omega),wrap32_add]
theorem sg_cut {f:Nat→Int} {n m:Nat} (h:n≤m) (hz :∀x,n≤x→x < m→f x=0):sg f m=sg f n:=by
 induction m with
 | zero => have : n = 0 := by omega
           subst this; rfl
 | succ m ih =>
   by_cases e:n=m+1
   · subst e; rfl
   · simp only[sg]; rw [ih (by omega) fun x h1 h2=>hz x h1 (by omega),hz m (by omega) (by omega)]; simp
theorem w32_1:wrap32 1=1:=by unfold wrap32; omega
def cf (l:List Int):PS:=fun j=>l.getD j 0
def tl (l:List Int):Nat→Nat
 | 0=>0
 | n+1=>match decide (l.getD n 0=0) with
   | true=>tl l n
   | false=>n+1
theorem tl_t {l:List Int} {n:Nat} (h:l.getD n 0=0):tl l (n+1)=tl l n:=by simp only[tl]; rw [decide_eq_true h]
theorem tl_f {l:List Int} {n:Nat} (h:¬ l.getD n 0=0):tl l (n+1)=n+1:=by simp only[tl]; rw [decide_eq_false h]
theorem tl_le (l:List Int) :∀n,tl l n≤n:=by
 intro n
 induction n with
 | zero=>exact Nat.le_refl _
 | succ n ih =>
   by_cases h:l.getD n 0=0
   · rw [tl_t h]; omega
   · rw [tl_f h]; omega
theorem tl_z {l:List Int} :∀{n j:Nat},tl l n≤j→j < n→l.getD j 0=0:=by
 intro n
 induction n with
 | zero=>intro j _ h; omega
 | succ n ih =>
   intro j h1 h2
   by_cases h:l.getD n 0=0
   · rw [tl_t h] at h1
     by_cases e:j=n
     · rw [e]; exact h
     · exact ih h1 (by omega)
   · rw [tl_f h] at h1; omega
theorem tl_last {l:List Int} :∀{n m:Nat},tl l n=m+1→¬ l.getD m 0=0:=by
 intro n
 induction n with
 | zero=>intro m h; simp [tl] at h
 | succ n ih =>
   intro m h
   by_cases c:l.getD n 0=0
   · rw [tl_t c] at h; exact ih h
   · rw [tl_f c] at h; obtain rfl:n=m:=by omega
     exact c
theorem tl_congr {l l':List Int} (h :∀j,l.getD j 0=l'.getD j 0) :∀n,tl l n=tl l' n:=by
 intro n
 induction n with
 | zero=>rfl
 | succ n ih=>simp only[tl]; rw [h,ih]
theorem tl_more {l:List Int} {n:Nat} (h:l.length≤n):tl l n=tl l l.length:=by
 induction n with
 | zero=>rw [show l.length=0 by omega]
 | succ n ih =>
   by_cases e:l.length=n+1
   · rw [e]
   · rw [tl_t (getD_ge (by omega)),ih (by omega)]
def trimL (l:List Int):List Int:=match tl l l.length with
 | 0=>[0]
 | n+1=>l.take (n+1)
theorem trimL_0 {l:List Int} (h:tl l l.length=0):trimL l=[0]:=by unfold trimL; rw [h]
theorem trimL_s {l:List Int} {n:Nat} (h:tl l l.length=n+1):trimL l=l.take (n+1):=by unfold trimL; rw [h]
theorem trimL_p {l:List Int} {n:Nat} (h:tl l l.length=n) (hn:0 < n):trimL l=l.take n:=by
 obtain ⟨m,rfl⟩ :∃m,n=m+1:=⟨n - 1,by omega⟩
 exact trimL_s h
theorem take_at (l:List Int) (n j:Nat):(l.take n).getD j 0=if j < n then l.getD j 0 else 0:=by
 by_cases h:j < n
 · rw [if_pos h]; simp [List.getD,h]
 · rw [if_neg h]; exact getD_ge (by rw [List.length_take]; omega)
theorem trimL_at (l:List Int) (j:Nat):(trimL l).getD j 0=l.getD j 0:=by
 cases h:tl l l.length with
 | zero =>
   rw [trimL_0 h]
   have hz:l.getD j 0=0:=by
    by_cases hj:j < l.length
    · exact tl_z (by omega) hj
    · exact getD_ge (by omega)
   rw [hz]; cases j<;>rfl
 | succ n =>
   rw [trimL_s h,take_at]
   split
   · rfl
   · by_cases hj:j < l.length
     · exact (tl_z (by omega) hj).symm
     · exact (getD_ge (by omega)).symm
theorem trimL_ext {l l':List Int} (h :∀j,l.getD j 0=l'.getD j 0):trimL l=trimL l':=by
 have e:tl l l.length=tl l' l'.length:=by
  rw [← tl_more (l:=l) (n:=max l.length l'.length) (by omega),← tl_more (l:=l') (n:=max l.length l'.length) (by omega),tl_congr h]
 cases h1:tl l l.length with
 | zero=>rw [trimL_0 h1,trimL_0 (e ▸ h1)]
 | succ n =>
   have h2:tl l' l'.length=n+1:=e ▸ h1
   rw [trimL_s h1,trimL_s h2]
   have a:=tl_le l l.length
   have b:=tl_le l' l'.length
   refine ext_getD (by rw [List.length_take,List.length_take]; omega) fun j=>?_
   rw [take_at,take_at,h]
theorem trimL_len (l:List Int):1≤(trimL l).length∧(trimL l).length≤max 1 l.length:=by
 cases h:tl l l.length with
 | zero=>rw [trimL_0 h]; simp only[List.length_singleton]; omega
 | succ n=>rw [trimL_s h,List.length_take]; have:=tl_le l l.length; omega
theorem trimL_smp {l:List Int} (h:smps l=true):smps (trimL l)=true:=by
 cases e:tl l l.length with
 | zero=>rw [trimL_0 e]; rfl
 | succ n=>rw [trimL_s e]; exact smps_take h _
theorem trimL_last (l:List Int):(trimL l).length=1∨(trimL l).getD ((trimL l).length - 1) 0≠0:=by
 cases e:tl l l.length with
 | zero=>rw [trimL_0 e]; exact Or.inl rfl
 | succ n =>
   right
   have h:=tl_last e
   rw [trimL_s e]
   have:=tl_le l l.length
   rw [List.length_take,take_at,if_pos (by omega),show min (n+1) l.length - 1=n by omega]
   exact h
def convN (p a:List Int) (n:Nat):List Int:=(List.range n).map fun i=>wrap32 (pm (cf p) (cf a) i)
theorem convN_len (p a:List Int) (n:Nat):(convN p a n).length=n:=by simp [convN]
theorem convN_at (p a:List Int) (n j:Nat):(convN p a n).getD j 0=if j < n then wrap32 (pm (cf p) (cf a) j) else 0:=by
 by_cases h:j < n
 · rw [if_pos h]; simp [convN,List.getD,h]
 · rw [if_neg h]; exact getD_ge (by rw [convN_len]; omega)
theorem convN_smp (p a:List Int) (n:Nat):smps (convN p a n)=true:=smps_iff.2 fun z hz=>by
 simp only[convN,List.mem_map] at hz
 obtain ⟨i,_,rfl⟩:=hz
 exact smp_w _
def cvS (p a:List Int) (i k:Nat):Int:=wrap32 (sg (fun x=>if x≤i then p.getD x 0 * a.getD (i - x) 0 else 0) k)
theorem cvS_0 (p a:List Int) (i:Nat):cvS p a i 0=0:=w32_0
theorem cvS_next {p a:List Int} {i k:Nat} (h:k≤i):cvS p a i (k+1)=wrap32 (cvS p a i k+p.getD k 0 * a.getD (i - k) 0):=by
 unfold cvS; simp only[sg]; rw [if_pos h,w32_al]
theorem cvS_skip {p a:List Int} {i k:Nat} (h:¬ k≤i):cvS p a i (k+1)=cvS p a i k:=by
 unfold cvS; simp only[sg]; rw [if_neg h,Int.add_zero]
theorem cvS_full {p a:List Int} {i k:Nat} (h:i < k∨p.length≤k):cvS p a i k=wrap32 (pm (cf p) (cf a) i):=by
 unfold cvS pm cf
 congr 1
 have e:sg (fun x=>p.getD x 0 * a.getD (i - x) 0) (i+1)=sg (fun x=>if x≤i then p.getD x 0 * a.getD (i - x) 0 else 0) (i+1):=sg_congr fun x hx=>by rw [if_pos (by omega)]
 rw [e]
 by_cases c:i < k
 · exact sg_cut (by omega) fun x h1 h2=>if_neg (by omega)
 · refine (sg_cut (by omega) fun x h1 h2=>?_).symm
   rw [if_pos (by omega),getD_ge (l:=p) (by omega),Int.zero_mul]
def cvP (p a:List Int) (n i k:Nat):List Int:=(List.range n).map fun j=>if j < i then wrap32 (pm (cf p) (cf a) j) else if j=i then cvS p a i k else 0
theorem cvP_len (p a:List Int) (n i k:Nat):(cvP p a n i k).length=n:=by simp [cvP]
theorem cvP_at (p a:List Int) {n j:Nat} (i k:Nat) (h:j < n):(cvP p a n i k).getD j 0=if j < i then wrap32 (pm (cf p) (cf a) j) else if j=i then cvS p a i k else 0:=by
 simp [cvP,List.getD,h]
theorem cvP_0 (p a:List Int) (n:Nat):cvP p a n 0 0=List.replicate n 0:=ext_getD (by rw [cvP_len,List.length_replicate]) fun j=>by
 by_cases h:j < n
 · rw [cvP_at _ _ _ _ h,if_neg (by omega)]
   have e:(List.replicate n (0:Int)).getD j 0=0:=zerL_at n j
   rw [e]
   split
   · exact cvS_0 _ _ _
   · rfl
 · rw [getD_ge (by rw [cvP_len]; omega),getD_ge (by rw [List.length_replicate]; omega)]
theorem cvP_i {p a:List Int} {n i k:Nat} (h:i < n):(cvP p a n i k).getD i 0=cvS p a i k:=by
 rw [cvP_at _ _ _ _ h,if_neg (by omega),if_pos rfl]
theorem cvP_next {p a:List Int} {n i k:Nat} (hi:i < n) (h:k≤i):(cvP p a n i k).set i (wrap32 ((cvP p a n i k).getD i 0+p.getD k 0 * a.getD (i - k) 0))=cvP p a n i (k+1) :=
 ext_getD (by rw [List.length_set,cvP_len,cvP_len]) fun j=>by
  rw [cvP_i hi,← cvS_next h,getD_set (by rw [cvP_len]; exact hi)]
  by_cases hj:j < n
  · rw [cvP_at _ _ _ _ hj,cvP_at _ _ _ _ hj]
    by_cases e:i=j
    · subst e; rw [if_pos rfl,if_neg (by omega),if_pos rfl]
    · rw [if_neg e]
      by_cases l:j < i
      · rw [if_pos l,if_pos l]
      · rw [if_neg l,if_neg l,if_neg (by omega),if_neg (by omega)]
  · rw [if_neg (by omega),getD_ge (by rw [cvP_len]; omega),getD_ge (by rw [cvP_len]; omega)]
theorem cvP_skip {p a:List Int} {n i k:Nat} (h:¬ k≤i):cvP p a n i (k+1)=cvP p a n i k:=by
 unfold cvP; rw [cvS_skip h]
theorem cvP_end {p a:List Int} {n i k:Nat} (h:i < k∨p.length≤k):cvP p a n i k=cvP p a n (i+1) 0 :=
 ext_getD (by rw [cvP_len,cvP_len]) fun j=>by
  by_cases hj:j < n
  · rw [cvP_at _ _ _ _ hj,cvP_at _ _ _ _ hj]
    by_cases e:j=i
    · subst e; rw [if_neg (by omega),if_pos rfl,if_pos (by omega)]; exact cvS_full h
    · by_cases l:j < i
      · rw [if_pos l,if_pos (by omega)]
      · rw [if_neg l,if_neg e,if_neg (by omega)]
        split
        · rw [cvS_0]
        · rfl
  · rw [getD_ge (by rw [cvP_len]; omega),getD_ge (by rw [cvP_len]; omega)]
theorem cvP_all {p a:List Int} {n i:Nat} (h:n≤i):cvP p a n i 0=convN p a n:=ext_getD (by rw [cvP_len,convN_len]) fun j=>by
 by_cases hj:j < n
 · rw [cvP_at _ _ _ _ hj,convN_at,if_pos (by omega),if_pos hj]
 · rw [getD_ge (by rw [cvP_len]; omega),getD_ge (by rw [convN_len]; omega)]
theorem convN_next (p a:List Int) (n:Nat):convN p a n++[wrap32 (pm (cf p) (cf a) n)]=convN p a (n+1):=map_range_next (fun i=>wrap32 (pm (cf p) (cf a) i)) n
def mlP (a b:List Int) (N i k:Nat):List Int:=(List.range N).map fun j=>wrap32 (sg (fun x=>if x≤j then a.getD x 0 * b.getD (j - x) 0 else 0) i+(if i≤j∧j < i+k then a.getD i 0 * b.getD (j - i) 0 else 0))
theorem mlP_len (a b:List Int) (N i k:Nat):(mlP a b N i k).length=N:=by simp [mlP]
theorem mlP_at (a b:List Int) {N j:Nat} (i k:Nat) (h:j < N):(mlP a b N i k).getD j 0=wrap32 (sg (fun x=>if x≤j then a.getD x 0 * b.getD (j - x) 0 else 0) i+(if i≤j∧j < i+k then a.getD i 0 * b.getD (j - i) 0 else 0)):=by
 simp [mlP,List.getD,h]
theorem mlP_0 (a b:List Int) (N:Nat):mlP a b N 0 0=List.replicate N 0:=ext_getD (by rw [mlP_len,List.length_replicate]) fun j=>by
 by_cases h:j < N
 · rw [mlP_at _ _ _ _ h,if_neg (by omega)]
   have e:(List.replicate N (0:Int)).getD j 0=0:=zerL_at N j
   rw [e]; simp [sg,w32_0]
 · rw [getD_ge (by rw [mlP_len]; omega),getD_ge (by rw [List.length_replicate]; omega)]
theorem mlP_next {a b:List Int} {N i k:Nat} (h:i+k < N):(mlP a b N i k).set (i+k) (wrap32 ((mlP a b N i k).getD (i+k) 0+a.getD i 0 * b.getD k 0))=mlP a b N i (k+1) :=
 ext_getD (by rw [List.length_set,mlP_len,mlP_len]) fun j=>by
  rw [getD_set (by rw [mlP_len]; exact h)]
  by_cases hj:j < N
  · rw [mlP_at _ _ _ _ hj,mlP_at _ _ _ _ h,mlP_at _ _ _ _ hj]
    by_cases e:i+k=j
    · subst e
      rw [if_pos rfl,if_neg (by omega),if_pos (by omega),w32_al,Int.add_zero,show i+k - i=k by omega]
    · rw [if_neg e]
      by_cases c:i≤j∧j < i+k
      · rw [if_pos c,if_pos (by omega)]
      · rw [if_neg c,if_neg (by omega)]
  · rw [if_neg (by omega),getD_ge (by rw [mlP_len]; omega),getD_ge (by rw [mlP_len]; omega)]
theorem mlP_end {a b:List Int} {N i k:Nat} (h:b.length≤k):mlP a b N i k=mlP a b N (i+1) 0:=ext_getD (by rw [mlP_len,mlP_len]) fun j=>by
 by_cases hj:j < N
 · rw [mlP_at _ _ _ _ hj,mlP_at _ _ _ _ hj]
   simp only[sg]
   rw [if_neg (c:=i+1≤j∧j < i+1+0) (by omega),Int.add_zero]
   by_cases c:i≤j
   · rw [if_pos c]
     by_cases d:j < i+k
     · rw [if_pos ⟨c,d⟩]
     · rw [if_neg (by omega),getD_ge (l:=b) (i:=j - i) (by omega),Int.mul_zero]
   · rw [if_neg c,if_neg (by omega)]
 · rw [getD_ge (by rw [mlP_len]; omega),getD_ge (by rw [mlP_len]; omega)]
theorem mlP_all {a b:List Int} {N i:Nat} (h:a.length≤i):mlP a b N i 0=convN a b N:=ext_getD (by rw [mlP_len,convN_len]) fun j=>by
 by_cases hj:j < N
 · rw [mlP_at _ _ _ _ hj,convN_at,if_pos hj,if_neg (by omega),Int.add_zero]
   exact cvS_full (p:=a) (a:=b) (Or.inr h)
 · rw [getD_ge (by rw [mlP_len]; omega),getD_ge (by rw [convN_len]; omega)]
def prodL (a b:List Int):List Int:=trimL (convN a b (a.length+b.length))
theorem pm_far {a b:List Int} {j:Nat} (h:a.length+b.length≤j+1):pm (cf a) (cf b) j=0:=sg_z fun i hi=>by
 unfold cf
 by_cases c:i < a.length
 · rw [getD_ge (l:=b) (by omega),Int.mul_zero]
 · rw [getD_ge (l:=a) (by omega),Int.zero_mul]
theorem prodL_less {a b:List Int}:trimL (convN a b (a.length+b.length - 1))=prodL a b:=trimL_ext fun j=>by
 rw [convN_at,convN_at]
 by_cases h:j < a.length+b.length - 1
 · rw [if_pos h,if_pos (by omega)]
 · rw [if_neg h]
   split
   · rw [pm_far (by omega),w32_0]
   · rfl
theorem prodL_nil {a b:List Int} (h:a.length=0∨b.length=0):prodL a b=[0]:=by
 have e :∀j,(convN a b (a.length+b.length)).getD j 0=([]:List Int).getD j 0:=fun j=>by
  rw [convN_at]
  have:pm (cf a) (cf b) j=0:=sg_z fun i hi=>by
   unfold cf
   rcases h with h | h
   · rw [getD_ge (l:=a) (by omega),Int.zero_mul]
   · rw [getD_ge (l:=b) (by omega),Int.mul_zero]
  rw [this,w32_0]; simp
 unfold prodL
 rw [trimL_ext e]; rfl
theorem prodL_at (a b:List Int) (j:Nat):(prodL a b).getD j 0=wrap32 (pm (cf a) (cf b) j):=by
 unfold prodL
 rw [trimL_at,convN_at]
 split
 · rfl
 · rw [pm_far (by omega),w32_0]
theorem prodL_cut (a b:List Int) (n:Nat):trimL ((prodL a b).take n)=trimL (convN a b n):=trimL_ext fun j=>by rw [take_at,convN_at,prodL_at]
theorem prodL_short {a b:List Int} {n:Nat} (h:(prodL a b).length≤n):trimL (prodL a b)=trimL (convN a b n):=by
 have:=prodL_cut a b n
 rwa [List.take_of_length_le h] at this
/-! The characteristic polynomial. -/
def mF (A:List (List Int)):Nat→Nat→Int:=fun i j=>(A.getD i []).getD j 0
def chN (A:List (List Int)) (r:Nat):List Int:=(List.range (r+1)).map fun i=>wrap32 (pQ r (mF A) i)
def fsN (A:List (List Int)) (r k:Nat):List Int:=(List.range (k+2)).map fun i=>wrap32 (pS r (mF A) r r i)
def clN (A:List (List Int)) (r k:Nat):List Int:=(List.range r).map fun i=>wrap32 (pW r (mF A) (fun x=>mF A x r) i k)
theorem chN_len (A:List (List Int)) (r:Nat):(chN A r).length=r+1:=by simp [chN]
theorem fsN_len (A:List (List Int)) (r k:Nat):(fsN A r k).length=k+2:=by simp [fsN]
theorem clN_len (A:List (List Int)) (r k:Nat):(clN A r k).length=r:=by simp [clN]
theorem range_at (f:Nat→Int) {n i:Nat} (h:i < n):((List.range n).map f).getD i 0=f i:=by simp [List.getD,h]
theorem chN_0 (A:List (List Int)):chN A 0=[1]:=by
 show [wrap32 (pQ 0 (mF A) 0)]=[1]
 rw [show pQ 0 (mF A) 0=1 from rfl,w32_1]
theorem fsN_0 (A:List (List Int)) (r:Nat):fsN A r 0=[1,wrap32 (- (A.getD r []).getD r 0)]:=by
 have e0:pS r (mF A) r r 0=1:=by simp [pS,pa,pn,pz,pc]
 have e1:pS r (mF A) r r 1=- (A.getD r []).getD r 0:=by simp [pS,pa,pn,pz,pc,pW,pw,mF]
 show [wrap32 (pS r (mF A) r r 0),wrap32 (pS r (mF A) r r 1)]=_
 rw [e0,e1,w32_1]
theorem cl_dot (A:List (List Int)) (r k i:Nat):dotN ((A.getD i []).take r) (clN A r k) r=wrap32 (pW r (mF A) (fun x=>mF A x r) i (k+1)):=by
 rw [dotN_eq]
 show _=wrap32 (sg (fun j=>mF A i j * pW r (mF A) (fun x=>mF A x r) j k) r)
 refine mod_sg fun j hj=>?_
 rw [take_at,if_pos hj]
 unfold clN
 rw [range_at _ hj,w32_mr]
 rfl
theorem fsN_next (A:List (List Int)) (r k:Nat):fsN A r k++[wrap32 (- dotN ((A.getD r []).take r) (clN A r k) r)]=fsN A r (k+1):=by
 have e:pS r (mF A) r r (k+2)=- pW r (mF A) (fun x=>mF A x r) r (k+1):=by simp [pS,pa,pn,pz,pc]
 have h:wrap32 (- wrap32 (pW r (mF A) (fun x=>mF A x r) r (k+1)))=wrap32 (- pW r (mF A) (fun x=>mF A x r) r (k+1)):=by
  have:=w32_sr 0 (pW r (mF A) (fun x=>mF A x r) r (k+1)); simpa using this
 rw [cl_dot,h,← e]
 exact map_range_next (fun i=>wrap32 (pS r (mF A) r r i)) (k+2)
theorem clN_0 {A:List (List Int)} (r:Nat) (hs :∀i,i < r→smps (A.getD i [])=true):(List.range r).map (fun i=>(A.getD i []).getD r 0)=clN A r 0:=by
 unfold clN
 refine List.map_congr_left fun i hi=>?_
 have:=smp_at (hs i (List.mem_range.1 hi)) r
 exact this.symm
theorem clN_next (A:List (List Int)) (r k:Nat):(List.range r).map (fun i=>dotN ((A.getD i []).take r) (clN A r k) r)=clN A r (k+1):=by
 unfold clN
 exact List.map_congr_left fun i hi=>cl_dot A r k i
theorem chN_next (A:List (List Int)) (r:Nat):convN (chN A r) (fsN A r r) (r+2)=chN A (r+1):=by
 unfold convN
 show _=(List.range (r+2)).map fun i=>wrap32 (pQ (r+1) (mF A) i)
 refine List.map_congr_left fun i hi=>?_
 have hi:i < r+2:=List.mem_range.1 hi
 show wrap32 (sg _ _)=wrap32 (sg _ _)
 refine mod_sg fun x hx=>?_
 unfold cf
 have hf:(fsN A r r).getD (i - x) 0=wrap32 (pS r (mF A) r r (i - x)):=range_at _ (by omega)
 rw [hf,w32_mr]
 by_cases c:x < r+1
 · have hc:(chN A r).getD x 0=wrap32 (pQ r (mF A) x):=range_at _ c
   rw [hc,w32_ml]
 · rw [getD_ge (by rw [chN_len]; omega),ch_deg r (mF A) (by omega)]
theorem chN_smp (A:List (List Int)) (r:Nat):smps (chN A r)=true:=smps_iff.2 fun z hz=>by
 simp only[chN,List.mem_map] at hz
 obtain ⟨i,_,rfl⟩:=hz
 exact smp_w _
theorem chN_at (A:List (List Int)) (r j:Nat):(chN A r).getD j 0=wrap32 (pQ r (mF A) j):=by
 by_cases c:j < r+1
 · exact range_at _ c
 · rw [getD_ge (by rw [chN_len]; omega),ch_deg r (mF A) (by omega),w32_0]
theorem pQ_0 (M:Nat→Nat→Int) :∀n,pQ n M 0=1:=by
 intro n
 induction n with
 | zero=>rfl
 | succ n ih=>simp only[pQ]; rw [pm_0,ih]; simp [pS,pa,pn,pz,pc]
theorem chN_1 (A:List (List Int)) (r:Nat):(chN A r).getD 0 0=1:=by rw [chN_at,pQ_0,w32_1]
end Go.Proofs.YtflaacndokbddaaGreat
