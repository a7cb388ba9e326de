/-
  Texts of this claim, joined (part 17). No condition beyond those of the theorems.
-/
import Derived.Test.YtgaogcnfijbahaaGreatQ16
namespace Go.Proofs.YtgaogcnfijbahaaGreat
open Go.RowKit
set_option linter.unusedSimpArgs false
set_option linter.unusedVariables false
theorem A00 {f g:Nat→Int}:∀{n:Nat},(∀i,i < n→wrap32 (f i)=wrap32 (g i))→wrap32 (sg f n)=wrap32 (sg g n):=by
 intro n
 induction n with
 | zero=>intro _;rfl
 | succ n ih =>
   intro h;simp only[sg];rw[←Q9,ih fun i hi=>h i (by omega),h n (by omega),Q9]
theorem C1w {f:Nat→Int} {n m:Nat} (h:n≤m) (hz:∀x,n≤x→x < m→f x=0):sg f m=sg f n:=by
 induction m with
 | zero => have : n = 0 := by omega
           subst this;rfl
 | succ m ih =>
   by_cases e:n=m+1
   · subst e;rfl
   · simp only[sg];rw[ih (by omega) fun x h1 h2=>hz x h1 (by omega),hz m (by omega) (by omega)];simp
theorem C1m:wrap32 1=1:=by unfold wrap32;omega
def cf (l:List Int):PS:=fun j=>l.getD j 0
def tl (l:List Int):Nat→Nat
 | 0=>0
 | n + 1 => match decide (l.getD n 0 = 0) with
   | true=>tl l n
   | false=>n+1
theorem C14 {l:List Int} {n:Nat} (h:l.getD n 0=0):tl l (n+1)=tl l n:=by simp only[tl];rw[decide_eq_true h]
theorem C5r {l:List Int} {n:Nat} (h:¬l.getD n 0=0):tl l (n+1)=n+1:=by simp only[tl];rw[decide_eq_false h]
theorem B8E (l:List Int):∀n,tl l n≤n:=by
 intro n
 induction n with
 | zero=>exact Nat.le_refl _
 | succ n ih =>
   by_cases h:l.getD n 0=0
   · rw[C14 h];omega
   · rw[C5r h];omega
theorem C8F {l:List Int}:∀{n j:Nat},tl l n≤j→j < n→l.getD j 0=0:=by
 intro n
 induction n with
 | zero=>intro j _ h;omega
 | succ n ih =>
   intro j h1 h2
   by_cases h:l.getD n 0=0
   · rw[C14 h] at h1
     by_cases e:j=n
     · rw[e];exact h
     · exact ih h1 (by omega)
   · rw[C5r h] at h1;omega
theorem C4L {l:List Int}:∀{n m:Nat},tl l n=m+1→¬l.getD m 0=0:=by
 intro n
 induction n with
 | zero=>intro m h;simp[tl] at h
 | succ n ih =>
   intro m h
   by_cases c:l.getD n 0=0
   · rw[C14 c] at h;exact ih h
   · rw[C5r c] at h;obtain rfl:n=m:=by omega
     exact c
theorem C2j {l l':List Int} (h:∀j,l.getD j 0=l'.getD j 0):∀n,tl l n=tl l' n:=by
 intro n
 induction n with
 | zero=>rfl
 | succ n ih=>simp only[tl];rw[h,ih]
theorem B8v {l:List Int} {n:Nat} (h:l.length≤n):tl l n=tl l l.length:=by
 induction n with
 | zero=>rw[show l.length=0 by omega]
 | succ n ih =>
   by_cases e:l.length=n+1
   · rw[e]
   · rw[C14 (D7 (by omega)),ih (by omega)]
def U2 (l:List Int):List Int:=match tl l l.length with
 | 0=>[0]
 | n+1=>l.take (n+1)
theorem A1V {l:List Int} (h:tl l l.length=0):U2 l=[0]:=by unfold U2;rw[h]
theorem A2c {l:List Int} {n:Nat} (h:tl l l.length=n+1):U2 l=l.take (n+1):=by unfold U2;rw[h]
theorem C4o {l:List Int} {n:Nat} (h:tl l l.length=n) (hn:0 < n):U2 l=l.take n:=by
 obtain⟨m,rfl⟩:∃m,n=m+1:=⟨n - 1,by omega⟩
 exact A2c h
theorem A6F (l:List Int) (n j:Nat):(l.take n).getD j 0=if j < n then l.getD j 0 else 0:=by
 by_cases h:j < n
 · rw[if_pos h];simp[List.getD,h]
 · rw[if_neg h];exact D7 (by rw[List.length_take];omega)
theorem A0k (l:List Int) (j:Nat):(U2 l).getD j 0=l.getD j 0:=by
 cases h:tl l l.length with
 | zero =>
   rw[A1V h]
   have hz:l.getD j 0=0:=by
    by_cases hj:j < l.length
    · exact C8F (by omega) hj
    · exact D7 (by omega)
   rw[hz];cases j<;>rfl
 | succ n =>
   rw[A2c h,A6F]
   split
   · rfl
   · by_cases hj:j < l.length
     · exact(C8F (by omega) hj).symm
     · exact(D7 (by omega)).symm
theorem B1K {l l':List Int} (h:∀j,l.getD j 0=l'.getD j 0):U2 l=U2 l':=by
 have e:tl l l.length=tl l' l'.length:=by
  rw[←B8v (l:=l) (n:=max l.length l'.length) (by omega),←B8v (l:=l') (n:=max l.length l'.length) (by omega),C2j h]
 cases h1:tl l l.length with
 | zero=>rw[A1V h1,A1V (e ▸ h1)]
 | succ n =>
   have h2:tl l' l'.length=n+1:=e ▸ h1
   rw[A2c h1,A2c h2];have a:=B8E l l.length
   have b:=B8E l' l'.length
   refine P0 (by rw[List.length_take,List.length_take];omega) fun j=>?_
   rw[A6F,A6F,h]
theorem A6x (l:List Int):1≤(U2 l).length∧(U2 l).length≤max 1 l.length:=by
 cases h:tl l l.length with
 | zero=>rw[A1V h];simp only[List.length_singleton];omega
 | succ n=>rw[A2c h,List.length_take];have:=B8E l l.length;omega
theorem C0n {l:List Int} (h:D9 l=true):D9 (U2 l)=true:=by
 cases e:tl l l.length with
 | zero=>rw[A1V e];rfl
 | succ n=>rw[A2c e];exact B1Y h _
theorem B71 (l:List Int):(U2 l).length=1∨(U2 l).getD ((U2 l).length - 1) 0≠0:=by
 cases e:tl l l.length with
 | zero=>rw[A1V e];exact Or.inl rfl
 | succ n =>
   right
   have h:=C4L e
   rw[A2c e];have:=B8E l l.length
   rw[List.length_take,A6F,if_pos (by omega),show min (n+1) l.length - 1=n by omega]
   exact h
theorem A8o (l:List Int):U2 (U2 l)=U2 l:=B1K (A0k l)
def t7 (p a:List Int) (n:Nat):List Int:=(List.range n).map fun i=>wrap32 (pm (cf p) (cf a) i)
theorem a9 (p a:List Int) (n:Nat):(t7 p a n).length=n:=by simp[t7]
theorem A5v (p a:List Int) (n j:Nat):(t7 p a n).getD j 0=if j < n then wrap32 (pm (cf p) (cf a) j) else 0:=by
 by_cases h:j < n
 · rw[if_pos h];simp[t7,List.getD,h]
 · rw[if_neg h];exact D7 (by rw[a9];omega)
theorem C1H (p a:List Int) (n:Nat):D9 (t7 p a n)=true:=G4.2 fun z hz=>by
 simp only[t7,List.mem_map] at hz
 obtain⟨i,_,rfl⟩:=hz;exact A1r _
def cvS (p a:List Int) (i k:Nat):Int:=wrap32 (sg (fun x=>if x≤i then p.getD x 0 * a.getD (i - x) 0 else 0) k)
theorem C6e (p a:List Int) (i:Nat):cvS p a i 0=0:=j9
theorem C3E {p a:List Int} {i k:Nat} (h:k≤i):cvS p a i (k+1)=wrap32 (cvS p a i k+p.getD k 0 * a.getD (i - k) 0):=by
 unfold cvS;simp only[sg];rw[if_pos h,r4]
theorem C2u {p a:List Int} {i k:Nat} (h:¬k≤i):cvS p a i (k+1)=cvS p a i k:=by
 unfold cvS;simp only[sg];rw[if_neg h,Int.add_zero]
theorem B4j {p a:List Int} {i k:Nat} (h:i < k∨p.length≤k):cvS p a i k=wrap32 (pm (cf p) (cf a) i):=by
 unfold cvS pm cf
 congr 1
 have e:sg (fun x=>p.getD x 0 * a.getD (i - x) 0) (i+1)=sg (fun x=>if x≤i then p.getD x 0 * a.getD (i - x) 0 else 0) (i+1):=G5 fun x hx=>by rw[if_pos (by omega)]
 rw[e]
 by_cases c:i < k
 · exact C1w (by omega) fun x h1 h2=>if_neg (by omega)
 · refine(C1w (by omega) fun x h1 h2=>?_).symm
   rw[if_pos (by omega),D7 (l:=p) (by omega),Int.zero_mul]
def cvP (p a:List Int) (n i k:Nat):List Int:=(List.range n).map fun j=>if j < i then wrap32 (pm (cf p) (cf a) j) else if j=i then cvS p a i k else 0
theorem V6 (p a:List Int) (n i k:Nat):(cvP p a n i k).length=n:=by simp[cvP]
theorem A5U (p a:List Int) {n j:Nat} (i k:Nat) (h:j < n):(cvP p a n i k).getD j 0=if j < i then wrap32 (pm (cf p) (cf a) j) else if j=i then cvS p a i k else 0:=by
 simp[cvP,List.getD,h]
theorem C2y (p a:List Int) (n:Nat):cvP p a n 0 0=List.replicate n 0:=P0 (by rw[V6,List.length_replicate]) fun j=>by
 by_cases h:j < n
 · rw[A5U _ _ _ _ h,if_neg (by omega)]
   have e:(List.replicate n (0:Int)).getD j 0=0:=A0C n j
   rw[e]
   split
   · exact C6e _ _ _
   · rfl
 · rw[D7 (by rw[V6];omega),D7 (by rw[List.length_replicate];omega)]
theorem C8P {p a:List Int} {n i k:Nat} (h:i < n):(cvP p a n i k).getD i 0=cvS p a i k:=by
 rw[A5U _ _ _ _ h,if_neg (by omega),if_pos rfl]
theorem B4Z {p a:List Int} {n i k:Nat} (hi:i < n) (h:k≤i):(cvP p a n i k).set i (wrap32 ((cvP p a n i k).getD i 0+p.getD k 0 * a.getD (i - k) 0))=cvP p a n i (k+1) :=
 P0 (by rw[List.length_set,V6,V6]) fun j=>by
  rw[C8P hi,←C3E h,N1 (by rw[V6];exact hi)]
  by_cases hj:j < n
  · rw[A5U _ _ _ _ hj,A5U _ _ _ _ hj]
    by_cases e:i=j
    · subst e;rw[if_pos rfl,if_neg (by omega),if_pos rfl]
    · rw[if_neg e]
      by_cases l:j < i
      · rw[if_pos l,if_pos l]
      · rw[if_neg l,if_neg l,if_neg (by omega),if_neg (by omega)]
  · rw[if_neg (by omega),D7 (by rw[V6];omega),D7 (by rw[V6];omega)]
theorem C3G {p a:List Int} {n i k:Nat} (h:¬k≤i):cvP p a n i (k+1)=cvP p a n i k:=by
 unfold cvP;rw[C2u h]
theorem B9P {p a:List Int} {n i k:Nat} (h:i < k∨p.length≤k):cvP p a n i k=cvP p a n (i+1) 0 :=
 P0 (by rw[V6,V6]) fun j=>by
  by_cases hj:j < n
  · rw[A5U _ _ _ _ hj,A5U _ _ _ _ hj]
    by_cases e:j=i
    · subst e;rw[if_neg (by omega),if_pos rfl,if_pos (by omega)];exact B4j h
    · by_cases l:j < i
      · rw[if_pos l,if_pos (by omega)]
      · rw[if_neg l,if_neg e,if_neg (by omega)]
        split
        · rw[C6e]
        · rfl
  · rw[D7 (by rw[V6];omega),D7 (by rw[V6];omega)]
theorem B8u {p a:List Int} {n i:Nat} (h:n≤i):cvP p a n i 0=t7 p a n:=P0 (by rw[V6,a9]) fun j=>by
 by_cases hj:j < n
 · rw[A5U _ _ _ _ hj,A5v,if_pos (by omega),if_pos hj]
 · rw[D7 (by rw[V6];omega),D7 (by rw[a9];omega)]
def mlP (a b:List Int) (N i k:Nat):List Int:=(List.range N).map fun j=>wrap32 (sg (fun x=>if x≤j then a.getD x 0 * b.getD (j - x) 0 else 0) i+(if i≤j∧j < i+k then a.getD i 0 * b.getD (j - i) 0 else 0))
theorem V3 (a b:List Int) (N i k:Nat):(mlP a b N i k).length=N:=by simp[mlP]
theorem A5W (a b:List Int) {N j:Nat} (i k:Nat) (h:j < N):(mlP a b N i k).getD j 0=wrap32 (sg (fun x=>if x≤j then a.getD x 0 * b.getD (j - x) 0 else 0) i+(if i≤j∧j < i+k then a.getD i 0 * b.getD (j - i) 0 else 0)):=by
 simp[mlP,List.getD,h]
theorem C6a (a b:List Int) (N:Nat):mlP a b N 0 0=List.replicate N 0:=P0 (by rw[V3,List.length_replicate]) fun j=>by
 by_cases h:j < N
 · rw[A5W _ _ _ _ h,if_neg (by omega)]
   have e:(List.replicate N (0:Int)).getD j 0=0:=A0C N j
   rw[e];simp[sg,j9]
 · rw[D7 (by rw[V3];omega),D7 (by rw[List.length_replicate];omega)]
theorem C1N {a b:List Int} {N i k:Nat} (h:i+k < N):(mlP a b N i k).set (i+k) (wrap32 ((mlP a b N i k).getD (i+k) 0+a.getD i 0 * b.getD k 0))=mlP a b N i (k+1) :=
 P0 (by rw[List.length_set,V3,V3]) fun j=>by
  rw[N1 (by rw[V3];exact h)]
  by_cases hj:j < N
  · rw[A5W _ _ _ _ hj,A5W _ _ _ _ h,A5W _ _ _ _ hj]
    by_cases e:i+k=j
    · subst e;rw[if_pos rfl,if_neg (by omega),if_pos (by omega),r4,Int.add_zero,show i+k - i=k by omega]
    · rw[if_neg e]
      by_cases c:i≤j∧j < i+k
      · rw[if_pos c,if_pos (by omega)]
      · rw[if_neg c,if_neg (by omega)]
  · rw[if_neg (by omega),D7 (by rw[V3];omega),D7 (by rw[V3];omega)]
theorem C4j {a b:List Int} {N i k:Nat} (h:b.length≤k):mlP a b N i k=mlP a b N (i+1) 0:=P0 (by rw[V3,V3]) fun j=>by
 by_cases hj:j < N
 · rw[A5W _ _ _ _ hj,A5W _ _ _ _ hj];simp only[sg];rw[if_neg (c:=i+1≤j∧j < i+1+0) (by omega),Int.add_zero]
   by_cases c:i≤j
   · rw[if_pos c]
     by_cases d:j < i+k
     · rw[if_pos ⟨c,d⟩]
     · rw[if_neg (by omega),D7 (l:=b) (i:=j - i) (by omega),Int.mul_zero]
   · rw[if_neg c,if_neg (by omega)]
 · rw[D7 (by rw[V3];omega),D7 (by rw[V3];omega)]
theorem C5n {a b:List Int} {N i:Nat} (h:a.length≤i):mlP a b N i 0=t7 a b N:=P0 (by rw[V3,a9]) fun j=>by
 by_cases hj:j < N
 · rw[A5W _ _ _ _ hj,A5v,if_pos hj,if_neg (by omega),Int.add_zero]
   exact B4j (p:=a) (a:=b) (Or.inr h)
 · rw[D7 (by rw[V3];omega),D7 (by rw[a9];omega)]
def m7 (a b:List Int):List Int:=U2 (t7 a b (a.length+b.length))
theorem B7G {a b:List Int} {j:Nat} (h:a.length+b.length≤j+1):pm (cf a) (cf b) j=0:=B19 fun i hi=>by
 unfold cf
 by_cases c:i < a.length
 · rw[D7 (l:=b) (by omega),Int.mul_zero]
 · rw[D7 (l:=a) (by omega),Int.zero_mul]
theorem A6p (a b:List Int) (j:Nat):(m7 a b).getD j 0=wrap32 (pm (cf a) (cf b) j):=by
 unfold m7;rw[A0k,A5v]
 split
 · rfl
 · rw[B7G (by omega),j9]
/-! The characteristic polynomial. -/
def mF (A:List (List Int)):Nat→Nat→Int:=fun i j=>(A.getD i []).getD j 0
def chN (A:List (List Int)) (r:Nat):List Int:=(List.range (r+1)).map fun i=>wrap32 (pQ r (mF A) i)
def fsN (A:List (List Int)) (r k:Nat):List Int:=(List.range (k+2)).map fun i=>wrap32 (pS r (mF A) r r i)
def clN (A:List (List Int)) (r k:Nat):List Int:=(List.range r).map fun i=>wrap32 (pW r (mF A) (fun x=>mF A x r) i k)
theorem A0F (A:List (List Int)) (r:Nat):(chN A r).length=r+1:=by simp[chN]
theorem B8M (A:List (List Int)) (r k:Nat):(fsN A r k).length=k+2:=by simp[fsN]
theorem B99 (A:List (List Int)) (r k:Nat):(clN A r k).length=r:=by simp[clN]
theorem W0 (f:Nat→Int) {n i:Nat} (h:i < n):((List.range n).map f).getD i 0=f i:=by simp[List.getD,h]
theorem C6b (A:List (List Int)):chN A 0=[1]:=by
 show [wrap32 (pQ 0 (mF A) 0)]=[1]
 rw[show pQ 0 (mF A) 0=1 from rfl,C1m]
theorem C6j (A:List (List Int)) (r:Nat):fsN A r 0=[1,wrap32 (- (A.getD r []).getD r 0)]:=by
 have e0:pS r (mF A) r r 0=1:=by simp[pS,pa,pn,pz,pc]
 have e1:pS r (mF A) r r 1=- (A.getD r []).getD r 0:=by simp[pS,pa,pn,pz,pc,pW,pw,mF]
 show [wrap32 (pS r (mF A) r r 0),wrap32 (pS r (mF A) r r 1)]=_
 rw[e0,e1,C1m]
theorem C1j (A:List (List Int)) (r k i:Nat):n9 ((A.getD i []).take r) (clN A r k) r=wrap32 (pW r (mF A) (fun x=>mF A x r) i (k+1)):=by
 rw[r9];show _=wrap32 (sg (fun j=>mF A i j * pW r (mF A) (fun x=>mF A x r) j k) r)
 refine A00 fun j hj=>?_
 rw[A6F,if_pos hj];unfold clN;rw[W0 _ hj,i7]
 rfl
theorem C43 (A:List (List Int)) (r k:Nat):fsN A r k++[wrap32 (- n9 ((A.getD r []).take r) (clN A r k) r)]=fsN A r (k+1):=by
 have e:pS r (mF A) r r (k+2)=- pW r (mF A) (fun x=>mF A x r) r (k+1):=by simp[pS,pa,pn,pz,pc]
 have h:wrap32 (- wrap32 (pW r (mF A) (fun x=>mF A x r) r (k+1)))=wrap32 (- pW r (mF A) (fun x=>mF A x r) r (k+1)):=by
  have:=A9o 0 (pW r (mF A) (fun x=>mF A x r) r (k+1));simpa using this
 rw[C1j,h,←e];exact A0g (fun i=>wrap32 (pS r (mF A) r r i)) (k+2)
theorem C8J {A:List (List Int)} (r:Nat) (hs:∀i,i < r→D9 (A.getD i [])=true):(List.range r).map (fun i=>(A.getD i []).getD r 0)=clN A r 0:=by
 unfold clN;refine List.map_congr_left fun i hi=>?_
 have:=A5T (hs i (List.mem_range.1 hi)) r
 exact this.symm
theorem C3W (A:List (List Int)) (r k:Nat):(List.range r).map (fun i=>n9 ((A.getD i []).take r) (clN A r k) r)=clN A r (k+1):=by
 unfold clN;exact List.map_congr_left fun i hi=>C1j A r k i
theorem C2U (A:List (List Int)) (r:Nat):t7 (chN A r) (fsN A r r) (r+2)=chN A (r+1):=by
 unfold t7;show _=(List.range (r+2)).map fun i=>wrap32 (pQ (r+1) (mF A) i)
 refine List.map_congr_left fun i hi=>?_
 have hi:i < r+2:=List.mem_range.1 hi
 show wrap32 (sg _ _)=wrap32 (sg _ _)
 refine A00 fun x hx=>?_
 unfold cf;have hf:(fsN A r r).getD (i - x) 0=wrap32 (pS r (mF A) r r (i - x)):=W0 _ (by omega)
 rw[hf,i7]
 by_cases c:x < r+1
 · have hc:(chN A r).getD x 0=wrap32 (pQ r (mF A) x):=W0 _ c
   rw[hc,C32]
 · rw[D7 (by rw[A0F];omega),C2a r (mF A) (by omega)]
theorem C5a (A:List (List Int)) (r:Nat):D9 (chN A r)=true:=G4.2 fun z hz=>by
 simp only[chN,List.mem_map] at hz
 obtain⟨i,_,rfl⟩:=hz;exact A1r _
theorem C2o (A:List (List Int)) (r j:Nat):(chN A r).getD j 0=wrap32 (pQ r (mF A) j):=by
 by_cases c:j < r+1
 · exact W0 _ c
 · rw[D7 (by rw[A0F];omega),C2a r (mF A) (by omega),j9]
theorem C9J (M:Nat→Nat→Int):∀n,pQ n M 0=1:=by
 intro n
 induction n with
 | zero=>rfl
 | succ n ih=>simp only[pQ];rw[C1D,ih];simp[pS,pa,pn,pz,pc]
theorem C2J (A:List (List Int)) (r:Nat):(chN A r).getD 0 0=1:=by rw[C2o,C9J,C1m]
end Go.Proofs.YtgaogcnfijbahaaGreat
