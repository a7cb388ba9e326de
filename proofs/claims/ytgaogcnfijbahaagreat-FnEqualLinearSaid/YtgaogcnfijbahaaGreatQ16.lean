/-
  Texts of this claim, joined (part 16). No condition beyond those of the theorems.
-/
import Derived.Test.YtgaogcnfijbahaaGreatQ14
import Derived.Test.YtgaogcnfijbahaaGreatQ15
namespace Go.Proofs.YtgaogcnfijbahaaGreat
open Go.RowKit
set_option linter.unusedSimpArgs false
set_option linter.unusedVariables false
def sg (f:Nat→Int):Nat→Int
 | 0=>0
 | n+1=>sg f n+f n
theorem G5 {f g:Nat→Int}:∀{n:Nat},(∀i,i < n→f i=g i)→sg f n=sg g n:=by
 intro n
 induction n with
 | zero=>intro _;rfl
 | succ n ih=>intro h;simp only[sg];rw[ih fun i hi=>h i (by omega),h n (by omega)]
def n9 (a b:List Int):Nat→Int
 | 0=>0
 | k+1=>wrap32 (n9 a b k+a.getD k 0 * b.getD k 0)
theorem A4j (a:Int):wrap32 (wrap32 a)=wrap32 a:=by have:=r4 a 0;simpa using this
theorem r9 (a b:List Int):∀k,n9 a b k=wrap32 (sg (fun i=>a.getD i 0 * b.getD i 0) k):=by
 intro k
 induction k with
 | zero=>simp[n9,sg,j9]
 | succ k ih=>simp only[n9,sg];rw[ih,r4]
def apM (R S:List (List Int)) (x y:List Int):List Int:=(List.range R.length).map fun i=>wrap32 (n9 (R.getD i []) x (R.getD i []).length+n9 (S.getD i []) y (S.getD i []).length)
theorem A8O (R S:List (List Int)) (x y:List Int):(apM R S x y).length=R.length:=by simp[apM]
theorem B2N {R S:List (List Int)} {x y:List Int} {i:Nat} (h:i < R.length):(apM R S x y).getD i 0=wrap32 (n9 (R.getD i []) x (R.getD i []).length+n9 (S.getD i []) y (S.getD i []).length):=by
 simp[apM,List.getD,h]
section
variable {α β:Int}
theorem CB.take {a b c:List Int} (h:CB α β a b c) (n:Nat):CB α β (a.take n) (b.take n) (c.take n):=by
 refine⟨by simp[h.1],by simp[h.2.1],fun j=>?_⟩
 by_cases hj:j < n
 · have e:∀l:List Int,(l.take n).getD j 0=l.getD j 0:=fun l=>by simp[List.getD,hj]
   rw[e,e,e];exact h.2.2 j
 · have e:∀l:List Int,(l.take n).getD j 0=0:=fun l=>D7 (by rw[List.length_take];omega)
   rw[e,e,e];simp[j9]
theorem CB.append {a b c a' b' c':List Int} (h:CB α β a b c) (h':CB α β a' b' c'):CB α β (a++a') (b++b') (c++c'):=by
 refine⟨by simp[h.1,h'.1],by simp[h.2.1,h'.2.1],fun j=>?_⟩
 by_cases hj:j < c.length
 · have e:∀l l':List Int,l.length=c.length→(l++l').getD j 0=l.getD j 0:=fun l l' hl=>by rw[List.getD_eq_getElem?_getD,List.getElem?_append_left (by omega)];rfl
   rw[e _ _ h.1,e _ _ h.2.1,e _ _ rfl];exact h.2.2 j
 · have e:∀l l':List Int,l.length=c.length→(l++l').getD j 0=l'.getD (j - c.length) 0:=fun l l' hl=>by rw[List.getD_eq_getElem?_getD,List.getElem?_append_right (by omega),hl];rfl
   rw[e _ _ h.1,e _ _ h.2.1,e _ _ rfl];exact h'.2.2 _
theorem SB.flat:∀{s1 s2 s3:List (List Int)},SB α β s1 s2 s3→CB α β s1.flatten s2.flatten s3.flatten:=by
 intro s1
 induction s1 with
 | nil =>
   intro s2 s3 h
   have h3:s3=[]:=List.eq_nil_of_length_eq_zero (by simpa using h.1.symm)
   have h2:s2=[]:=List.eq_nil_of_length_eq_zero (by rw[h.2.1,h3];rfl)
   subst h3;subst h2;exact CB.nil
 | cons x s1 ih =>
   intro s2 s3 h
   cases s3 with
   | nil=>have:=h.1;simp at this
   | cons z s3 =>
     cases s2 with
     | nil=>have:=h.2.1;simp at this
     | cons y s2 =>
       simp only[List.flatten_cons];exact CB.append (h.2.2 0) (ih ⟨by simpa using h.1,by simpa using h.2.1,fun i=>h.2.2 (i+1)⟩)
theorem C4h:∀(ns:List A6) {a b c:List Int},CB α β a b c→SB α β (O6 ns a) (O6 ns b) (O6 ns c):=by
 intro ns
 induction ns with
 | nil=>intro a b c _;exact⟨rfl,rfl,fun i=>by simp only[O6,List.getD_nil];exact CB.nil⟩
 | cons n ns ih =>
   intro a b c h
   have hi:=ih (h.drop (D4 n).length)
   refine⟨by rw[w8,w8],by rw[w8,w8],fun i=>?_⟩
   cases i with
   | zero=>exact h.take _
   | succ i=>exact hi.2.2 i
theorem A6E {q:A3} (hp:A5m q) {c1 c2 c3 f1 f2 f3:List Int} (hc:CB α β c1 c2 c3) (hf:CB α β f1 f2 f3) :
 CB α β (S8 q c1 f1).1 (S8 q c2 f2).1 (S8 q c3 f3).1∧CB α β (S8 q c1 f1).2 (S8 q c2 f2).2 (S8 q c3 f3).2:=by
 have hs:=C4h q.2.2.1 hc
 have hv:=C1u hp hs hf
 exact⟨SB.flat (C2O hp hs hf hv),C2F hv⟩
end
def A89 (c:List Int) (k:Nat):List Int:=(List.range c.length).map fun j=>if j < k then c.getD j 0 else 0
theorem A24 (c:List Int) (k:Nat):(A89 c k).length=c.length:=by simp[A89]
theorem A8U (c:List Int) (k j:Nat):(A89 c k).getD j 0=if j < k then c.getD j 0 else 0:=by
 by_cases hj:j < c.length
 · simp[A89,List.getD,hj]
 · rw[D7 (by rw[A24];omega),D7 (by omega)];simp
theorem A0C (n j:Nat):(Q4 n).getD j 0=0:=by
 by_cases hj:j < n
 · simp[Q4,List.getD,hj]
 · exact D7 (by simp[Q4];omega)
theorem A8m {n i:Nat} (hi:i < n) (j:Nat):(L4 n i).getD j 0=if i=j then 1 else 0:=by
 unfold L4;rw[N1 (by rw[(W4 n).1];exact hi),A0C]
theorem B1F (c:List Int):A89 c 0=Q4 c.length:=P0 (by rw[A24,(W4 _).1]) fun j=>by rw[A8U,A0C];simp
theorem C3u (c:List Int):A89 c c.length=c:=P0 (A24 _ _) fun j=>by
 rw[A8U]
 split
 · rfl
 · rw[D7 (by omega)]
theorem A5T {c:List Int} (h:D9 c=true) (j:Nat):wrap32 (c.getD j 0)=c.getD j 0:=by
 by_cases hj:j < c.length
 · exact C0y _ (s7.1 (G4.1 h _ (D6 hj)))
 · rw[D7 (by omega)];exact j9
theorem B1R {c:List Int} (hs:D9 c=true) {k:Nat} (hk:k < c.length):CB 1 (c.getD k 0) (A89 c k) (L4 c.length k) (A89 c (k+1)):=by
 refine⟨by rw[A24,A24],by rw[A24,(M4 _ _).1],fun j=>?_⟩
 rw[A8U,A8U,A8m hk]
 by_cases h1:j < k
 · rw[if_pos (by omega),if_pos h1,if_neg (by omega)]
   simp only[Int.one_mul,Int.mul_zero,Int.add_zero];exact(A5T hs j).symm
 · by_cases h2:k=j
   · subst h2;rw[if_pos (by omega),if_neg (by omega),if_pos rfl]
     simp only[Int.mul_zero,Int.zero_add,Int.mul_one];exact(A5T hs k).symm
   · rw[if_neg (by omega),if_neg h1,if_neg h2];simp[j9]
theorem CB.zeros (n:Nat) (α β:Int):CB α β (Q4 n) (Q4 n) (Q4 n):=CB.rep n
section
variable {q:A3} (hp:A5m q)
include hp
theorem A4h (m n j:Nat):(S8 q (Q4 m) (Q4 n)).1.getD j 0=0∧(S8 q (Q4 m) (Q4 n)).2.getD j 0=0 :=
 ⟨(A6E hp (CB.zeros m 0 0) (CB.zeros n 0 0)).1.zero j,(A6E hp (CB.zeros m 0 0) (CB.zeros n 0 0)).2.zero j⟩
theorem C4d {c:List Int} (hs:D9 c=true) (n j:Nat):∀k,k≤c.length →
 (S8 q (A89 c k) (Q4 n)).1.getD j 0=wrap32 (sg (fun i=>(S8 q (L4 c.length i) (Q4 n)).1.getD j 0 * c.getD i 0) k) ∧
 (S8 q (A89 c k) (Q4 n)).2.getD j 0=wrap32 (sg (fun i=>(S8 q (L4 c.length i) (Q4 n)).2.getD j 0 * c.getD i 0) k):=by
 intro k
 induction k with
 | zero=>intro _;rw[B1F,(A4h hp _ _ _).1,(A4h hp _ _ _).2];simp[sg,j9]
 | succ k ih =>
   intro hk;obtain⟨h1,h2⟩:=ih (by omega)
   obtain⟨g1,g2⟩:=A6E hp (B1R hs (k:=k) (by omega)) (CB.zeros n 1 (c.getD k 0))
   rw[g1.2.2 j,g2.2.2 j,h1,h2];simp only[Int.one_mul,r4,sg];exact⟨by rw[Int.mul_comm (c.getD k 0)],by rw[Int.mul_comm (c.getD k 0)]⟩
theorem C59 {c:List Int} (hs:D9 c=true) (m j:Nat):∀k,k≤c.length →
 (S8 q (Q4 m) (A89 c k)).1.getD j 0=wrap32 (sg (fun i=>(S8 q (Q4 m) (L4 c.length i)).1.getD j 0 * c.getD i 0) k) ∧
 (S8 q (Q4 m) (A89 c k)).2.getD j 0=wrap32 (sg (fun i=>(S8 q (Q4 m) (L4 c.length i)).2.getD j 0 * c.getD i 0) k):=by
 intro k
 induction k with
 | zero=>intro _;rw[B1F,(A4h hp _ _ _).1,(A4h hp _ _ _).2];simp[sg,j9]
 | succ k ih =>
   intro hk;obtain⟨h1,h2⟩:=ih (by omega)
   obtain⟨g1,g2⟩:=A6E hp (CB.zeros m 1 (c.getD k 0)) (B1R hs (k:=k) (by omega))
   rw[g1.2.2 j,g2.2.2 j,h1,h2];simp only[Int.one_mul,r4,sg];exact⟨by rw[Int.mul_comm (c.getD k 0)],by rw[Int.mul_comm (c.getD k 0)]⟩
theorem B64 {c f:List Int} (hs:D9 c=true) (hf:D9 f=true) (j:Nat) :
 (S8 q c f).1.getD j 0=wrap32 (wrap32 (sg (fun i=>(S8 q (L4 c.length i) (Q4 f.length)).1.getD j 0 * c.getD i 0) c.length)+wrap32 (sg (fun i=>(S8 q (Q4 c.length) (L4 f.length i)).1.getD j 0 * f.getD i 0) f.length)) ∧
 (S8 q c f).2.getD j 0=wrap32 (wrap32 (sg (fun i=>(S8 q (L4 c.length i) (Q4 f.length)).2.getD j 0 * c.getD i 0) c.length)+wrap32 (sg (fun i=>(S8 q (Q4 c.length) (L4 f.length i)).2.getD j 0 * f.getD i 0) f.length)):=by
 have hc:CB 1 1 c (Q4 c.length) c:=⟨rfl,(W4 _).1,fun j=>by rw[A0C,Int.mul_zero,Int.add_zero,Int.one_mul,A5T hs j]⟩
 have hg:CB 1 1 (Q4 f.length) f f:=⟨(W4 _).1,rfl,fun j=>by rw[A0C,Int.mul_zero,Int.zero_add,Int.one_mul,A5T hf j]⟩
 obtain⟨g1,g2⟩:=A6E hp hc hg
 have a:=C4d hp hs f.length j c.length (Nat.le_refl _)
 have b:=C59 hp hf c.length j f.length (Nat.le_refl _)
 rw[C3u] at a b
 rw[g1.2.2 j,g2.2.2 j,a.1,a.2,b.1,b.2];simp only[Int.one_mul,and_self]
end
theorem A6C {f:Nat→List Int} {rows wd i:Nat} (h:i < rows) (x:List Int):n9 ((A1J f rows wd).getD i []) x ((A1J f rows wd).getD i []).length=wrap32 (sg (fun j=>(f j).getD i 0 * x.getD j 0) wd):=by
 rw[r9,B8O h];simp only[List.length_map,List.length_range]
 congr 1
 exact G5 fun j hj=>by simp[List.getD,hj]
theorem C3B {q:A3} (hF:C0 q=true) (hp:A5m q) {c f:List Int} (hc:c.length=B7 q.2.2.1) (hs:D9 c=true) (hl:(f.length:Int)=q.1) (hf:D9 f=true) :
 (S8 q c f).1=apM (F6 q).2.1 (F6 q).2.2.1 c f∧(S8 q c f).2=apM (F6 q).2.2.2.1 (F6 q).2.2.2.2 c f:=by
 obtain⟨l1,l2⟩:=x4 hF hc hs hf
 have hq:q.1.toNat=f.length:=by omega
 constructor
 · refine P0 (by rw[l1,A8O];simp[F6,A1J]) fun j=>?_
   by_cases hj:j < B7 q.2.2.1
   · rw[(B64 hp hs hf j).1,B2N (by simp[F6,A1J,hj])]
     simp only[F6];rw[A6C hj,A6C hj];simp only[stC,inC,hq,hc]
   · rw[D7 (by omega),D7 (by rw[A8O];simp[F6,A1J];omega)]
 · refine P0 (by rw[l2,A8O];simp[F6,A1J]) fun j=>?_
   by_cases hj:j < q.2.2.2.length
   · rw[(B64 hp hs hf j).2,B2N (by simp[F6,A1J,hj])]
     simp only[F6];rw[A6C hj,A6C hj];simp only[stC,inC,hq,hc]
   · rw[D7 (by omega),D7 (by rw[A8O];simp[F6,A1J];omega)]
theorem B3o (n:Nat):sg (fun _=>0) n=0:=by
 induction n with
 | zero=>rfl
 | succ n ih=>simp[sg,ih]
theorem B19 {f:Nat→Int} {n:Nat} (h:∀i,i < n→f i=0):sg f n=0:=(G5 h).trans (B3o n)
theorem B6m (f g:Nat→Int) (n:Nat):sg (fun i=>f i+g i) n=sg f n+sg g n:=by
 induction n with
 | zero=>rfl
 | succ n ih=>simp only[sg,ih];omega
theorem A16 (a:Int) (f:Nat→Int) (n:Nat):sg (fun i=>a * f i) n=a * sg f n:=by
 induction n with
 | zero=>simp[sg]
 | succ n ih=>simp only[sg,ih,Int.mul_add]
theorem C56 (a:Int) (f:Nat→Int) (n:Nat):sg (fun i=>f i * a) n=sg f n * a:=by
 induction n with
 | zero=>simp[sg]
 | succ n ih=>simp only[sg,ih,Int.add_mul]
theorem A4i (F:Nat→Nat→Int) (m:Nat):∀n,sg (fun i=>sg (fun j=>F i j) m) n=sg (fun j=>sg (fun i=>F i j) n) m:=by
 intro n
 induction n with
 | zero=>simp only[sg];exact(B3o m).symm
 | succ n ih=>simp only[sg];rw[ih,←B6m]
theorem B3y (f:Nat→Int):∀n,sg f (n+1)=f 0+sg (fun i=>f (i+1)) n:=by
 intro n
 induction n with
 | zero=>simp[sg]
 | succ n ih=>rw[sg,ih];simp only[sg];omega
theorem C78 (f:Nat→Int):∀n,sg (fun i=>f (n - i)) (n+1)=sg f (n+1):=by
 intro n
 induction n generalizing f with
 | zero=>rfl
 | succ n ih =>
   rw[B3y,show sg f (n+1+1)=sg f (n+1)+f (n+1) from rfl,←ih f]
   simp only[Nat.sub_zero,Nat.add_sub_add_right];omega
theorem B97 (f:Nat→Int) {j:Nat}:∀{n:Nat},j < n→sg (fun i=>f i * (if j=i then 1 else 0)) n=f j:=by
 intro n
 induction n with
 | zero=>intro h;omega
 | succ n ih =>
   intro h;simp only[sg]
   by_cases e:j=n
   · subst e;rw[B19 fun i hi=>by rw[if_neg (by omega)];simp]
     simp
   · rw[ih (by omega),if_neg e];simp
/-! Power series. -/
abbrev PS:=Nat→Int
def pm (f g:PS):PS:=fun n=>sg (fun i=>f i * g (n - i)) (n+1)
def pa (f g:PS):PS:=fun n=>f n+g n
def pn (f:PS):PS:=fun n=>- f n
def pz (f:PS):PS
 | 0=>0
 | n+1=>f n
def pc (a:Int):PS:=fun n=>if n=0 then a else 0
def ptl (f:PS):PS:=fun n=>f (n+1)
theorem C1D (f g:PS):pm f g 0=f 0 * g 0:=by simp[pm,sg]
theorem B7g (f g:PS) (n:Nat):pm f g (n+1)=f 0 * g (n+1)+pm (ptl f) g n:=by
 unfold pm;rw[B3y];simp only[Nat.sub_zero,Nat.add_sub_add_right]
 rfl
theorem O1 (f g:PS):pm f g=pm g f:=funext fun n=>by
 unfold pm;rw[←C78];exact G5 fun i hi=>by rw[Int.mul_comm,show n - (n - i)=i by omega]
theorem B3Z (f g h:PS):pm f (pa g h)=pa (pm f g) (pm f h):=funext fun n=>by
 simp only[pm,pa,Int.mul_add];exact B6m _ _ _
theorem B9B (f g h:PS):pm (pa f g) h=pa (pm f h) (pm g h):=by rw[O1,B3Z,O1 h f,O1 h g]
theorem B7S (f g:PS):pm f (pn g)=pn (pm f g):=funext fun n=>by
 simp only[pm,pn];rw[G5 (g:=fun i=>(-1) * (f i * g (n - i))) fun i _=>by rw[Int.mul_neg];omega,A16]
 omega
theorem B9D (f g:PS):pm (pn f) g=pn (pm f g):=by rw[O1,B7S,O1]
theorem C3V (f g:PS):pm f (pz g)=pz (pm f g):=by
 rw[O1]
 funext n
 cases n with
 | zero=>simp[C1D,pz]
 | succ n=>rw[B7g];simp only[pz,Int.zero_mul,Int.zero_add];rw[O1 f g];rfl
theorem C6m (f g:PS):pm (pz f) g=pz (pm f g):=by rw[O1,C3V,O1]
theorem B3C (f:PS):pm f (pc 1)=f:=funext fun n=>by
 unfold pm;simp only[sg];rw[B19 fun i hi=>by unfold pc;rw[if_neg (by omega)];simp]
 simp[pc]
theorem B6n (F:Nat→PS) (a:Nat→Int) (g:PS) (k:Nat) (n:Nat):pm (fun m=>sg (fun i=>a i * F i m) n) g k=sg (fun i=>a i * pm (F i) g k) n:=by
 unfold pm
 rw[G5 (g:=fun i=>sg (fun j=>a j * (F j i * g (k - i))) n) fun i _=>by
  rw[←C56];exact G5 fun j _=>Int.mul_assoc _ _ _]
 rw[A4i];exact G5 fun j _=>A16 _ _ _
theorem B8V (F:Nat→PS) (a:Nat→Int) (g:PS) (k:Nat) (n:Nat):pm g (fun m=>sg (fun i=>a i * F i m) n) k=sg (fun i=>a i * pm g (F i) k) n:=by
 rw[O1,B6n];exact G5 fun j _=>by rw[O1]
theorem C4P (a:Int) (f g:PS) (k:Nat):pm (fun m=>a * f m) g k=a * pm f g k:=by
 unfold pm;rw[←A16];exact G5 fun i _=>Int.mul_assoc _ _ _
theorem Z5 (f g h:PS):pm (pm f g) h=pm f (pm g h):=by
 have key:∀n (f:PS),pm (pm f g) h n=pm f (pm g h) n:=by
  intro n
  induction n with
  | zero=>intro f;simp only[C1D];exact Int.mul_assoc _ _ _
  | succ n ih =>
    intro f;rw[B7g,B7g];have e:ptl (pm f g)=pa (fun m=>f 0 * ptl g m) (pm (ptl f) g):=funext fun m=>by simp only[ptl,pa];rw[B7g]
    rw[e,B9B];simp only[pa];rw[C4P,ih,C1D,B7g g h,Int.mul_add,Int.mul_assoc];omega
 exact funext fun n=>key n f
theorem B9G (f g h:PS):pm f (pm g h)=pm g (pm f h):=by rw[←Z5,O1 f g,Z5]
theorem C6t (f:PS):pz (pn f)=pn (pz f):=funext fun n=>by cases n<;>simp[pz,pn]
theorem C7r (f g:PS):pz (pa f g)=pa (pz f) (pz g):=funext fun n=>by cases n<;>simp[pz,pa]
/-! Powers of a matrix applied to a vector: only the first n numbers count. -/
def pw (n:Nat) (M:Nat→Nat→Int) (v:Nat→Int):Nat→Nat→Int
 | 0=>v
 | k+1=>fun i=>sg (fun j=>M i j * pw n M v k j) n
def pW (n:Nat) (M:Nat→Nat→Int) (v:Nat→Int) (i:Nat):PS:=fun k=>pw n M v k i
theorem C8Q (n:Nat) (M:Nat→Nat→Int) (v:Nat→Int) (i:Nat):ptl (pW n M v i)=fun k=>sg (fun j=>M i j * pW n M v j k) n:=rfl
theorem B2Q (n:Nat) (M:Nat→Nat→Int) (v:Nat→Int) (j:Nat):pW (n+1) M v j=pa (pW n M v j) (pz (pm (pW n M (fun x=>M x n) j) (pW (n+1) M v n))):=by
 have key:∀k j,pW (n+1) M v j k=pW n M v j k+pz (pm (pW n M (fun x=>M x n) j) (pW (n+1) M v n)) k:=by
  intro k
  induction k with
  | zero=>intro j;simp[pW,pw,pz]
  | succ k ih =>
    intro j;have e1:pW (n+1) M v j (k+1)=sg (fun i=>M j i * pW (n+1) M v i k) n+M j n * pW (n+1) M v n k:=rfl
    have e2:pW n M v j (k+1)=sg (fun i=>M j i * pW n M v i k) n:=rfl
    rw[e1,e2,G5 (g:=fun i=>M j i * pW n M v i k+M j i * pz (pm (pW n M (fun x=>M x n) i) (pW (n+1) M v n)) k) fun i _=>by rw[ih i,Int.mul_add],B6m]
    have e3:pz (pm (pW n M (fun x=>M x n) j) (pW (n+1) M v n)) (k+1)=pm (pW n M (fun x=>M x n) j) (pW (n+1) M v n) k:=rfl
    rw[e3];cases k with
    | zero=>simp only[pz,Int.mul_zero,B3o,C1D];simp[pW,pw]
    | succ k =>
      rw[B7g,C8Q,B6n];have e4:pW n M (fun x=>M x n) j 0=M j n:=rfl
      rw[e4];simp only[pz];omega
 exact funext fun k=>key k j
def pS (n:Nat) (M:Nat→Nat→Int) (i j:Nat):PS:=pa (pc (if i=j then 1 else 0)) (pn (pz (pW n M (fun x=>M x j) i)))
def pQ:Nat→(Nat→Nat→Int)→PS
 | 0,_=>pc 1
 | n+1,M=>pm (pQ n M) (pS n M n n)
theorem B9A (f:PS):pa (pc 0) f=f:=funext fun n=>by simp[pa,pc]
theorem C8H (n:Nat) (M:Nat→Nat→Int) (v:Nat→Int):pm (pS n M n n) (pW (n+1) M v n)=pW n M v n:=by
 unfold pS;rw[if_pos rfl,B9B,O1 (pc 1),B3C,B9D,C6m]
 have h:=B2Q n M v n
 funext k
 have hk:=congrFun h k
 simp only[pa,pn] at *
 omega
theorem C2z (n:Nat) (M:Nat→Nat→Int):pm (pS n M n n) (pS (n+1) M (n+1) (n+1))=pa (pm (pS n M n n) (pS n M (n+1) (n+1))) (pn (pm (pS n M (n+1) n) (pS n M n (n+1)))):=by
 have h1:pS (n+1) M (n+1) (n+1)=pa (pS n M (n+1) (n+1)) (pz (pm (pS n M (n+1) n) (pW (n+1) M (fun x=>M x (n+1)) n))):=by
  have e:pS n M (n+1) n=pn (pz (pW n M (fun x=>M x n) (n+1))):=by unfold pS;rw[if_neg (by omega),B9A]
  rw[e,B9D,C6m];unfold pS;rw[B2Q n M (fun x=>M x (n+1)) (n+1),C7r,C6t]
  funext k
  simp only[pa,pn];omega
 have h2:pS n M n (n+1)=pn (pz (pm (pS n M n n) (pW (n+1) M (fun x=>M x (n+1)) n))):=by
  rw[C8H];unfold pS;rw[if_neg (by omega),B9A]
 rw[h1,h2,B3Z,C3V,B9G,B7S,C3V]
 funext k
 simp only[pa,pn];omega
/-! Numbers i and i + 1 exchanged. -/
def tau (i x:Nat):Nat:=if x=i then i+1 else if x=i+1 then i else x
theorem B3P (i x:Nat):tau i (tau i x)=x:=by unfold tau;(repeat' split)<;>omega
theorem C4U {i x y:Nat}:(tau i x=tau i y)↔x=y:=⟨fun h=>by rw[←B3P i x,h,B3P],fun h=>by rw[h]⟩
theorem B7Y {i x:Nat} (h:x < i):tau i x=x:=by unfold tau;rw[if_neg (by omega),if_neg (by omega)]
theorem C3S {i x:Nat} (h:i+2≤x):tau i x=x:=by unfold tau;rw[if_neg (by omega),if_neg (by omega)]
theorem C6h (i:Nat):tau i i=i+1:=by unfold tau;rw[if_pos rfl]
theorem C6U (i:Nat):tau i (i+1)=i:=by unfold tau;rw[if_neg (by omega),if_pos rfl]
theorem C7F {i x n:Nat} (h:i+2≤n) (hx:x < n):tau i x < n:=by unfold tau;(repeat' split)<;>omega
theorem C7L {i n:Nat} (h:n≤i∨i+2≤n) (f:Nat→Int):sg (fun x=>f (tau i x)) n=sg f n:=by
 rcases h with h|h
 · exact G5 fun x hx=>by rw[B7Y (by omega)]
 · induction n with
   | zero=>omega
   | succ n ih =>
     by_cases e:i+2≤n
     · simp only[sg];rw[ih e,C3S e]
     · have:n=i+1:=by omega
       subst this;simp only[sg];rw[C6h,C6U,G5 (g:=f) fun x hx=>by rw[B7Y hx]]
       omega
def tM (i:Nat) (M:Nat→Nat→Int):Nat→Nat→Int:=fun x y=>M (tau i x) (tau i y)
theorem C2x {i n:Nat} (h:n≤i∨i+2≤n) (M:Nat→Nat→Int) (v:Nat→Int):∀k x,pw n (tM i M) (fun y=>v (tau i y)) k x=pw n M v k (tau i x):=by
 intro k
 induction k with
 | zero=>intro x;rfl
 | succ k ih =>
   intro x;show sg (fun j=>M (tau i x) (tau i j) * pw n (tM i M) (fun y=>v (tau i y)) k j) n=sg (fun j=>M (tau i x) j * pw n M v k j) n
   refine Eq.trans ?_ (C7L h (fun j=>M (tau i x) j * pw n M v k j))
   exact G5 fun j _=>by rw[ih]
theorem B7v {i n:Nat} (h:n≤i∨i+2≤n) (M:Nat→Nat→Int) (x y:Nat):pS n (tM i M) x y=pS n M (tau i x) (tau i y):=by
 unfold pS;have e:pW n (tM i M) (fun z=>tM i M z y) x=pW n M (fun z=>M z (tau i y)) (tau i x):=funext fun k=>C2x h M (fun z=>M z (tau i y)) k x
 rw[e]
 by_cases c:x=y
 · rw[if_pos c,if_pos (by rw[c])]
 · rw[if_neg c,if_neg (fun h=>c (C4U.1 h))]
theorem C7S (i:Nat) (M:Nat→Nat→Int):∀n,n≤i∨i+2≤n→pQ n (tM i M)=pQ n M:=by
 have lo:∀n,n≤i→pQ n (tM i M)=pQ n M:=by
  intro n
  induction n with
  | zero=>intro _;rfl
  | succ n ih=>intro h;simp only[pQ];rw[ih (by omega),B7v (Or.inl (by omega)),B7Y (by omega)]
 intro n
 induction n with
 | zero=>intro _;rfl
 | succ n ih =>
   intro h
   by_cases c:n+1≤i
   · exact lo _ c
   · by_cases e:n=i+1
     · subst e;simp only[pQ];rw[Z5,Z5,C2z,C2z,lo i (Nat.le_refl _)]
       simp only[B7v (Or.inl (Nat.le_refl _)),C6h,C6U];rw[O1 (pS i M (i+1) (i+1)),O1 (pS i M i (i+1))]
     · have h2:i+2≤n:=by omega
       simp only[pQ];rw[ih (Or.inr h2),B7v (Or.inr h2),C3S h2]
/-! The theorem. -/
def eV (i:Nat):Nat→Int:=fun x=>if x=i then 1 else 0
theorem C6S (n:Nat) (M:Nat→Nat→Int):∀k x,x < n→pw n M (eV n) k x=0:=by
 intro k
 induction k with
 | zero=>intro x h;simp only[pw,eV];rw[if_neg (by omega)]
 | succ k ih=>intro x _;exact B19 fun j hj=>by rw[ih j hj];simp
theorem C9M (n:Nat) (M:Nat→Nat→Int):pW n M (eV n) n=pc 1:=funext fun k=>by
 cases k with
 | zero=>simp[pW,pw,eV,pc]
 | succ k=>exact B19 fun j hj=>by rw[C6S n M k j hj];simp
theorem C7V (n:Nat) (M:Nat→Nat→Int) (v:Nat→Int):∀k j,j < n→pW n M v j k=sg (fun i=>v i * pW n M (eV i) j k) n:=by
 intro k
 induction k with
 | zero=>intro j hj;exact(B97 v hj).symm
 | succ k ih =>
   intro j _
   show sg (fun x=>M j x * pW n M v x k) n=sg (fun i=>v i * sg (fun x=>M j x * pW n M (eV i) x k) n) n
   rw[G5 (g:=fun x=>sg (fun i=>v i * (M j x * pW n M (eV i) x k)) n) fun x hx=>by
    rw[ih x hx,←A16];exact G5 fun i _=>by rw[←Int.mul_assoc,←Int.mul_assoc,Int.mul_comm (M j x)]]
   rw[A4i];exact G5 fun i _=>A16 _ _ _
theorem B72 {n:Nat} {M:Nat→Nat→Int} (h:∀i j k,i < n→j < n→n≤k→pm (pQ n M) (pW n M (eV i) j) k=0) (v:Nat→Int) {j k:Nat} (hj:j < n) (hk:n≤k):pm (pQ n M) (pW n M v j) k=0:=by
 have e:pW n M v j=fun m=>sg (fun i=>v i * pW n M (eV i) j m) n:=funext fun m=>C7V n M v m j hj
 rw[e,B8V];exact B19 fun i hi=>by rw[h i j k hi hj hk];simp
theorem C7e {n:Nat} {M:Nat→Nat→Int} (hq:∀k,n < k→pQ n M k=0) (h:∀i j k,i < n→j < n→n≤k→pm (pQ n M) (pW n M (eV i) j) k=0) (v:Nat→Int) (j:Nat) {k:Nat} (hk:n < k):pm (pQ n M) (pW n M v j) k=0:=by
 obtain⟨k,rfl⟩:∃m,k=m+1:=⟨k - 1,by omega⟩
 rw[O1,B7g,hq (k+1) hk,C8Q,B6n,B19 fun i hi=>by rw[O1,B72 h v hi (by omega)];simp]
 simp
theorem C35 (n:Nat):(∀M k,n < k→pQ n M k=0)∧(∀M i j k,i < n→j < n→n≤k→pm (pQ n M) (pW n M (eV i) j) k=0):=by
 induction n with
 | zero=>exact⟨fun M k h=>by simp only[pQ,pc];rw[if_neg (by omega)],fun M i j k h=>by omega⟩
 | succ n ih =>
   obtain⟨ih1,ih2⟩:=ih;refine⟨fun M k hk=>?_,?_⟩
   · obtain⟨k,rfl⟩:∃m,k=m+1:=⟨k - 1,by omega⟩
     simp only[pQ];unfold pS;rw[if_pos rfl,B3Z,B3C,B7S,C3V];simp only[pa,pn,pz];rw[ih1 M (k+1) (by omega),C7e (ih1 M) (ih2 M) _ _ (by omega)]
     rfl
   · have last:∀M j k,j < n+1→n+1≤k→pm (pQ (n+1) M) (pW (n+1) M (eV n) j) k=0:=by
      intro M j k hj hk
      have ht:pm (pS n M n n) (pW (n+1) M (eV n) n)=pc 1:=by rw[C8H,C9M]
      by_cases c:j=n
      · subst c;simp only[pQ];rw[Z5,ht,B3C];exact ih1 M k (by omega)
      · have e:pW n M (eV n) j=fun _=>0:=funext fun m=>C6S n M m j (by omega)
        have hz:pm (pm (pQ n M) (pS n M n n)) (fun _=>0)=fun _=>0:=funext fun k=>B19 fun i _=>by simp
        have hl:pm (pm (pQ n M) (pS n M n n)) (pm (pW n M (fun x=>M x n) j) (pW (n+1) M (eV n) n))=pm (pQ n M) (pW n M (fun x=>M x n) j):=by
         rw[Z5,B9G (pS n M n n),ht,B3C]
        rw[B2Q,e,B3Z];simp only[pQ,pa];rw[hz,C3V,hl];obtain⟨k,rfl⟩:∃m,k=m+1:=⟨k - 1,by omega⟩
        simp only[pz];rw[B72 (ih2 M) _ (by omega) (by omega)]
        rfl
     have all : ∀ d M i j k, i + d = n → j < n + 1 → n + 1 ≤ k → pm (pQ (n + 1) M) (pW (n + 1) M (eV i) j) k = 0 := by
      intro d
      induction d with
      | zero => intro M i j k hi; obtain rfl : i = n := by omega
                exact last M j k
      | succ d ihd =>
        intro M i j k hi hj hk
        have h:=ihd (tM i M) (i+1) (tau i j) k (by omega) (C7F (by omega) hj) hk
        rw[C7S i M (n+1) (Or.inr (by omega))] at h
        have e:pW (n+1) (tM i M) (eV (i+1)) (tau i j)=pW (n+1) M (eV i) j:=funext fun m=>by
         have hv:eV (i+1)=fun y=>eV i (tau i y):=funext fun y=>by
          unfold eV tau
          by_cases c1:y=i
          · rw[if_pos c1,if_neg (by omega),if_neg (by omega)]
          · by_cases c2:y=i+1
            · rw[if_neg c1,if_pos c2,if_pos c2,if_pos rfl]
            · rw[if_neg c1,if_neg c2,if_neg c2,if_neg c1]
         show pw (n+1) (tM i M) (eV (i+1)) m (tau i j)=pw (n+1) M (eV i) m j
         rw[hv,C2x (Or.inr (by omega)),B3P]
        rwa [e] at h
     exact fun M i j k hi hj hk=>all (n - i) M i j k (by omega) hj hk
theorem C2a (n:Nat) (M:Nat→Nat→Int) {k:Nat} (h:n < k):pQ n M k=0:=(C35 n).1 M k h
theorem ch (n:Nat) (M:Nat→Nat→Int) (v:Nat→Int) {j k:Nat} (hj:j < n) (hk:n≤k):pm (pQ n M) (pW n M v j) k=0:=B72 ((C35 n).2 M) v hj hk
end Go.Proofs.YtgaogcnfijbahaaGreat
