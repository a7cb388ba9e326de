/-
  Texts of this claim, joined (part 15). No condition beyond those of the theorems.
-/
import Derived.Test.YtgaogcnfijbahaaGreatQ14
import Derived.Test.YtgaogcnfijbahaaGreatQ13
set_option linter.unusedSimpArgs false
set_option linter.unusedVariables false
namespace Go.Proofs.YtgaogcnfijbahaaGreat
open Go.RowKit
def bfs (ns:List A6):Nat→List Bool→List Int→List Bool
 | 0,m,_=>m
 | f + 1, m, t => match t with
   | []=>m
   | i :: t => match m.getD i.toNat true with
     | true=>bfs ns f m t
     | false=>bfs ns f (m.set i.toNat true) (t++(ns.getD i.toNat n0).2.2.2)
def bmu (m:List Bool) (t:List Int):Nat:=4 * m.count false+t.length
def H7 (p:A3):List Bool:=bfs p.2.2.1 (4 * p.2.2.1.length+p.2.2.2.length) (List.replicate p.2.2.1.length false) p.2.2.2
theorem C4e {ns:List A6} {f:Nat} {m:List Bool}:bfs ns f m []=m:=by cases f<;>rfl
theorem o6 {m:List Bool} {i:Nat} (hi:i < m.length) (h:m.getD i true=false):(m.set i true).count false+1=m.count false:=by
 induction m generalizing i with
 | nil=>simp at hi
 | cons x l ih =>
   cases i with
   | zero =>
     have:x=false:=by simpa using h
     subst this;simp
   | succ i =>
     have:=ih (i:=i) (by simpa using hi) (by simpa using h)
     simp only[List.set_cons_succ,List.count_cons];omega
theorem B59 {m:List Bool} {i:Nat} (hi:i < m.length) (d e:Bool):m.getD i d=m.getD i e:=by simp[List.getD,hi]
theorem C0L {m:List Bool} {i j:Nat} (hi:i < m.length):(m.set i true).getD j false=if i=j then true else m.getD j false:=N1 hi
def C6T (ns:List A6):Prop:=∀i,i < ns.length→(ns.getD i n0).2.2.2.length≤3∧N9 ns.length (ns.getD i n0).2.2.2=true
theorem d8 {p:A3} (hF:C0 p=true):C6T p.2.2.1:=fun i hi=>by
 have h:=(B1D hF).2 _ (D6 (d:=n0) hi)
 exact⟨h.2.1,h.2.2.1⟩
theorem A9t {n:Nat} {a b:List Int} (h:N9 n a=true) (k:N9 n b=true):N9 n (a++b)=true:=by
 unfold N9 at *;rw[List.all_append,h,k];rfl
theorem B1T {n:Nat} {x:Int} {l:List Int} (h:N9 n (x::l)=true):(0≤x∧x < n)∧N9 n l=true:=by
 have h1:=U5 h List.mem_cons_self
 refine⟨by omega,?_⟩
 unfold N9 at *;simp only[List.all_cons,Bool.and_eq_true] at h;exact h.2
structure BfsOk (ns:List A6) (m:List Bool) (t:List Int) (M:List Bool):Prop where
 len:M.length=ns.length
 up:∀i,m.getD i false=true→M.getD i false=true
 todo:∀x∈t,M.getD x.toNat false=true
 closed:(∀i,i < ns.length→m.getD i false=true→∀x∈(ns.getD i n0).2.2.2,m.getD x.toNat false=true∨x∈t)→∀i,i < ns.length→M.getD i false=true→∀x∈(ns.getD i n0).2.2.2,M.getD x.toNat false=true
 least:∀S:Nat→Prop,(∀i,i < ns.length→S i→∀x∈(ns.getD i n0).2.2.2,S x.toNat)→(∀i,m.getD i false=true→S i)→(∀x∈t,S x.toNat)→∀i,M.getD i false=true→S i
theorem C7T {ns:List A6} (hfr:C6T ns):∀(f:Nat) (m:List Bool) (t:List Int),m.length=ns.length→N9 ns.length t=true→bmu m t≤f→BfsOk ns m t (bfs ns f m t):=by
 intro f
 induction f with
 | zero =>
   intro m t hm ht hb
   have ht0:t=[]:=by unfold bmu at hb;exact List.eq_nil_of_length_eq_zero (by omega)
   subst ht0;exact⟨hm,fun i h=>h,(fun x hx=>by cases hx),fun h i hi hM x hx=>(h i hi hM x hx).resolve_right (by simp),fun S _ h _ i hi=>h i hi⟩
 | succ f ih =>
   intro m t hm ht hb
   cases t with
   | nil=>exact⟨hm,fun i h=>h,(fun x hx=>by cases hx),fun h i hi hM x hx=>(h i hi hM x hx).resolve_right (by simp),fun S _ h _ i hi=>h i hi⟩
   | cons a t =>
     obtain⟨⟨ha0,ha1⟩,ht⟩:=B1T ht
     have hal:a.toNat < m.length:=by omega
     have han:a.toNat < ns.length:=by omega
     unfold bfs;simp only
     cases hma:m.getD a.toNat true with
     | true =>
       simp only
       have hma':m.getD a.toNat false=true:=by rw[B59 hal false true];exact hma
       have k:=ih m t hm ht (by unfold bmu at *;simp only[List.length_cons] at hb;omega)
       refine⟨k.len,k.up,fun x hx=>?_,fun h=>k.closed fun i hi hM x hx=>?_,fun S h1 h2 h3=>k.least S h1 h2 fun x hx=>h3 x (List.mem_cons_of_mem _ hx)⟩
       · rcases List.mem_cons.1 hx with rfl|hx
         · exact k.up _ hma'
         · exact k.todo x hx
       · rcases h i hi hM x hx with h|h
         · exact .inl h
         · rcases List.mem_cons.1 h with rfl|h
           · exact .inl hma'
           · exact .inr h
     | false =>
       simp only
       obtain⟨f1,f2⟩:=hfr a.toNat han
       have hc:=o6 hal hma
       have k:=ih (m.set a.toNat true) (t++(ns.getD a.toNat n0).2.2.2) (by simpa using hm) (A9t ht f2) (by unfold bmu at *;simp only[List.length_cons,List.length_append] at *;omega)
       refine⟨k.len,fun i hi=>k.up i ?_,fun x hx=>?_,fun h=>k.closed fun i hi hM x hx=>?_,fun S h1 h2 h3=>k.least S h1 (fun i hi=>?_) fun x hx=>?_⟩
       · rw[C0L hal];split
         · rfl
         · exact hi
       · rcases List.mem_cons.1 hx with rfl|hx
         · exact k.up _ (by rw[C0L hal,if_pos rfl])
         · exact k.todo x (List.mem_append_left _ hx)
       · rw[C0L hal] at hM
         by_cases e:a.toNat=i
         · subst e;exact .inr (List.mem_append_right _ hx)
         · rw[if_neg e] at hM;rcases h i hi hM x hx with h|h
           · left;rw[C0L hal];split
             · rfl
             · exact h
           · rcases List.mem_cons.1 h with rfl|h
             · left;rw[C0L hal,if_pos rfl]
             · exact .inr (List.mem_append_left _ h)
       · rw[C0L hal] at hi
         by_cases e:a.toNat=i
         · rw[←e];exact h3 a List.mem_cons_self
         · rw[if_neg e] at hi;exact h2 i hi
       · rcases List.mem_append.1 hx with hx|hx
         · exact h3 x (List.mem_cons_of_mem _ hx)
         · exact h1 a.toNat han (h3 a List.mem_cons_self) x hx
theorem B8x (n i:Nat):(List.replicate n false).getD i false=false:=by
 by_cases h:i < n
 · simp[List.getD,h]
 · rw[List.getD_eq_getElem?_getD,List.getElem?_eq_none (by simp;omega)];rfl
section
variable {p:A3}
theorem A64 (hF:C0 p=true):BfsOk p.2.2.1 (List.replicate p.2.2.1.length false) p.2.2.2 (H7 p) :=
 C7T (d8 hF) _ _ _ (by simp) (A8 hF).2.2.2.2.2.1 (by simp[bmu])
theorem B1L (hF:C0 p=true):(H7 p).length=p.2.2.1.length:=(A64 hF).len
theorem A2C (hF:C0 p=true) {x:Int} (hx:x∈p.2.2.2):(H7 p).getD x.toNat false=true:=(A64 hF).todo x hx
theorem A0j (hF:C0 p=true) {i:Nat} (hi:i < p.2.2.1.length) (h:(H7 p).getD i false=true) {x:Int} (hx:x∈(p.2.2.1.getD i n0).2.2.2):(H7 p).getD x.toNat false=true :=
 (A64 hF).closed (fun i _ h=>by rw[B8x] at h;cases h) i hi h x hx
theorem A7x (hF:C0 p=true) (S:Nat→Prop) (h1:∀i,i < p.2.2.1.length→S i→∀x∈(p.2.2.1.getD i n0).2.2.2,S x.toNat) (h2:∀x∈p.2.2.2,S x.toNat):∀i,(H7 p).getD i false=true→S i :=
 (A64 hF).least S h1 (fun i h=>by rw[B8x] at h;cases h) h2
end
def A1N (M:List Bool) (k:Nat):List Int:=((List.range k).filter fun i=>M.getD i false).map fun (i:Nat)=>(i:Int)
theorem C5D {M:List Bool} {k:Nat} (h:M.getD k false=true):A1N M (k+1)=A1N M k++[(k:Int)]:=by simp[A1N,List.range_succ,List.filter_append,h,-List.getD_eq_getElem?_getD]
theorem C55 {M:List Bool} {k:Nat} (h:M.getD k false=false):A1N M (k+1)=A1N M k:=by simp[A1N,List.range_succ,List.filter_append,h,-List.getD_eq_getElem?_getD]
theorem C0E {M:List Bool} {k:Nat} {x:Int}:x∈A1N M k↔∃i:Nat,i < k∧M.getD i false=true∧x=(i:Int):=by
 simp only[A1N,List.mem_map,List.mem_filter,List.mem_range]
 constructor
 · rintro⟨i,⟨h1,h2⟩,rfl⟩;exact⟨i,h1,h2,rfl⟩
 · rintro⟨i,h1,h2,rfl⟩;exact⟨i,⟨h1,h2⟩,rfl⟩
theorem A2K (M:List Bool):∀k,(A1N M k).length≤k:=by
 intro k;have:=List.length_filter_le (fun i=>M.getD i false) (List.range k)
 simpa [A1N] using this
theorem A6k (M:List Bool) (k:Nat):(A1N M k).Pairwise (· < ·):=by
 refine List.Pairwise.map _ (fun a b (h:a < b)=>by omega) (List.Pairwise.filter _ List.pairwise_lt_range)
theorem B6r:∀{a b:List Int},a.Pairwise (· < ·)→b.Pairwise (· < ·)→(∀x,x∈a↔x∈b)→a=b:=by
 intro a
 induction a with
 | nil =>
   intro b _ _ h
   cases b with
   | nil=>rfl
   | cons y l=>have:=(h y).2 List.mem_cons_self;cases this
 | cons x a ih =>
   intro b ha hb h
   cases b with
   | nil=>have:=(h x).1 List.mem_cons_self;cases this
   | cons y b =>
     obtain⟨ha1,ha2⟩:=List.pairwise_cons.1 ha
     obtain⟨hb1,hb2⟩:=List.pairwise_cons.1 hb
     have e:x=y:=by
      rcases List.mem_cons.1 ((h x).1 List.mem_cons_self) with e|e
      · exact e
      · rcases List.mem_cons.1 ((h y).2 List.mem_cons_self) with e2|e2
        · exact e2.symm
        · have:=hb1 x e;have:=ha1 y e2;omega
     subst e;rw[ih ha2 hb2 fun z=>⟨fun hz=>?_,fun hz=>?_⟩]
     · rcases List.mem_cons.1 ((h z).1 (List.mem_cons_of_mem _ hz)) with e|e
       · have:=ha1 z hz;omega
       · exact e
     · rcases List.mem_cons.1 ((h z).2 (List.mem_cons_of_mem _ hz)) with e|e
       · have:=hb1 z hz;omega
       · exact e
def G3 (p:A3):List Int:=A1N (H7 p) p.2.2.1.length
def D0 (p:A3):A3:=A4v p (G3 p)
section
variable {p:A3} (hF:C0 p=true)
theorem A12 {x:Int}:x∈G3 p↔∃i:Nat,i < p.2.2.1.length∧(H7 p).getD i false=true∧x=(i:Int):=C0E
theorem A1F:∀j,j < (G3 p).length→0≤(G3 p).getD j 0∧(G3 p).getD j 0 < p.2.2.1.length:=fun j hj=>by
 obtain⟨i,h1,_,h3⟩:=A12.1 (D6 (d:=(0:Int)) hj)
 omega
theorem B6A:∀i j,i < (G3 p).length→j < (G3 p).length→(G3 p).getD i 0=(G3 p).getD j 0→i=j:=fun i j hi hj e=>by
 have hs:=List.pairwise_iff_getElem.1 (A6k (H7 p) p.2.2.1.length)
 have ei:(G3 p).getD i 0=(G3 p)[i]:=by simp[List.getD,hi]
 have ej:(G3 p).getD j 0=(G3 p)[j]:=by simp[List.getD,hj]
 rcases Nat.lt_trichotomy i j with h|h|h
 · have h2:(G3 p)[i] < (G3 p)[j]:=hs i j hi hj h
   omega
 · exact h
 · have h2:(G3 p)[j] < (G3 p)[i]:=hs j i hj hi h
   omega
def A2v (p:A3) (i c:Nat):Prop:=c < (G3 p).length∧(G3 p).getD c 0=(i:Int)
abbrev byT (p:A3):List Int:=byL p.2.2.1.length (G3 p) (G3 p).length
theorem C75 {i c:Nat} (h:A2v p i c):(byT p).getD i 0=(c:Int):=by
 have:=C3v A1F B6A (G3 p).length (Nat.le_refl _) c h.1
 rwa [h.2,Int.toNat_natCast] at this
theorem C36 {i:Nat} (hi:i < p.2.2.1.length) (h:(H7 p).getD i false=true):∃c,A2v p i c:=by
 obtain⟨c,hc,e⟩:=List.mem_iff_getElem.1 (A12.2 ⟨i,hi,h,rfl⟩)
 exact⟨c,hc,by simp[List.getD,hc,e]⟩
theorem A92 {i c:Nat} (h:A2v p i c):i < p.2.2.1.length∧(H7 p).getD i false=true:=by
 obtain⟨j,h1,h2,h3⟩:=A12.1 (D6 (d:=(0:Int)) h.1)
 obtain rfl:i=j:=by have:=h.2;omega
 exact⟨h1,h2⟩
theorem A6n:(D0 p).2.2.1.length=(G3 p).length:=by simp[D0,A4v]
theorem B91 {i c:Nat} (h:A2v p i c):(D0 p).2.2.1.getD c n0=C47 (byT p) (p.2.2.1.getD i n0):=by
 have e:(D0 p).2.2.1.getD c n0=A3Y p.2.2.1 (byT p) ((G3 p).getD c 0):=by simp[D0,A4v,List.getD,h.1]
 rw[e,h.2];unfold A3Y;rw[Int.toNat_natCast]
theorem A7F {l:List Int} (hl:N9 p.2.2.1.length l=true) (hm:∀x∈l,(H7 p).getD x.toNat false=true):C2d (A2v p) l (A5p (byT p) l):=by
 refine⟨by simp[A5p],fun k hk=>?_⟩
 have hx:=U5 hl (D6 (d:=(0:Int)) hk)
 obtain⟨a,ha⟩:=Int.eq_ofNat_of_zero_le hx.1
 have hma:=hm _ (D6 (d:=(0:Int)) hk)
 rw[ha,Int.toNat_natCast] at hma;obtain⟨c,hc⟩:=C36 (by omega) hma
 refine⟨a,c,ha,?_,hc⟩
 have e:(A5p (byT p) l).getD k 0=(byT p).getD (l.getD k 0).toNat 0:=by simp[A5p,List.getD,hk]
 rw[e,ha,Int.toNat_natCast,C75 hc]
include hF in
theorem B4R:PSim p (D0 p) (A2v p) where
 inp:=rfl
 tabs:=rfl
 node:=fun i c h=>by
  obtain⟨hi,hm⟩:=A92 h
  refine⟨hi,by rw[A6n];exact h.1,?_⟩
  rw[B91 h];exact⟨rfl,.inl (A7F (d8 hF i hi).2 fun x hx=>A0j hF hi hm hx)⟩
 outs:=A7F (A8 hF).2.2.2.2.2.1 fun x hx=>A2C hF hx
theorem B6F {l:List Int} (hl:N9 p.2.2.1.length l=true) (hm:∀x∈l,(H7 p).getD x.toNat false=true):N9 (D0 p).2.2.1.length (A5p (byT p) l)=true:=B8W fun j hj=>by
 have hr:=A7F hl hm
 obtain⟨a,c,_,h2,h3⟩:=hr.2 j (by rw[hr.1];exact hj)
 rw[h2,A6n];have:=h3.1
 omega
include hF in
theorem B4Y:C0 (D0 p)=true:=by
 have hidx:=(A8 hF).2.2.2.2.2.1
 have hF':=hF
 simp only[C0,Bool.and_eq_true,decide_eq_true_eq] at hF' ⊢
 obtain⟨⟨⟨⟨⟨h1,h2⟩,h3⟩,h4⟩,h5⟩,h6⟩:=hF'
 have hml:(D0 p).2.2.1.length=(G3 p).length:=A6n
 have hnl:(G3 p).length≤p.2.2.1.length:=A2K _ _
 refine⟨⟨⟨⟨⟨h1,h2⟩,by omega⟩,by show (A5p _ _).length≤4;simp only[A5p,List.length_map];exact h4⟩,B6F hidx fun x hx=>A2C hF hx⟩,List.all_eq_true.2 fun nd hd=>?_⟩
 obtain⟨c,hc,rfl⟩:=List.mem_iff_getElem.1 hd
 rw[hml] at hc;obtain⟨i,hi⟩:=Int.eq_ofNat_of_zero_le (A1F c hc).1
 have hr:A2v p i c:=⟨hc,hi⟩
 have e:(D0 p).2.2.1[c]'(by rw[hml];exact hc)=C47 (byT p) (p.2.2.1.getD i n0):=by rw[←B91 hr];simp[List.getD,hml,hc]
 rw[e];obtain⟨hi2,hm⟩:=A92 hr
 obtain⟨q1,q2,q3⟩:=G6 (d9 hF hi2)
 have ix:=B6F q2 fun x hx=>A0j hF hi2 hm hx
 refine B4A (B6k q1 (by simp[A5p]) fun f hf=>?_) ix q3
 have:=U5 ix hf
 omega
end
theorem T5 {p:A3} (hP:B9 p=true):B9 (D0 p)=true:=by
 have hF:=(B8 hP).1
 unfold B9;rw[B4Y hF,Bool.true_and];refine decide_eq_true (C2t (B7d hP (B4R hF) fun c hc=>?_))
 rw[A6n] at hc;obtain⟨i,hi⟩:=Int.eq_ofNat_of_zero_le (A1F c hc).1
 exact⟨i,hc,hi⟩
theorem A38 {p:A3} (hP:B9 p=true) {ins:List (List Int)} (hi:J9 p ins) (m:Nat):H9 p ins m=H9 (D0 p) ins m :=
 B7k hP (T5 hP) (B4R (B8 hP).1) hi m
theorem B1u {p:A3} (hP:B9 p=true):KeepOk p (G3 p) where
 fits:=B42 (C0Q hP)
 n24:=(A8 (B8 hP).1).1
 k24:=by have h1:=(A8 (B8 hP).1).1;have h2:=A2K (H7 p) p.2.2.1.length;unfold G3;omega
 rng:=B8W A1F
 frs:=fun x hx=>by
  have h:=(B1D (B8 hP).1).2 x hx
  exact⟨by have:=h.2.1;omega,h.2.2.1⟩
 o4:=(A8 (B8 hP).1).2.1
 outs:=(A8 (B8 hP).1).2.2.2.2.2.1
def U4:List Int→Int→List Int
 | [],a=>[a]
 | x :: l, a => match decide (x < a) with
   | true=>x::U4 l a
   | false => match decide (x = a) with
     | true=>x::l
     | false=>a::x::l
theorem B57 {x a:Int}:∀{l:List Int},x∈U4 l a↔x=a∨x∈l:=by
 intro l
 induction l with
 | nil=>simp[U4]
 | cons y l ih =>
   unfold U4
   split
   · simp only[List.mem_cons,ih]
     constructor
     · rintro (h|h|h)
       · exact .inr (.inl h)
       · exact .inl h
       · exact .inr (.inr h)
     · rintro (h|h|h)
       · exact .inr (.inl h)
       · exact .inl h
       · exact .inr (.inr h)
   · split
     · rename_i h;have:=of_decide_eq_true h;subst this;simp
     · simp
theorem B5s {a:Int}:∀{l:List Int},l.Pairwise (· < ·)→(U4 l a).Pairwise (· < ·):=by
 intro l
 induction l with
 | nil=>intro _;simp[U4]
 | cons y l ih =>
   intro h;obtain⟨h1,h2⟩:=List.pairwise_cons.1 h
   unfold U4
   split
   · rename_i hy
     have hy:=of_decide_eq_true hy
     refine List.pairwise_cons.2 ⟨fun z hz=>?_,ih h2⟩
     rcases B57.1 hz with rfl|hz
     · exact hy
     · exact h1 z hz
   · rename_i hy
     have hy:=of_decide_eq_false hy
     split
     · exact h
     · rename_i he
       have he:=of_decide_eq_false he
       refine List.pairwise_cons.2 ⟨fun z hz=>?_,h⟩
       rcases List.mem_cons.1 hz with rfl|hz
       · omega
       · have:=h1 z hz;omega
theorem A9K {a:Int}:∀{l m:List Int},(∀x∈l,x < a)→U4 (l++m) a=l++U4 m a:=by
 intro l m
 induction l with
 | nil=>intro _;rfl
 | cons y l ih =>
   intro h;show U4 (y::(l++m)) a=y::(l++U4 m a)
   rw[←ih fun x hx=>h x (List.mem_cons_of_mem _ hx)]
   conv=>lhs;unfold U4
   rw[decide_eq_true (h y List.mem_cons_self)]
theorem C1V {a x:Int} {l:List Int} (h:a < x):U4 (x::l) a=a::x::l:=by unfold U4;rw[decide_eq_false (by omega),decide_eq_false (by omega)]
theorem B4b {a:Int} {l:List Int}:U4 (a::l) a=a::l:=by unfold U4;rw[decide_eq_false (by omega),decide_eq_true rfl]
theorem B84 {n:Nat} {l:List Int} (h:l.Pairwise (· < ·)) (hr:∀x∈l,0≤x∧x < n):l.length≤n:=C3q n l (h.imp fun hab=>by omega) hr
theorem C62 {p:A3} (hF:C0 p=true) {l:List Int} (hs:l.Pairwise (· < ·)) (hr:∀x∈l,0≤x∧x < p.2.2.1.length∧(H7 p).getD x.toNat false=true) (ho:∀x∈p.2.2.2,x∈l)
 (hc:∀x∈l,∀y∈(p.2.2.1.getD x.toNat n0).2.2.2,y∈l):l=G3 p:=by
 refine B6r hs (A6k _ _) fun x=>⟨fun hx=>?_,fun hx=>?_⟩
 · obtain⟨h1,h2,h3⟩:=hr x hx
   exact A12.2 ⟨x.toNat,by omega,h3,by omega⟩
 · obtain⟨i,h1,h2,rfl⟩:=A12.1 hx
   have hpos:∀x∈p.2.2.2,((x.toNat:Nat):Int)=x:=fun x hx=>by have:=U5 (A8 hF).2.2.2.2.2.1 hx;omega
   refine A7x hF (fun i=>(i:Int)∈l) (fun i hi h y hy=>?_) (fun y hy=>by rw[hpos y hy];exact ho y hy) i h2
   have hy0:=U5 (d8 hF i hi).2 hy
   have:=hc (i:Int) h y (by rw[Int.toNat_natCast];exact hy)
   rwa [show ((y.toNat:Nat):Int)=y by omega]
open Go.RowKit
def A1R (k:Int):Bool:=[1,3,4,5,6,7,8,17].contains k
def W7 (p:A3):Bool:=(G3 p).all fun i=>A1R (p.2.2.1.getD i.toNat n0).1
def B7 (ns:List A6):Nat:=(ns.map fun n=>(D4 n).length).sum
def T4 (ns:List A6) (k:Nat):Nat:=B7 (ns.take k)
def O6:List A6→List Int→List (List Int)
 | [],_=>[]
 | n::ns,c=>c.take (D4 n).length::O6 ns (c.drop (D4 n).length)
theorem w8:∀(ns:List A6) (c:List Int),(O6 ns c).length=ns.length:=by
 intro ns
 induction ns with
 | nil=>intro c;rfl
 | cons n ns ih=>intro c;simp[O6,ih]
theorem A0Z {ns:List A6} {k:Nat} (h:k < ns.length):T4 ns (k+1)=T4 ns k+(D4 (ns.getD k n0)).length:=by
 unfold T4 B7;rw[E7 (d:=n0) h,List.map_append,List.sum_append];simp
theorem B3T {ns:List A6}:∀{k:Nat},k≤ns.length→T4 ns k≤B7 ns:=by
 intro k hk
 unfold T4 B7;have e:ns=ns.take k++ns.drop k:=(List.take_append_drop k ns).symm
 conv=>rhs;rw[e]
 rw[List.map_append,List.sum_append];omega
theorem B5N {ns:List A6} {k:Nat} (h:ns.length≤k):T4 ns k=B7 ns:=by unfold T4;rw[List.take_of_length_le h]
theorem B2P:∀{ns:List A6} {c:List Int} {k:Nat},k < ns.length→(O6 ns c).getD k []=(c.drop (T4 ns k)).take (D4 (ns.getD k n0)).length:=by
 intro ns
 induction ns with
 | nil=>intro c k h;simp at h
 | cons n ns ih =>
   intro c k h
   cases k with
   | zero=>simp[O6,T4,B7]
   | succ k =>
     have:=ih (c:=c.drop (D4 n).length) (k:=k) (by simpa using h)
     simp only[O6,List.getD_cons_succ,this,List.drop_drop]
     congr 2
theorem B1a {ns:List A6} {c:List Int} {k:Nat} (h:k < ns.length):(O6 ns c).take k++[(c.drop (T4 ns k)).take (D4 (ns.getD k n0)).length]=(O6 ns c).take (k+1):=by
 rw[←B2P h];exact(E7 (by rw[w8];exact h)).symm
theorem C3K {ns:List A6} {c:List Int} (hc:c.length=B7 ns) {k:Nat} (h:k < ns.length):((O6 ns c).getD k []).length=(D4 (ns.getD k n0)).length:=by
 have h1:=A0Z h
 have h2:=B3T (ns:=ns) (k:=k+1) (by omega)
 rw[B2P h,List.length_take,List.length_drop];omega
theorem B1Y {xs:List Int} (h:D9 xs=true) (n:Nat):D9 (xs.take n)=true:=G4.2 fun x hx=>G4.1 h x (List.mem_of_mem_take hx)
theorem A6f {q:A3} {c:List Int} (hc:c.length=B7 q.2.2.1) (hs:D9 c=true):U3 q (O6 q.2.2.1 c) :=
 ⟨w8 _ _,fun i hi=>⟨C3K hc hi,by rw[B2P hi];exact B1Y (A7r hs _) _⟩⟩
theorem B05 {q:A3} {s:List (List Int)} (h:U3 q s):s.flatten.length=B7 q.2.2.1:=by
 rw[List.length_flatten];unfold B7
 congr 1
 refine List.ext_getElem (by simp[h.1]) fun i h1 h2=>?_
 have hi:i < q.2.2.1.length:=by simpa using h2
 have hi':i < s.length:=by rw[h.1];exact hi
 have:=(h.2 i hi).1
 simp only[List.getElem_map]
 simpa [List.getD,hi,hi'] using this
def Q4 (n:Nat):List Int:=List.replicate n 0
def L4 (n i:Nat):List Int:=(Q4 n).set i 1
theorem W4 (n:Nat):(Q4 n).length=n∧D9 (Q4 n)=true:=⟨by simp[Q4],G4.2 fun x hx=>by rw[(List.mem_replicate.1 hx).2];rfl⟩
theorem M4 (n i:Nat):(L4 n i).length=n∧D9 (L4 n i)=true:=⟨by simp[L4,Q4],A9U (W4 n).2 rfl⟩
def S8 (q:A3) (c fr:List Int):List Int × List Int:=((S6 q (O6 q.2.2.1 c) fr (E8 q (O6 q.2.2.1 c) fr)).flatten,J4 q (E8 q (O6 q.2.2.1 c) fr))
theorem x4 {q:A3} (hF:C0 q=true) {c fr:List Int} (hc:c.length=B7 q.2.2.1) (hs:D9 c=true) (hf:D9 fr=true):(S8 q c fr).1.length=B7 q.2.2.1∧(S8 q c fr).2.length=q.2.2.2.length :=
 ⟨B05 (B08 hF (A6f hc hs) hf (a6 hF (A6f hc hs) hf)),U8 _ _⟩
abbrev b9:=Int × List (List Int) × List (List Int) × List (List Int) × List (List Int)
def A1J (cols:Nat→List Int) (rows wd:Nat):List (List Int):=(List.range rows).map fun i=>(List.range wd).map fun j=>(cols j).getD i 0
theorem A6W (cols:Nat→List Int) (rows wd:Nat):(A1J cols rows wd).length=rows:=by simp[A1J]
theorem B8O {cols:Nat→List Int} {rows wd i:Nat} (h:i < rows):(A1J cols rows wd).getD i []=(List.range wd).map fun j=>(cols j).getD i 0:=by simp[A1J,List.getD,h]
def stC (q:A3) (j:Nat):List Int × List Int:=S8 q (L4 (B7 q.2.2.1) j) (Q4 q.1.toNat)
def inC (q:A3) (j:Nat):List Int × List Int:=S8 q (Q4 (B7 q.2.2.1)) (L4 q.1.toNat j)
def F6 (q:A3):b9:=(q.1,A1J (fun j=>(stC q j).1) (B7 q.2.2.1) (B7 q.2.2.1),A1J (fun j=>(inC q j).1) (B7 q.2.2.1) q.1.toNat,A1J (fun j=>(stC q j).2) q.2.2.2.length (B7 q.2.2.1),A1J (fun j=>(inC q j).2) q.2.2.2.length q.1.toNat)
def J1 (p:A3):Int:=match B9 p with
 | false=>1
 | true => match W7 p with
   | false=>6
   | true => match decide (24 < B7 (D0 p).2.2.1) with
     | true=>5
     | false=>0
theorem A75 {p:A3} (h:B9 p=false):J1 p=1:=by unfold J1;rw[h]
theorem A7I {p:A3} (h:B9 p=true) (k:W7 p=false):J1 p=6:=by unfold J1;rw[h,k]
theorem A4a {p:A3} (h:B9 p=true) (k:W7 p=true) (l:24 < B7 (D0 p).2.2.1):J1 p=5:=by unfold J1;rw[h,k,decide_eq_true l]
theorem B1m {p:A3} (h:B9 p=true) (k:W7 p=true) (l:B7 (D0 p).2.2.1≤24):J1 p=0:=by unfold J1;rw[h,k,decide_eq_false (by omega)]
def A7p (p:A3):b9 × Int:=match decide (J1 p=0) with
 | true=>(F6 (D0 p),0)
 | false=>((0,[],[],[],[]),J1 p)
theorem B6e {p:A3} (h:J1 p=0):A7p p=(F6 (D0 p),0):=by unfold A7p;rw[decide_eq_true h]
theorem B32 {p:A3} (h:¬J1 p=0):A7p p=((0,[],[],[],[]),J1 p):=by unfold A7p;rw[decide_eq_false h]
theorem A3X (p:A3):(D0 p).2.2.1=(G3 p).map fun i=>C47 (byT p) (p.2.2.1.getD i.toNat n0):=rfl
theorem A9A (p:A3):((D0 p).2.2.1.all fun n=>A1R n.1)=W7 p:=by
 rw[A3X,List.all_map];rfl
theorem B6p (p:A3):B7 (D0 p).2.2.1=((G3 p).map fun i=>(D4 (p.2.2.1.getD i.toNat n0)).length).sum:=by
 rw[A3X];unfold B7;rw[List.map_map];rfl
open Go.RowKit
theorem A7Z {xs:List Int} {k:Nat} (h:k < xs.length):xs.drop k=xs.getD k 0::xs.drop (k+1):=by
 rw[List.drop_eq_getElem_cons h];congr 1;simp[List.getD,h]
theorem C5W {xs:List Int} {m:Int} {k:Nat} (hk:k < xs.length) (hl:∀x∈xs.take k,x < m) (h:m < xs.getD k 0):(xs.take k++[m]++[xs.getD k 0])++xs.drop (k+1)=U4 xs m:=by
 have e:xs=xs.take k++xs.drop k:=(List.take_append_drop k xs).symm
 conv=>rhs;rw[e]
 rw[A9K hl,A7Z hk,C1V h];simp
theorem C4f {xs:List Int} {m:Int} {k:Nat} (hk:k < xs.length) (hl:∀x∈xs.take k,x < m) (h:xs.getD k 0=m):(xs.take k++[xs.getD k 0])++xs.drop (k+1)=U4 xs m:=by
 have e:xs=xs.take k++xs.drop k:=(List.take_append_drop k xs).symm
 conv=>rhs;rw[e]
 rw[A9K hl,A7Z hk,h,B4b];simp
theorem B01 {xs out y:List Int} {k:Nat} (hk:k < xs.length) (h:out++xs.drop k=y):(out++[xs.getD k 0])++xs.drop (k+1)=y:=by rw[←h,A7Z hk];simp
theorem C5x {xs:List Int} {m:Int} (hl:∀x∈xs,x < m):xs++[m]=U4 xs m:=by
 have:=A9K (m:=[]) hl
 rw[List.append_nil] at this;rw[this];rfl
theorem B3u {xs:List Int} {m:Int} {k:Nat} (hk:k < xs.length) (hl:∀x∈xs.take k,x < m) (h:xs.getD k 0 < m):∀x∈xs.take (k+1),x < m:=fun x hx=>by
 rw[E7 (d:=0) hk,List.mem_append,List.mem_singleton] at hx
 rcases hx with hx|rfl
 · exact hl x hx
 · exact h
theorem A6G {xs ou:List Int} {m:Int} {dn:Bool} (hf:dn=false→ou=xs.take xs.length∧∀x∈xs.take xs.length,x < m) (h:dn=false):ou++[m]=U4 xs m:=by
 obtain⟨e,hl⟩:=hf h
 rw[List.take_of_length_le (Nat.le_refl _)] at e hl
 subst e;exact C5x hl
theorem A6o {xs ou:List Int} {m:Int} {dn:Bool} (ht:dn=true→ou++xs.drop xs.length=U4 xs m) (h:dn=true):ou=U4 xs m:=by
 have:=ht h
 rwa [List.drop_of_length_le (Nat.le_refl _),List.append_nil] at this
theorem C1R {a:Int}:∀{l:List Int},l.Pairwise (· < ·)→a∈l→U4 l a=l:=by
 intro l
 induction l with
 | nil=>intro _ h;cases h
 | cons y l ih =>
   intro hs h
   obtain⟨h1,h2⟩:=List.pairwise_cons.1 hs
   rcases List.mem_cons.1 h with rfl|h
   · exact B4b
   · have:=h1 a h
     unfold U4;rw[decide_eq_true this,ih h2 h]
theorem B0J {a:Int}:∀{l:List Int},l.length≤(U4 l a).length∧(U4 l a).length≤l.length+1:=by
 intro l
 induction l with
 | nil=>simp[U4]
 | cons y l ih =>
   unfold U4
   split
   · simp only[List.length_cons];omega
   · split<;>simp
theorem B9p {a:Int}:∀{l:List Int},a ∉ l→(U4 l a).length=l.length+1:=by
 intro l
 induction l with
 | nil=>intro _;rfl
 | cons y l ih =>
   intro h;simp only[List.mem_cons,not_or] at h
   unfold U4
   split
   · simp only[List.length_cons,ih h.2]
   · split
     · rename_i e;exact absurd (of_decide_eq_true e).symm h.1
     · simp
def O3 (l m:List Int):List Int:=m.foldl U4 l
theorem B88 (l m:List Int) (x:Int):O3 l (m++[x])=U4 (O3 l m) x:=by simp[O3,List.foldl_append]
theorem A9E {l m:List Int} {k:Nat} (h:k < m.length):O3 l (m.take (k+1))=U4 (O3 l (m.take k)) (m.getD k 0):=by rw[E7 (d:=0) h,B88]
theorem B5Q:∀{m l:List Int},l.Pairwise (· < ·)→(O3 l m).Pairwise (· < ·)∧(∀x,x∈O3 l m↔x∈l∨x∈m)∧l.length≤(O3 l m).length∧((O3 l m).length≤l.length→O3 l m=l):=by
 intro m
 induction m with
 | nil=>intro l h;exact⟨h,fun x=>by simp[O3],Nat.le_refl _,fun _=>rfl⟩
 | cons a m ih =>
   intro l h
   obtain⟨i1,i2,i3,i4⟩:=ih (B5s (a:=a) h)
   have hl:=B0J (a:=a) (l:=l)
   refine⟨i1,fun x=>?_,Nat.le_trans hl.1 i3,fun hle=>?_⟩
   · show x∈O3 (U4 l a) m↔_
     rw[i2,B57,List.mem_cons]
     constructor
     · rintro ((h|h)|h)
       · exact .inr (.inl h)
       · exact .inl h
       · exact .inr (.inr h)
     · rintro (h|h|h)
       · exact .inl (.inr h)
       · exact .inl (.inl h)
       · exact .inr h
   · have hle:(O3 (U4 l a) m).length≤l.length:=hle
     have hin:a∈l:=by
      apply Classical.byContradiction
      intro hc;have:=B9p hc
      omega
     show O3 (U4 l a) m=l
     rw[C1R h hin] at i4 hle ⊢
     exact i4 hle
def y9 (ns:List A6) (out:List Int):Nat→List Int
 | 0=>out
 | k+1=>O3 (y9 ns out k) (ns.getD (out.getD k 0).toNat n0).2.2.2
theorem B35 {ns:List A6} {out:List Int} (h:out.Pairwise (· < ·)):∀k,(y9 ns out k).Pairwise (· < ·)∧(∀x,x∈y9 ns out k↔x∈out∨∃i,i < k∧x∈(ns.getD (out.getD i 0).toNat n0).2.2.2)∧out.length≤(y9 ns out k).length∧((y9 ns out k).length≤out.length→y9 ns out k=out):=by
 intro k
 induction k with
 | zero=>exact⟨h,fun x=>by simp[y9],Nat.le_refl _,fun _=>rfl⟩
 | succ k ih =>
   obtain⟨i1,i2,i3,i4⟩:=ih;obtain⟨j1,j2,j3,j4⟩:=B5Q (m:=(ns.getD (out.getD k 0).toNat n0).2.2.2) i1
   refine⟨j1,fun x=>?_,Nat.le_trans i3 j3,fun hle=>?_⟩
   · show x∈O3 _ _↔_
     rw[j2,i2]
     constructor
     · rintro ((h|⟨i,hi,h⟩)|h)
       · exact .inl h
       · exact .inr ⟨i,by omega,h⟩
       · exact .inr ⟨k,by omega,h⟩
     · rintro (h|⟨i,hi,h⟩)
       · exact .inl (.inl h)
       · rcases Nat.lt_succ_iff_lt_or_eq.1 hi with hi|rfl
         · exact .inl (.inr ⟨i,hi,h⟩)
         · exact .inr h
   · have hle:(O3 (y9 ns out k) (ns.getD (out.getD k 0).toNat n0).2.2.2).length≤out.length:=hle
     have e:=i4 (by omega)
     show O3 (y9 ns out k) _=out
     rw[e] at j4 ⊢
     exact j4 (by rw[e] at hle;exact hle)
structure NOk (p:A3) (l:List Int):Prop where
 srt:l.Pairwise (· < ·)
 rng:∀x∈l,0≤x∧x < p.2.2.1.length∧(H7 p).getD x.toNat false=true
 outs:∀x∈p.2.2.2,x∈l
def B2F (p:A3) (l:List Int):Prop:=∀x∈l,∀y∈(p.2.2.1.getD x.toNat n0).2.2.2,y∈l
theorem NOk.fin {p:A3} (hF:C0 p=true) {l:List Int} (h:NOk p l) (hc:B2F p l):l=G3 p:=C62 hF h.srt h.rng h.outs hc
theorem NOk.len {p:A3} {l:List Int} (h:NOk p l):l.length≤p.2.2.1.length:=B84 h.srt fun x hx=>by have:=h.rng x hx;exact⟨this.1,this.2.1⟩
theorem C1Z {p:A3} (hF:C0 p=true):NOk p (O3 [] p.2.2.2):=by
 obtain⟨h1,h2,_⟩:=B5Q (m:=p.2.2.2) (l:=[]) List.Pairwise.nil
 refine⟨h1,fun x hx=>?_,fun x hx=>(h2 x).2 (.inr hx)⟩
 rcases (h2 x).1 hx with h|h
 · cases h
 · have:=U5 (A8 hF).2.2.2.2.2.1 h
   exact⟨this.1,by omega,A2C hF h⟩
theorem C0W {p:A3} (hF:C0 p=true) (k:Nat):(O3 [] (p.2.2.2.take k)).length≤4:=by
 have:∀m:List Int,(O3 [] m).length≤m.length:=by
  intro m
  have key:∀(m l:List Int),(O3 l m).length≤l.length+m.length:=by
   intro m
   induction m with
   | nil=>intro l;simp[O3]
   | cons a m ih=>intro l;have:=ih (U4 l a);have h2:=B0J (a:=a) (l:=l);show (O3 (U4 l a) m).length≤_;simp only[List.length_cons];omega
  simpa using key m []
 have h1:=this (p.2.2.2.take k)
 have h2:=(A8 hF).2.1
 rw[List.length_take] at h1;omega
theorem B9L {p:A3} (hF:C0 p=true) {l:List Int} (h:NOk p l) {k:Nat} (hk:k≤l.length):NOk p (y9 p.2.2.1 l k):=by
 obtain⟨h1,h2,_⟩:=B35 (ns:=p.2.2.1) h.srt k
 refine⟨h1,fun x hx=>?_,fun x hx=>(h2 x).2 (.inl (h.outs x hx))⟩
 rcases (h2 x).1 hx with hx|⟨i,hi,hx⟩
 · exact h.rng x hx
 · obtain⟨r1,r2,r3⟩:=h.rng _ (D6 (d:=(0:Int)) (show i < l.length by omega))
   have:=U5 (d8 hF _ (show (l.getD i 0).toNat < p.2.2.1.length by omega)).2 hx
   exact⟨this.1,by omega,A0j hF (by omega) r3 hx⟩
theorem C2Y {p:A3} (hF:C0 p=true) {l:List Int} (h:NOk p l) {k j:Nat} (hk:k < l.length):(O3 (y9 p.2.2.1 l k) ((p.2.2.1.getD (l.getD k 0).toNat n0).2.2.2.take j)).length≤p.2.2.1.length+3:=by
 have key:∀(m l:List Int),(O3 l m).length≤l.length+m.length:=by
  intro m
  induction m with
  | nil=>intro l;simp[O3]
  | cons a m ih=>intro l;have:=ih (U4 l a);have h2:=B0J (a:=a) (l:=l);show (O3 (U4 l a) m).length≤_;simp only[List.length_cons];omega
 have h1:=key ((p.2.2.1.getD (l.getD k 0).toNat n0).2.2.2.take j) (y9 p.2.2.1 l k)
 have h2:=(B9L hF h (k:=k) (by omega)).len
 obtain⟨r1,r2,_⟩:=h.rng _ (D6 (d:=(0:Int)) hk)
 have h3:=(d8 hF _ (show (l.getD k 0).toNat < p.2.2.1.length by omega)).1
 rw[List.length_take] at h1;omega
theorem C1x {p:A3} {l:List Int} (h:NOk p l) (hl:(y9 p.2.2.1 l l.length).length≤l.length):B2F p (y9 p.2.2.1 l l.length):=by
 obtain⟨_,h2,_,h4⟩:=B35 (ns:=p.2.2.1) h.srt l.length
 have e:=h4 hl
 intro x hx y hy
 rw[e] at hx;obtain⟨i,hi,rfl⟩:=List.mem_iff_getElem.1 hx
 refine(h2 y).2 (.inr ⟨i,hi,?_⟩)
 have:l.getD i 0=l[i]:=by simp[List.getD,hi]
 rw[this];exact hy
open Go.RowKit
theorem C42 (x:Int):(x == 1 || (x == 3 || (x == 4 || (x == 5 || (x == 6 || (x == 7 || (x == 8 || x == 17)))))))=A1R x:=by
 unfold A1R;simp only[List.contains_cons,List.contains_nil,Bool.or_false]
theorem B7w {n:A6} {a b:Int} (h:M6 n a=true) (hab:a≤b):M6 n b=true:=by
 unfold M6 at h ⊢
 simp only[Bool.and_eq_true,Bool.or_eq_true,Bool.not_eq_true',decide_eq_false_iff_not,decide_eq_true_eq] at h ⊢
 exact⟨h.1,h.2.imp id fun g=>by omega⟩
theorem A5r {p:A3} (hF:C0 p=true) {i:Nat} (hi:i < p.2.2.1.length):M6 (p.2.2.1.getD i n0) 4=true:=by
 have h:=(G6 (d9 hF hi)).1
 refine B7w h ?_
 have ht:A05 p.2.1=true:=by
  unfold C0 at hF;simp only[Bool.and_eq_true] at hF
  exact hF.1.1.1.1.2
 unfold A05 at ht;simp only[Bool.and_eq_true,decide_eq_true_eq] at ht
 omega
theorem B5e {p:A3} (hF:C0 p=true) {i:Nat} (hi:i < p.2.2.1.length):(D4 (p.2.2.1.getD i n0)).length≤16:=A1O (A5r hF hi)
theorem B9C {p:A3} (hF:C0 p=true):∀k,k≤p.2.2.1.length→T4 p.2.2.1 k≤16 * k:=by
 intro k
 induction k with
 | zero=>intro _;simp[T4,B7]
 | succ k ih =>
   intro h;have h1:=ih (by omega)
   have h2:=A0Z (ns:=p.2.2.1) (k:=k) (by omega)
   have h3:=B5e hF (i:=k) (by omega)
   omega
theorem A0M {p:A3} (hF:C0 p=true):B7 p.2.2.1≤384:=by
 have h1:=B9C hF _ (Nat.le_refl _)
 rw[B5N (Nat.le_refl _)] at h1
 have:=(A8 hF).1
 omega
theorem A77 {xs:List (List Int)} {k:Nat} (h:k < xs.length):(xs.take k).flatten++xs.getD k []=(xs.take (k+1)).flatten:=by
 rw[E7 (d:=([]:List Int)) h,List.flatten_append];simp
theorem B9Q {xs:List (List Int)} {k:Nat} (h:k < xs.length):(xs.take k).flatten.length+(xs.getD k []).length≤xs.flatten.length:=by
 rw[←List.length_append,A77 h]
 conv=>rhs;rw[←List.take_append_drop (k+1) xs]
 rw[List.flatten_append,List.length_append];omega
theorem B1t {xs:List (List Int)} {k:Nat} (h:xs.length≤k):(xs.take k).flatten=xs.flatten:=by rw[List.take_of_length_le h]
theorem A4Y {n i:Nat} (h:n≤i):L4 n i=Q4 n:=by
 unfold L4;rw[List.set_eq_of_length_le (by simp[Q4];exact h)]
def A4w (a b c:Int):Int:=match decide (a < b) with
 | true=>c
 | false=>a - b
theorem B38 {a b c:Int} (h:a < b):A4w a b c=c:=by unfold A4w;rw[decide_eq_true h]
theorem B3g {a b c:Int} (h:¬a < b):A4w a b c=a - b:=by unfold A4w;rw[decide_eq_false h]
def B4w (q:A3) (j:Nat):List Int × List Int:=S8 q (L4 (B7 q.2.2.1) j) (L4 q.1.toNat (A4w j (B7 q.2.2.1) q.1).toNat)
theorem B8Z {q:A3} (h0:0≤q.1) {j:Nat} (h:j < B7 q.2.2.1):B4w q j=stC q j:=by
 unfold B4w stC;rw[B38 (by omega),A4Y (Nat.le_refl _)]
theorem C5N {q:A3} {j:Nat}:B4w q (B7 q.2.2.1+j)=inC q j:=by
 unfold B4w inC;rw[B3g (by omega),A4Y (by omega),show ((B7 q.2.2.1+j:Nat):Int) - (B7 q.2.2.1:Int)=(j:Int) by omega,Int.toNat_natCast]
theorem C44 {ns:List A6} {c:List Int} {k lo hi:Nat} (h:k < ns.length) (hl:lo=T4 ns k) (hh:hi=T4 ns k+(D4 (ns.getD k n0)).length):(O6 ns c).take k++[(c.take hi).drop lo]=(O6 ns c).take (k+1):=by
 subst hl hh
 rw[←B1a h,List.drop_take];congr 3;omega
theorem C1z {ns:List A6} {l:List Int} {k:Nat} {F:List Int} (hF:F=(ns.getD (l.getD k 0).toNat n0).2.2.2) {j:Nat} (hj:F.length≤j):O3 (y9 ns l k) (F.take j)=y9 ns l (k+1):=by
 rw[List.take_of_length_le hj,hF];rfl
theorem B9e {q:A3} (hP:B9 q=true) {c fr:List Int} (hc:c.length=B7 q.2.2.1) (hs:D9 c=true) (hl:(fr.length:Int)=q.1) (hf:D9 fr=true):A15 q (O6 q.2.2.1 c) fr=0:=by
 refine B8F ?_ ?_
 · rw[hP,A2b.2 (A6f hc hs)];rfl
 · rw[decide_eq_true hl,hf];rfl
open Go.RowKit
def A2f (f:Nat→Int) (lo wd n:Nat):List Int:=(List.range wd).map fun c=>match decide (lo+c < n) with
 | true=>f c
 | false=>0
theorem C1l (f:Nat→Int) (lo wd n:Nat):(A2f f lo wd n).length=wd:=by simp[A2f]
theorem C3H {f:Nat→Int} {lo wd n:Nat} (h1:lo≤n) (h2:n < lo+wd):(A2f f lo wd n).set (n - lo) (f (n - lo))=A2f f lo wd (n+1):=by
 refine List.ext_getElem (by simp[A2f]) fun i h3 h4=>?_
 have hi:i < wd:=by simpa [A2f] using h4
 rw[List.getElem_set];simp only[A2f,List.getElem_map,List.getElem_range]
 by_cases h:n - lo=i
 · rw[if_pos h,decide_eq_true (show lo+i < n+1 by omega),h]
 · rw[if_neg h]
   by_cases h5:lo+i < n
   · rw[decide_eq_true h5,decide_eq_true (show lo+i < n+1 by omega)]
   · rw[decide_eq_false h5,decide_eq_false (show ¬lo+i < n+1 by omega)]
theorem C4D {f:Nat→Int} {lo wd n:Nat} (h:n < lo∨lo+wd≤n):A2f f lo wd (n+1)=A2f f lo wd n:=by
 refine List.ext_getElem (by simp[A2f]) fun i h3 h4=>?_
 have hi:i < wd:=by simpa [A2f] using h4
 simp only[A2f,List.getElem_map,List.getElem_range]
 by_cases h5:lo+i < n
 · rw[decide_eq_true h5,decide_eq_true (show lo+i < n+1 by omega)]
 · rw[decide_eq_false h5,decide_eq_false (show ¬lo+i < n+1 by omega)]
def y6 (f:Nat→Nat→Int) (lo rows wd n i:Nat):List (List Int):=(List.range rows).map fun r=>match decide (r < i) with
 | true=>A2f (f r) lo wd (n+1)
 | false=>A2f (f r) lo wd n
theorem A6B (f:Nat→Nat→Int) (lo rows wd n i:Nat):(y6 f lo rows wd n i).length=rows:=by simp[y6]
theorem B8R {f:Nat→Nat→Int} {lo rows wd n i:Nat} (h:i < rows):(y6 f lo rows wd n i).getD i []=A2f (f i) lo wd n:=by simp[y6,List.getD,h]
theorem A8Y {f:Nat→Nat→Int} {lo rows wd n i:Nat} (h:i < rows):((y6 f lo rows wd n i).getD i []).length=wd:=by rw[B8R h,C1l]
theorem A6Y {f:Nat→Nat→Int} {lo rows wd n i:Nat} (h:i < rows) (h1:lo≤n) (h2:n < lo+wd) :
 (y6 f lo rows wd n i).set i (((y6 f lo rows wd n i).getD i []).set (n - lo) (f i (n - lo)))=y6 f lo rows wd n (i+1):=by
 rw[B8R h,C3H h1 h2];refine List.ext_getElem (by simp[y6]) fun r h3 h4=>?_
 rw[List.getElem_set];simp only[y6,List.getElem_map,List.getElem_range]
 by_cases e:i=r
 · subst e;rw[if_pos rfl,decide_eq_true (show i < i+1 by omega)]
 · rw[if_neg e]
   by_cases h5:r < i
   · rw[decide_eq_true h5,decide_eq_true (show r < i+1 by omega)]
   · rw[decide_eq_false h5,decide_eq_false (show ¬r < i+1 by omega)]
theorem A6h {f:Nat→Nat→Int} {lo rows wd n i:Nat} (h:n < lo∨lo+wd≤n):y6 f lo rows wd n (i+1)=y6 f lo rows wd n i:=by
 unfold y6;refine List.map_congr_left fun r _=>?_
 rw[C4D h];cases decide (r < i+1)<;>cases decide (r < i)<;>rfl
theorem A5x {f:Nat→Nat→Int} {lo rows wd n i:Nat} (h:rows≤i):y6 f lo rows wd n i=y6 f lo rows wd (n+1) 0:=by
 unfold y6;refine List.map_congr_left fun r hr=>?_
 have:=List.mem_range.1 hr
 rw[decide_eq_true (show r < i by omega),decide_eq_false (show ¬r < 0 by omega)]
theorem C18 {f:Nat→Int} {lo wd n:Nat} (h:n≤lo):A2f f lo wd n=Q4 wd:=by
 refine List.ext_getElem (by simp[A2f,Q4]) fun i h3 h4=>?_
 simp only[A2f,List.getElem_map,List.getElem_range,Q4,List.getElem_replicate];rw[decide_eq_false (show ¬lo+i < n by omega)]
theorem A4J {f:Nat→Nat→Int} {lo rows wd n:Nat} (h:n≤lo):List.replicate rows (List.replicate wd 0)=y6 f lo rows wd n 0:=by
 refine List.ext_getElem (by simp[y6]) fun i h3 h4=>?_
 simp only[y6,List.getElem_map,List.getElem_range,List.getElem_replicate];rw[decide_eq_false (show ¬i < 0 by omega)]
 exact(C18 h).symm
theorem A6N {cols:Nat→List Int} {f:Nat→Nat→Int} (hf:∀r c,f r c=(cols c).getD r 0) {lo rows wd n:Nat} (h:lo+wd≤n):y6 f lo rows wd n 0=A1J cols rows wd:=by
 unfold y6 A1J;refine List.map_congr_left fun r hr=>?_
 rw[decide_eq_false (show ¬r < 0 by omega)]
 unfold A2f;refine List.map_congr_left fun c hc=>?_
 have:=List.mem_range.1 hc
 rw[decide_eq_true (show lo+c < n by omega),hf]
def f1M (q:A3) (r c:Nat):Int:=(stC q c).1.getD r 0
def f2M (q:A3) (r c:Nat):Int:=(inC q c).1.getD r 0
def f3M (q:A3) (r c:Nat):Int:=(stC q c).2.getD r 0
def f4M (q:A3) (r c:Nat):Int:=(inC q c).2.getD r 0
def m1M (q:A3) (n i:Nat):List (List Int):=y6 (f1M q) 0 (B7 q.2.2.1) (B7 q.2.2.1) n i
def m2M (q:A3) (n i:Nat):List (List Int):=y6 (f2M q) (B7 q.2.2.1) (B7 q.2.2.1) q.1.toNat n i
def m3M (q:A3) (n i:Nat):List (List Int):=y6 (f3M q) 0 q.2.2.2.length (B7 q.2.2.1) n i
def m4M (q:A3) (n i:Nat):List (List Int):=y6 (f4M q) (B7 q.2.2.1) q.2.2.2.length q.1.toNat n i
theorem C4T {q:A3} {n:Nat} (h:n=B7 q.2.2.1+q.1.toNat):(q.1,m1M q n 0,m2M q n 0,m3M q n 0,m4M q n 0)=F6 q:=by
 unfold m1M m2M m3M m4M F6;rw[A6N (cols:=fun j=>(stC q j).1) (f:=f1M q) (fun _ _=>rfl) (by omega),A6N (cols:=fun j=>(inC q j).1) (f:=f2M q) (fun _ _=>rfl) (by omega),A6N (cols:=fun j=>(stC q j).2) (f:=f3M q) (fun _ _=>rfl) (by omega),A6N (cols:=fun j=>(inC q j).2) (f:=f4M q) (fun _ _=>rfl) (by omega)]
theorem C5m (q:A3) (n i:Nat):(m1M q n i).length=B7 q.2.2.1:=A6B ..
theorem C4v (q:A3) (n i:Nat):(m2M q n i).length=B7 q.2.2.1:=A6B ..
theorem C5F (q:A3) (n i:Nat):(m3M q n i).length=q.2.2.2.length:=A6B ..
theorem C5X (q:A3) (n i:Nat):(m4M q n i).length=q.2.2.2.length:=A6B ..
theorem C72 {q:A3} {n i:Nat} (h:i < B7 q.2.2.1):((m1M q n i).getD i []).length=B7 q.2.2.1:=A8Y h
theorem C6y {q:A3} {n i:Nat} (h:i < B7 q.2.2.1):((m2M q n i).getD i []).length=q.1.toNat:=A8Y h
theorem C7z {q:A3} {n i:Nat} (h:i < q.2.2.2.length):((m3M q n i).getD i []).length=B7 q.2.2.1:=A8Y h
theorem C7J {q:A3} {n i:Nat} (h:i < q.2.2.2.length):((m4M q n i).getD i []).length=q.1.toNat:=A8Y h
theorem C6G {q:A3} {v:List Int} {n i:Nat} (h:i < B7 q.2.2.1) (hn:n < B7 q.2.2.1) (hv:v=(stC q n).1):(m1M q n i).set i (((m1M q n i).getD i []).set n (v.getD i 0))=m1M q n (i+1):=by
 subst hv;exact A6Y (f:=f1M q) (lo:=0) h (Nat.zero_le _) (by omega)
theorem C4r {q:A3} {v:List Int} {n i:Nat} (h:i < q.2.2.2.length) (hn:n < B7 q.2.2.1) (hv:v=(stC q n).2):(m3M q n i).set i (((m3M q n i).getD i []).set n (v.getD i 0))=m3M q n (i+1):=by
 subst hv;exact A6Y (f:=f3M q) (lo:=0) h (Nat.zero_le _) (by omega)
theorem C5U {q:A3} {v:List Int} {n i:Nat} (h:i < B7 q.2.2.1) (hn:B7 q.2.2.1≤n) (h2:n < B7 q.2.2.1+q.1.toNat) (hv:v=(inC q (n - B7 q.2.2.1)).1):(m2M q n i).set i (((m2M q n i).getD i []).set (n - B7 q.2.2.1) (v.getD i 0))=m2M q n (i+1):=by
 subst hv;exact A6Y (f:=f2M q) h hn h2
theorem C4n {q:A3} {v:List Int} {n i:Nat} (h:i < q.2.2.2.length) (hn:B7 q.2.2.1≤n) (h2:n < B7 q.2.2.1+q.1.toNat) (hv:v=(inC q (n - B7 q.2.2.1)).2):(m4M q n i).set i (((m4M q n i).getD i []).set (n - B7 q.2.2.1) (v.getD i 0))=m4M q n (i+1):=by
 subst hv;exact A6Y (f:=f4M q) h hn h2
theorem C5s {q:A3} {n i:Nat} (h:¬n < B7 q.2.2.1):m1M q n i=m1M q n (i+1):=(A6h (.inr (by omega))).symm
theorem C6J {q:A3} {n i:Nat} (h:¬n < B7 q.2.2.1):m3M q n i=m3M q n (i+1):=(A6h (.inr (by omega))).symm
theorem C54 {q:A3} {n i:Nat} (h:n < B7 q.2.2.1):m2M q n i=m2M q n (i+1):=(A6h (.inl h)).symm
theorem C5f {q:A3} {n i:Nat} (h:n < B7 q.2.2.1):m4M q n i=m4M q n (i+1):=(A6h (.inl h)).symm
theorem C6E {q:A3} {n i:Nat} (h:B7 q.2.2.1≤i):m1M q n i=m1M q (n+1) 0:=A5x h
theorem C6D {q:A3} {n i:Nat} (h:B7 q.2.2.1≤i):m2M q n i=m2M q (n+1) 0:=A5x h
theorem C5J {q:A3} {n i:Nat} (h:q.2.2.2.length≤i):m3M q n i=m3M q (n+1) 0:=A5x h
theorem C4M {q:A3} {n i:Nat} (h:q.2.2.2.length≤i):m4M q n i=m4M q (n+1) 0:=A5x h
theorem C6O {q:A3}:List.replicate (B7 q.2.2.1) (List.replicate (B7 q.2.2.1) 0)=m1M q 0 0:=A4J (Nat.zero_le _)
theorem C6Q {q:A3}:List.replicate (B7 q.2.2.1) (List.replicate q.1.toNat 0)=m2M q 0 0:=A4J (Nat.zero_le _)
theorem C6g {q:A3}:List.replicate q.2.2.2.length (List.replicate (B7 q.2.2.1) 0)=m3M q 0 0:=A4J (Nat.zero_le _)
theorem C6X {q:A3}:List.replicate q.2.2.2.length (List.replicate q.1.toNat 0)=m4M q 0 0:=A4J (Nat.zero_le _)
theorem A65 {α:Type} (x:α) (k:Nat):List.replicate k x++[x]=List.replicate (k+1) x:=(List.replicate_succ' ..).symm
theorem C2S {p:A3} (h:B9 p=false):A7p p=((0,[],[],[],[]),1):=by rw[B32 (by rw[A75 h];decide),A75 h]
theorem C3s {p:A3} (h:B9 p=true) (k:W7 p=false):A7p p=((0,[],[],[],[]),6):=by rw[B32 (by rw[A7I h k];decide),A7I h k]
theorem C3w {p:A3} (h:B9 p=true) (k:W7 p=true) (l:24 < B7 (D0 p).2.2.1):A7p p=((0,[],[],[],[]),5):=by rw[B32 (by rw[A4a h k l];decide),A4a h k l]
theorem C28 {p:A3} (h:B9 p=true) (k:W7 p=true) (l:B7 (D0 p).2.2.1≤24):A7p p=(F6 (D0 p),0):=B6e (B1m h k l)
theorem C3r {a b c:Int} (h:0≤c):0≤A4w a b c:=by
 by_cases hd:a < b
 · rw[B38 hd];exact h
 · rw[B3g hd];omega
theorem C33 {q:A3} (hF:C0 q=true) (j:Nat):(B4w q j).1.length=B7 q.2.2.1∧(B4w q j).2.length=q.2.2.2.length :=
 x4 hF (M4 _ _).1 (M4 _ _).2 (M4 _ _).2
theorem B5T {q:A3} {j:Nat} (h:B7 q.2.2.1≤j):B4w q j=inC q (j - B7 q.2.2.1):=by
 have:=C5N (q:=q) (j:=j - B7 q.2.2.1)
 rwa [show B7 q.2.2.1+(j - B7 q.2.2.1)=j by omega] at this
end Go.Proofs.YtgaogcnfijbahaaGreat
