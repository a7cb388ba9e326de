/-
  Texts of this claim, joined (part 23). No condition beyond those of the theorems.
-/
import Derived.Test.YtflobmmbhaofbaaGreatQ20
import Derived.Test.YtflobmmbhaofbaaGreatQ19
set_option linter.unusedSimpArgs false
set_option linter.unusedVariables false
namespace Go.Proofs.YtflobmmbhaofbaaGreat
open Go.RowKit
def bfs (ns:List A4):Nat→List Bool→List Int→List Bool
 | 0,m,_=>m
 | f + 1, m, t => match t with
   | []=>m
   | i :: t => match m.getD i.toNat true with
     | true=>bfs ns f m t
     | false=>bfs ns f (m.set i.toNat true) (t++(ns.getD i.toNat n0).2.2.2)
def bmu (m:List Bool) (t:List Int):Nat:=4 * m.count false+t.length
def S4 (p:A6):List Bool:=bfs p.2.2.1 (4 * p.2.2.1.length+p.2.2.2.length) (List.replicate p.2.2.1.length false) p.2.2.2
theorem B5v {m:List Bool} {i:Nat} (hi:i < m.length) (h:m.getD i true=false):(m.set i true).count false+1=m.count false:=by
 induction m generalizing i with
 | nil=>simp at hi
 | cons x l ih =>
   cases i with
   | zero =>
     have:x=false:=by simpa using h
     subst this;simp
   | succ i =>
     have:=ih (i:=i) (by simpa using hi) (by simpa using h)
     simp only[List.set_cons_succ,List.count_cons];omega
theorem C5a {m:List Bool} {i:Nat} (hi:i < m.length) (d e:Bool):m.getD i d=m.getD i e:=by simp[List.getD,hi]
theorem B7Z {m:List Bool} {i j:Nat} (hi:i < m.length):(m.set i true).getD j false=if i=j then true else m.getD j false:=A1U hi
def C2m (ns:List A4):Prop:=∀i,i < ns.length→(ns.getD i n0).2.2.2.length≤3∧J4 ns.length (ns.getD i n0).2.2.2=true
theorem A2w {p:A6} (hF:C5 p=true):C2m p.2.2.1:=fun i hi=>by
 have h:=(L3 hF).2 _ (B9 (d:=n0) hi)
 exact⟨h.2.1,h.2.2.1⟩
theorem B8v {n:Nat} {a b:List Int} (h:J4 n a=true) (k:J4 n b=true):J4 n (a++b)=true:=by
 unfold J4 at *;rw[List.all_append,h,k];rfl
theorem B83 {n:Nat} {x:Int} {l:List Int} (h:J4 n (x::l)=true):(0≤x∧x < n)∧J4 n l=true:=by
 have h1:=I5 h List.mem_cons_self
 refine⟨by omega,?_⟩
 unfold J4 at *;simp only[List.all_cons,Bool.and_eq_true] at h;exact h.2
structure BfsOk (ns:List A4) (m:List Bool) (t:List Int) (M:List Bool):Prop where
 len:M.length=ns.length
 up:∀i,m.getD i false=true→M.getD i false=true
 todo:∀x∈t,M.getD x.toNat false=true
 closed:(∀i,i < ns.length→m.getD i false=true→∀x∈(ns.getD i n0).2.2.2,m.getD x.toNat false=true∨x∈t)→∀i,i < ns.length→M.getD i false=true→∀x∈(ns.getD i n0).2.2.2,M.getD x.toNat false=true
 least:∀S:Nat→Prop,(∀i,i < ns.length→S i→∀x∈(ns.getD i n0).2.2.2,S x.toNat)→(∀i,m.getD i false=true→S i)→(∀x∈t,S x.toNat)→∀i,M.getD i false=true→S i
theorem C37 {ns:List A4} (hfr:C2m ns):∀(f:Nat) (m:List Bool) (t:List Int),m.length=ns.length→J4 ns.length t=true→bmu m t≤f→BfsOk ns m t (bfs ns f m t):=by
 intro f
 induction f with
 | zero =>
   intro m t hm ht hb
   have ht0:t=[]:=by unfold bmu at hb;exact List.eq_nil_of_length_eq_zero (by omega)
   subst ht0;exact⟨hm,fun i h=>h,(fun x hx=>by cases hx),fun h i hi hM x hx=>(h i hi hM x hx).resolve_right (by simp),fun S _ h _ i hi=>h i hi⟩
 | succ f ih =>
   intro m t hm ht hb
   cases t with
   | nil=>exact⟨hm,fun i h=>h,(fun x hx=>by cases hx),fun h i hi hM x hx=>(h i hi hM x hx).resolve_right (by simp),fun S _ h _ i hi=>h i hi⟩
   | cons a t =>
     obtain⟨⟨ha0,ha1⟩,ht⟩:=B83 ht
     have hal:a.toNat < m.length:=by omega
     have han:a.toNat < ns.length:=by omega
     unfold bfs;simp only
     cases hma:m.getD a.toNat true with
     | true =>
       simp only
       have hma':m.getD a.toNat false=true:=by rw[C5a hal false true];exact hma
       have k:=ih m t hm ht (by unfold bmu at *;simp only[List.length_cons] at hb;omega)
       refine⟨k.len,k.up,fun x hx=>?_,fun h=>k.closed fun i hi hM x hx=>?_,fun S h1 h2 h3=>k.least S h1 h2 fun x hx=>h3 x (List.mem_cons_of_mem _ hx)⟩
       · rcases List.mem_cons.1 hx with rfl|hx
         · exact k.up _ hma'
         · exact k.todo x hx
       · rcases h i hi hM x hx with h|h
         · exact .inl h
         · rcases List.mem_cons.1 h with rfl|h
           · exact .inl hma'
           · exact .inr h
     | false =>
       simp only
       obtain⟨f1,f2⟩:=hfr a.toNat han
       have hc:=B5v hal hma
       have k:=ih (m.set a.toNat true) (t++(ns.getD a.toNat n0).2.2.2) (by simpa using hm) (B8v ht f2) (by unfold bmu at *;simp only[List.length_cons,List.length_append] at *;omega)
       refine⟨k.len,fun i hi=>k.up i ?_,fun x hx=>?_,fun h=>k.closed fun i hi hM x hx=>?_,fun S h1 h2 h3=>k.least S h1 (fun i hi=>?_) fun x hx=>?_⟩
       · rw[B7Z hal];split
         · rfl
         · exact hi
       · rcases List.mem_cons.1 hx with rfl|hx
         · exact k.up _ (by rw[B7Z hal,if_pos rfl])
         · exact k.todo x (List.mem_append_left _ hx)
       · rw[B7Z hal] at hM
         by_cases e:a.toNat=i
         · subst e;exact .inr (List.mem_append_right _ hx)
         · rw[if_neg e] at hM;rcases h i hi hM x hx with h|h
           · left;rw[B7Z hal];split
             · rfl
             · exact h
           · rcases List.mem_cons.1 h with rfl|h
             · left;rw[B7Z hal,if_pos rfl]
             · exact .inr (List.mem_append_left _ h)
       · rw[B7Z hal] at hi
         by_cases e:a.toNat=i
         · rw[←e];exact h3 a List.mem_cons_self
         · rw[if_neg e] at hi;exact h2 i hi
       · rcases List.mem_append.1 hx with hx|hx
         · exact h3 x (List.mem_cons_of_mem _ hx)
         · exact h1 a.toNat han (h3 a List.mem_cons_self) x hx
theorem B6l (n i:Nat):(List.replicate n false).getD i false=false:=by
 by_cases h:i < n
 · simp[List.getD,h]
 · rw[List.getD_eq_getElem?_getD,List.getElem?_eq_none (by simp;omega)];rfl
section
variable {p:A6}
theorem A8I (hF:C5 p=true):BfsOk p.2.2.1 (List.replicate p.2.2.1.length false) p.2.2.2 (S4 p) :=
 C37 (A2w hF) _ _ _ (by simp) (A8 hF).2.2.2.2.2.1 (by simp[bmu])
theorem A5q (hF:C5 p=true) {x:Int} (hx:x∈p.2.2.2):(S4 p).getD x.toNat false=true:=(A8I hF).todo x hx
theorem Z5 (hF:C5 p=true) {i:Nat} (hi:i < p.2.2.1.length) (h:(S4 p).getD i false=true) {x:Int} (hx:x∈(p.2.2.1.getD i n0).2.2.2):(S4 p).getD x.toNat false=true :=
 (A8I hF).closed (fun i _ h=>by rw[B6l] at h;cases h) i hi h x hx
theorem A35 (hF:C5 p=true) (S:Nat→Prop) (h1:∀i,i < p.2.2.1.length→S i→∀x∈(p.2.2.1.getD i n0).2.2.2,S x.toNat) (h2:∀x∈p.2.2.2,S x.toNat):∀i,(S4 p).getD i false=true→S i :=
 (A8I hF).least S h1 (fun i h=>by rw[B6l] at h;cases h) h2
end
def A6u (M:List Bool) (k:Nat):List Int:=((List.range k).filter fun i=>M.getD i false).map fun (i:Nat)=>(i:Int)
theorem B8c {M:List Bool} {k:Nat} {x:Int}:x∈A6u M k↔∃i:Nat,i < k∧M.getD i false=true∧x=(i:Int):=by
 simp only[A6u,List.mem_map,List.mem_filter,List.mem_range]
 constructor
 · rintro⟨i,⟨h1,h2⟩,rfl⟩;exact⟨i,h1,h2,rfl⟩
 · rintro⟨i,h1,h2,rfl⟩;exact⟨i,⟨h1,h2⟩,rfl⟩
theorem A6M (M:List Bool):∀k,(A6u M k).length≤k:=by
 intro k;have:=List.length_filter_le (fun i=>M.getD i false) (List.range k)
 simpa [A6u] using this
theorem B2B (M:List Bool) (k:Nat):(A6u M k).Pairwise (· < ·):=by
 refine List.Pairwise.map _ (fun a b (h:a < b)=>by omega) (List.Pairwise.filter _ List.pairwise_lt_range)
theorem B5b:∀{a b:List Int},a.Pairwise (· < ·)→b.Pairwise (· < ·)→(∀x,x∈a↔x∈b)→a=b:=by
 intro a
 induction a with
 | nil =>
   intro b _ _ h
   cases b with
   | nil=>rfl
   | cons y l=>have:=(h y).2 List.mem_cons_self;cases this
 | cons x a ih =>
   intro b ha hb h
   cases b with
   | nil=>have:=(h x).1 List.mem_cons_self;cases this
   | cons y b =>
     obtain⟨ha1,ha2⟩:=List.pairwise_cons.1 ha
     obtain⟨hb1,hb2⟩:=List.pairwise_cons.1 hb
     have e:x=y:=by
      rcases List.mem_cons.1 ((h x).1 List.mem_cons_self) with e|e
      · exact e
      · rcases List.mem_cons.1 ((h y).2 List.mem_cons_self) with e2|e2
        · exact e2.symm
        · have:=hb1 x e;have:=ha1 y e2;omega
     subst e;rw[ih ha2 hb2 fun z=>⟨fun hz=>?_,fun hz=>?_⟩]
     · rcases List.mem_cons.1 ((h z).1 (List.mem_cons_of_mem _ hz)) with e|e
       · have:=ha1 z hz;omega
       · exact e
     · rcases List.mem_cons.1 ((h z).2 (List.mem_cons_of_mem _ hz)) with e|e
       · have:=hb1 z hz;omega
       · exact e
def F0 (p:A6):List Int:=A6u (S4 p) p.2.2.1.length
def C51 (p:A6):A6:=B4D p (F0 p)
section
variable {p:A6} (hF:C5 p=true)
theorem A0J {x:Int}:x∈F0 p↔∃i:Nat,i < p.2.2.1.length∧(S4 p).getD i false=true∧x=(i:Int):=B8c
theorem B9U:∀j,j < (F0 p).length→0≤(F0 p).getD j 0∧(F0 p).getD j 0 < p.2.2.1.length:=fun j hj=>by
 obtain⟨i,h1,_,h3⟩:=A0J.1 (B9 (d:=(0:Int)) hj)
 omega
end
theorem B84 {p:A6} (hP:C7 p=true):KeepOk p (F0 p) where
 fits:=X9 (Z8 hP)
 n24:=(A8 (A9 hP).1).1
 k24:=by have h1:=(A8 (A9 hP).1).1;have h2:=A6M (S4 p) p.2.2.1.length;unfold F0;omega
 rng:=A5D B9U
 frs:=fun x hx=>by
  have h:=(L3 (A9 hP).1).2 x hx
  exact⟨by have:=h.2.1;omega,h.2.2.1⟩
 o4:=(A8 (A9 hP).1).2.1
 outs:=(A8 (A9 hP).1).2.2.2.2.2.1
def T1:List Int→Int→List Int
 | [],a=>[a]
 | x :: l, a => match decide (x < a) with
   | true=>x::T1 l a
   | false => match decide (x = a) with
     | true=>x::l
     | false=>a::x::l
theorem B36 {x a:Int}:∀{l:List Int},x∈T1 l a↔x=a∨x∈l:=by
 intro l
 induction l with
 | nil=>simp[T1]
 | cons y l ih =>
   unfold T1
   split
   · simp only[List.mem_cons,ih]
     constructor
     · rintro (h|h|h)
       · exact .inr (.inl h)
       · exact .inl h
       · exact .inr (.inr h)
     · rintro (h|h|h)
       · exact .inr (.inl h)
       · exact .inl h
       · exact .inr (.inr h)
   · split
     · rename_i h;have:=of_decide_eq_true h;subst this;simp
     · simp
theorem B4C {a:Int}:∀{l:List Int},l.Pairwise (· < ·)→(T1 l a).Pairwise (· < ·):=by
 intro l
 induction l with
 | nil=>intro _;simp[T1]
 | cons y l ih =>
   intro h;obtain⟨h1,h2⟩:=List.pairwise_cons.1 h
   unfold T1
   split
   · rename_i hy
     have hy:=of_decide_eq_true hy
     refine List.pairwise_cons.2 ⟨fun z hz=>?_,ih h2⟩
     rcases B36.1 hz with rfl|hz
     · exact hy
     · exact h1 z hz
   · rename_i hy
     have hy:=of_decide_eq_false hy
     split
     · exact h
     · rename_i he
       have he:=of_decide_eq_false he
       refine List.pairwise_cons.2 ⟨fun z hz=>?_,h⟩
       rcases List.mem_cons.1 hz with rfl|hz
       · omega
       · have:=h1 z hz;omega
theorem A8J {a:Int}:∀{l m:List Int},(∀x∈l,x < a)→T1 (l++m) a=l++T1 m a:=by
 intro l m
 induction l with
 | nil=>intro _;rfl
 | cons y l ih =>
   intro h;show T1 (y::(l++m)) a=y::(l++T1 m a)
   rw[←ih fun x hx=>h x (List.mem_cons_of_mem _ hx)]
   conv=>lhs;unfold T1
   rw[decide_eq_true (h y List.mem_cons_self)]
theorem C13 {a x:Int} {l:List Int} (h:a < x):T1 (x::l) a=a::x::l:=by unfold T1;rw[decide_eq_false (by omega),decide_eq_false (by omega)]
theorem B4E {a:Int} {l:List Int}:T1 (a::l) a=a::l:=by unfold T1;rw[decide_eq_false (by omega),decide_eq_true rfl]
theorem B4W {n:Nat} {l:List Int} (h:l.Pairwise (· < ·)) (hr:∀x∈l,0≤x∧x < n):l.length≤n:=B5d n l (h.imp fun hab=>by omega) hr
theorem C1V {p:A6} (hF:C5 p=true) {l:List Int} (hs:l.Pairwise (· < ·)) (hr:∀x∈l,0≤x∧x < p.2.2.1.length∧(S4 p).getD x.toNat false=true) (ho:∀x∈p.2.2.2,x∈l)
 (hc:∀x∈l,∀y∈(p.2.2.1.getD x.toNat n0).2.2.2,y∈l):l=F0 p:=by
 refine B5b hs (B2B _ _) fun x=>⟨fun hx=>?_,fun hx=>?_⟩
 · obtain⟨h1,h2,h3⟩:=hr x hx
   exact A0J.2 ⟨x.toNat,by omega,h3,by omega⟩
 · obtain⟨i,h1,h2,rfl⟩:=A0J.1 hx
   have hpos:∀x∈p.2.2.2,((x.toNat:Nat):Int)=x:=fun x hx=>by have:=I5 (A8 hF).2.2.2.2.2.1 hx;omega
   refine A35 hF (fun i=>(i:Int)∈l) (fun i hi h y hy=>?_) (fun y hy=>by rw[hpos y hy];exact ho y hy) i h2
   have hy0:=I5 (A2w hF i hi).2 hy
   have:=hc (i:Int) h y (by rw[Int.toNat_natCast];exact hy)
   rwa [show ((y.toNat:Nat):Int)=y by omega]
open Go.RowKit
open Go.RowKit
theorem A5y {xs:List Int} {k:Nat} (h:k < xs.length):xs.drop k=xs.getD k 0::xs.drop (k+1):=by
 rw[List.drop_eq_getElem_cons h];congr 1;simp[List.getD,h]
theorem C28 {xs:List Int} {m:Int} {k:Nat} (hk:k < xs.length) (hl:∀x∈xs.take k,x < m) (h:m < xs.getD k 0):(xs.take k++[m]++[xs.getD k 0])++xs.drop (k+1)=T1 xs m:=by
 have e:xs=xs.take k++xs.drop k:=(List.take_append_drop k xs).symm
 conv=>rhs;rw[e]
 rw[A8J hl,A5y hk,C13 h];simp
theorem C1W {xs:List Int} {m:Int} {k:Nat} (hk:k < xs.length) (hl:∀x∈xs.take k,x < m) (h:xs.getD k 0=m):(xs.take k++[xs.getD k 0])++xs.drop (k+1)=T1 xs m:=by
 have e:xs=xs.take k++xs.drop k:=(List.take_append_drop k xs).symm
 conv=>rhs;rw[e]
 rw[A8J hl,A5y hk,h,B4E];simp
theorem A9G {xs out y:List Int} {k:Nat} (hk:k < xs.length) (h:out++xs.drop k=y):(out++[xs.getD k 0])++xs.drop (k+1)=y:=by rw[←h,A5y hk];simp
theorem C2K {xs:List Int} {m:Int} (hl:∀x∈xs,x < m):xs++[m]=T1 xs m:=by
 have:=A8J (m:=[]) hl
 rw[List.append_nil] at this;rw[this];rfl
theorem B2I {xs:List Int} {m:Int} {k:Nat} (hk:k < xs.length) (hl:∀x∈xs.take k,x < m) (h:xs.getD k 0 < m):∀x∈xs.take (k+1),x < m:=fun x hx=>by
 rw[G7 (d:=0) hk,List.mem_append,List.mem_singleton] at hx
 rcases hx with hx|rfl
 · exact hl x hx
 · exact h
theorem A53 {xs ou:List Int} {m:Int} {dn:Bool} (hf:dn=false→ou=xs.take xs.length∧∀x∈xs.take xs.length,x < m) (h:dn=false):ou++[m]=T1 xs m:=by
 obtain⟨e,hl⟩:=hf h
 rw[List.take_of_length_le (Nat.le_refl _)] at e hl
 subst e;exact C2K hl
theorem A4b {xs ou:List Int} {m:Int} {dn:Bool} (ht:dn=true→ou++xs.drop xs.length=T1 xs m) (h:dn=true):ou=T1 xs m:=by
 have:=ht h
 rwa [List.drop_of_length_le (Nat.le_refl _),List.append_nil] at this
theorem C0s {a:Int}:∀{l:List Int},l.Pairwise (· < ·)→a∈l→T1 l a=l:=by
 intro l
 induction l with
 | nil=>intro _ h;cases h
 | cons y l ih =>
   intro hs h
   obtain⟨h1,h2⟩:=List.pairwise_cons.1 hs
   rcases List.mem_cons.1 h with rfl|h
   · exact B4E
   · have:=h1 a h
     unfold T1;rw[decide_eq_true this,ih h2 h]
theorem A8Q {a:Int}:∀{l:List Int},l.length≤(T1 l a).length∧(T1 l a).length≤l.length+1:=by
 intro l
 induction l with
 | nil=>simp[T1]
 | cons y l ih =>
   unfold T1
   split
   · simp only[List.length_cons];omega
   · split<;>simp
theorem B7E {a:Int}:∀{l:List Int},a ∉ l→(T1 l a).length=l.length+1:=by
 intro l
 induction l with
 | nil=>intro _;rfl
 | cons y l ih =>
   intro h;simp only[List.mem_cons,not_or] at h
   unfold T1
   split
   · simp only[List.length_cons,ih h.2]
   · split
     · rename_i e;exact absurd (of_decide_eq_true e).symm h.1
     · simp
def N6 (l m:List Int):List Int:=m.foldl T1 l
theorem B5N (l m:List Int) (x:Int):N6 l (m++[x])=T1 (N6 l m) x:=by simp[N6,List.foldl_append]
theorem A7d {l m:List Int} {k:Nat} (h:k < m.length):N6 l (m.take (k+1))=T1 (N6 l (m.take k)) (m.getD k 0):=by rw[G7 (d:=0) h,B5N]
theorem B2b:∀{m l:List Int},l.Pairwise (· < ·)→(N6 l m).Pairwise (· < ·)∧(∀x,x∈N6 l m↔x∈l∨x∈m)∧l.length≤(N6 l m).length∧((N6 l m).length≤l.length→N6 l m=l):=by
 intro m
 induction m with
 | nil=>intro l h;exact⟨h,fun x=>by simp[N6],Nat.le_refl _,fun _=>rfl⟩
 | cons a m ih =>
   intro l h
   obtain⟨i1,i2,i3,i4⟩:=ih (B4C (a:=a) h)
   have hl:=A8Q (a:=a) (l:=l)
   refine⟨i1,fun x=>?_,Nat.le_trans hl.1 i3,fun hle=>?_⟩
   · show x∈N6 (T1 l a) m↔_
     rw[i2,B36,List.mem_cons]
     constructor
     · rintro ((h|h)|h)
       · exact .inr (.inl h)
       · exact .inl h
       · exact .inr (.inr h)
     · rintro (h|h|h)
       · exact .inl (.inr h)
       · exact .inl (.inl h)
       · exact .inr h
   · have hle:(N6 (T1 l a) m).length≤l.length:=hle
     have hin:a∈l:=by
      apply Classical.byContradiction
      intro hc;have:=B7E hc
      omega
     show N6 (T1 l a) m=l
     rw[C0s h hin] at i4 hle ⊢
     exact i4 hle
def x4 (ns:List A4) (out:List Int):Nat→List Int
 | 0=>out
 | k+1=>N6 (x4 ns out k) (ns.getD (out.getD k 0).toNat n0).2.2.2
theorem B1t {ns:List A4} {out:List Int} (h:out.Pairwise (· < ·)):∀k,(x4 ns out k).Pairwise (· < ·)∧(∀x,x∈x4 ns out k↔x∈out∨∃i,i < k∧x∈(ns.getD (out.getD i 0).toNat n0).2.2.2)∧out.length≤(x4 ns out k).length∧((x4 ns out k).length≤out.length→x4 ns out k=out):=by
 intro k
 induction k with
 | zero=>exact⟨h,fun x=>by simp[x4],Nat.le_refl _,fun _=>rfl⟩
 | succ k ih =>
   obtain⟨i1,i2,i3,i4⟩:=ih;obtain⟨j1,j2,j3,j4⟩:=B2b (m:=(ns.getD (out.getD k 0).toNat n0).2.2.2) i1
   refine⟨j1,fun x=>?_,Nat.le_trans i3 j3,fun hle=>?_⟩
   · show x∈N6 _ _↔_
     rw[j2,i2]
     constructor
     · rintro ((h|⟨i,hi,h⟩)|h)
       · exact .inl h
       · exact .inr ⟨i,by omega,h⟩
       · exact .inr ⟨k,by omega,h⟩
     · rintro (h|⟨i,hi,h⟩)
       · exact .inl (.inl h)
       · rcases Nat.lt_succ_iff_lt_or_eq.1 hi with hi|rfl
         · exact .inl (.inr ⟨i,hi,h⟩)
         · exact .inr h
   · have hle:(N6 (x4 ns out k) (ns.getD (out.getD k 0).toNat n0).2.2.2).length≤out.length:=hle
     have e:=i4 (by omega)
     show N6 (x4 ns out k) _=out
     rw[e] at j4 ⊢
     exact j4 (by rw[e] at hle;exact hle)
structure NOk (p:A6) (l:List Int):Prop where
 srt:l.Pairwise (· < ·)
 rng:∀x∈l,0≤x∧x < p.2.2.1.length∧(S4 p).getD x.toNat false=true
 outs:∀x∈p.2.2.2,x∈l
def B0b (p:A6) (l:List Int):Prop:=∀x∈l,∀y∈(p.2.2.1.getD x.toNat n0).2.2.2,y∈l
theorem NOk.fin {p:A6} (hF:C5 p=true) {l:List Int} (h:NOk p l) (hc:B0b p l):l=F0 p:=C1V hF h.srt h.rng h.outs hc
theorem NOk.len {p:A6} {l:List Int} (h:NOk p l):l.length≤p.2.2.1.length:=B4W h.srt fun x hx=>by have:=h.rng x hx;exact⟨this.1,this.2.1⟩
theorem B9c {p:A6} (hF:C5 p=true):NOk p (N6 [] p.2.2.2):=by
 obtain⟨h1,h2,_⟩:=B2b (m:=p.2.2.2) (l:=[]) List.Pairwise.nil
 refine⟨h1,fun x hx=>?_,fun x hx=>(h2 x).2 (.inr hx)⟩
 rcases (h2 x).1 hx with h|h
 · cases h
 · have:=I5 (A8 hF).2.2.2.2.2.1 h
   exact⟨this.1,by omega,A5q hF h⟩
theorem B8I {p:A6} (hF:C5 p=true) (k:Nat):(N6 [] (p.2.2.2.take k)).length≤4:=by
 have:∀m:List Int,(N6 [] m).length≤m.length:=by
  intro m
  have key:∀(m l:List Int),(N6 l m).length≤l.length+m.length:=by
   intro m
   induction m with
   | nil=>intro l;simp[N6]
   | cons a m ih=>intro l;have:=ih (T1 l a);have h2:=A8Q (a:=a) (l:=l);show (N6 (T1 l a) m).length≤_;simp only[List.length_cons];omega
  simpa using key m []
 have h1:=this (p.2.2.2.take k)
 have h2:=(A8 hF).2.1
 rw[List.length_take] at h1;omega
theorem B73 {p:A6} (hF:C5 p=true) {l:List Int} (h:NOk p l) {k:Nat} (hk:k≤l.length):NOk p (x4 p.2.2.1 l k):=by
 obtain⟨h1,h2,_⟩:=B1t (ns:=p.2.2.1) h.srt k
 refine⟨h1,fun x hx=>?_,fun x hx=>(h2 x).2 (.inl (h.outs x hx))⟩
 rcases (h2 x).1 hx with hx|⟨i,hi,hx⟩
 · exact h.rng x hx
 · obtain⟨r1,r2,r3⟩:=h.rng _ (B9 (d:=(0:Int)) (show i < l.length by omega))
   have:=I5 (A2w hF _ (show (l.getD i 0).toNat < p.2.2.1.length by omega)).2 hx
   exact⟨this.1,by omega,Z5 hF (by omega) r3 hx⟩
theorem B9j {p:A6} (hF:C5 p=true) {l:List Int} (h:NOk p l) {k j:Nat} (hk:k < l.length):(N6 (x4 p.2.2.1 l k) ((p.2.2.1.getD (l.getD k 0).toNat n0).2.2.2.take j)).length≤p.2.2.1.length+3:=by
 have key:∀(m l:List Int),(N6 l m).length≤l.length+m.length:=by
  intro m
  induction m with
  | nil=>intro l;simp[N6]
  | cons a m ih=>intro l;have:=ih (T1 l a);have h2:=A8Q (a:=a) (l:=l);show (N6 (T1 l a) m).length≤_;simp only[List.length_cons];omega
 have h1:=key ((p.2.2.1.getD (l.getD k 0).toNat n0).2.2.2.take j) (x4 p.2.2.1 l k)
 have h2:=(B73 hF h (k:=k) (by omega)).len
 obtain⟨r1,r2,_⟩:=h.rng _ (B9 (d:=(0:Int)) hk)
 have h3:=(A2w hF _ (show (l.getD k 0).toNat < p.2.2.1.length by omega)).1
 rw[List.length_take] at h1;omega
theorem B92 {p:A6} {l:List Int} (h:NOk p l) (hl:(x4 p.2.2.1 l l.length).length≤l.length):B0b p (x4 p.2.2.1 l l.length):=by
 obtain⟨_,h2,_,h4⟩:=B1t (ns:=p.2.2.1) h.srt l.length
 have e:=h4 hl
 intro x hx y hy
 rw[e] at hx;obtain⟨i,hi,rfl⟩:=List.mem_iff_getElem.1 hx
 refine(h2 y).2 (.inr ⟨i,hi,?_⟩)
 have:l.getD i 0=l[i]:=by simp[List.getD,hi]
 rw[this];exact hy
open Go.RowKit
theorem B9R {ns:List A4} {l:List Int} {k:Nat} {F:List Int} (hF:F=(ns.getD (l.getD k 0).toNat n0).2.2.2) {j:Nat} (hj:F.length≤j):N6 (x4 ns l k) (F.take j)=x4 ns l (k+1):=by
 rw[List.take_of_length_le hj,hF];rfl
open Go.RowKit
end Go.Proofs.YtflobmmbhaofbaaGreat
