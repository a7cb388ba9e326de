/-
  Texts of this claim, joined (part 21). No condition beyond those of the theorems.
-/
import Derived.Test.YtgaogcnfijbahaaGreatQ18
namespace Go.Proofs.YtgaogcnfijbahaaGreat
open Go.RowKit
set_option linter.unusedSimpArgs false
set_option linter.unusedVariables false
/-! The response, by powers of the matrix. -/
theorem B9R {a b:List Int} {j:Nat} (h:j < a.length):(B2J a b).getD j 0=wrap32 (a.getD j 0+b.getD j 0):=W0 _ h
theorem A8V (r:List Int) (n k:Nat):n9 r (Q4 n) k=0:=by
 rw[r9,B19 fun i _=>by rw[A0C,Int.mul_zero],j9]
theorem B5X (r:List Int) {n i:Nat} (hi:i < n):n9 r (L4 n i) n=wrap32 (r.getD i 0):=by
 rw[r9]
 congr 1
 rw[G5 (g:=fun x=>r.getD x 0 * (if i=x then 1 else 0)) fun x _=>by rw[A8m hi]]
 exact B97 (fun x=>r.getD x 0) hi
section
variable {x:b9} {n:Nat} (h:linW x n) {i:Int} (hi:i.toNat < x.1.toNat)
include h
theorem C6i {s f:List Int} {j:Nat} (hj:j < n):(A4u x s f).1.getD j 0=wrap32 (n9 (x.2.1.getD j []) s s.length+n9 (x.2.2.1.getD j []) f f.length):=by
 simp only[A4u];rw[B9R (by rw[A2R,h.a.1];exact hj),A0S (by rw[h.a.1];exact hj),A0S (by rw[h.b.1];exact hj)]
theorem C6R {s f:List Int} {j:Nat} (hj:j < x.2.2.2.1.length):(A4u x s f).2.getD j 0=wrap32 (n9 (x.2.2.2.1.getD j []) s s.length+n9 (x.2.2.2.2.getD j []) f f.length):=by
 simp only[A4u];rw[B9R (by rw[A2R];exact hj),A0S hj,A0S (by rw[h.d.1];exact hj)]
include hi
theorem C7s (t:Nat):∀j,j < n→(A8I x i (t+1)).getD j 0=wrap32 (pW n (mF x.2.1) (fun j=>(x.2.2.1.getD j []).getD i.toNat 0) j t):=by
 induction t with
 | zero =>
   intro j hj
   simp only[A8I,A8A];rw[C6i h hj,A8V,(M4 _ _).1,B5X _ hi,Int.zero_add,A4j]
   rfl
 | succ t ih =>
   intro j hj
   have e:A8I x i (t+1+1)=(A4u x (A8I x i (t+1)) (A8A x i (t+1))).1:=rfl
   rw[e,C6i h hj];have hz:n9 (x.2.2.1.getD j []) (A8A x i (t+1)) (A8A x i (t+1)).length=0:=A8V _ _ _
   rw[hz,Int.add_zero,A68,h.a.1,r9,A4j];show _=wrap32 (sg (fun l=>mF x.2.1 j l * pW n (mF x.2.1) (fun j=>(x.2.2.1.getD j []).getD i.toNat 0) l t) n)
   exact A00 fun l hl=>by rw[ih l hl,i7];rfl
theorem B4N (t:Nat) {o:Nat} (ho:o < x.2.2.2.1.length):(A4m x i (t+1)).getD o 0=wrap32 (sg (fun l=>(x.2.2.2.1.getD o []).getD l 0 * pW n (mF x.2.1) (fun j=>(x.2.2.1.getD j []).getD i.toNat 0) l t) n):=by
 simp only[A4m];rw[C6R h ho];have hz:n9 (x.2.2.2.2.getD o []) (A8A x i (t+1)) (A8A x i (t+1)).length=0:=A8V _ _ _
 rw[hz,Int.add_zero,A68,h.a.1,r9,A4j];exact A00 fun l hl=>by rw[C7s h hi t l hl,i7]
theorem C7x {o:Int} (ho:o.toNat < x.2.2.2.1.length) {m k:Nat} (hk:n≤k) (hm:k+1 < m):wrap32 (pm (cf (chN x.2.1 n)) (cf (m9 x i o m)) (k+1))=0:=by
 have e1:wrap32 (pm (cf (chN x.2.1 n)) (cf (m9 x i o m)) (k+1))=wrap32 (sg (fun y=>pQ n (mF x.2.1) y * sg (fun l=>(x.2.2.2.1.getD o.toNat []).getD l 0 * pW n (mF x.2.1) (fun j=>(x.2.2.1.getD j []).getD i.toNat 0) l (k - y)) n) (k+1)):=by
  unfold pm
  rw[show sg (fun y=>cf (chN x.2.1 n) y * cf (m9 x i o m) (k+1 - y)) (k+1+1)=sg (fun y=>cf (chN x.2.1 n) y * cf (m9 x i o m) (k+1 - y)) (k+1) by
   simp only[sg];have hz:cf (chN x.2.1 n) (k+1)=0:=D7 (by rw[A0F];omega)
   rw[hz];simp]
  refine A00 fun y hy=>?_
  have c1:cf (chN x.2.1 n) y=wrap32 (pQ n (mF x.2.1) y):=C2o _ _ _
  have c2:cf (m9 x i o m) (k+1 - y)=wrap32 (sg (fun l=>(x.2.2.2.1.getD o.toNat []).getD l 0 * pW n (mF x.2.1) (fun j=>(x.2.2.1.getD j []).getD i.toNat 0) l (k - y)) n):=by
   unfold cf m9;rw[W0 _ (by omega),show k+1 - y=(k - y)+1 by omega]
   exact B4N h hi _ ho
  rw[c1,c2,C32,i7]
 rw[e1];have e2:sg (fun y=>pQ n (mF x.2.1) y * sg (fun l=>(x.2.2.2.1.getD o.toNat []).getD l 0 * pW n (mF x.2.1) (fun j=>(x.2.2.1.getD j []).getD i.toNat 0) l (k - y)) n) (k+1)=pm (pQ n (mF x.2.1)) (fun m=>sg (fun l=>(x.2.2.2.1.getD o.toNat []).getD l 0 * pW n (mF x.2.1) (fun j=>(x.2.2.1.getD j []).getD i.toNat 0) l m) n) k:=rfl
 rw[e2,B8V,B19 fun l hl=>by rw[ch n _ _ hl hk,Int.mul_zero],j9]
end
theorem A8X {x:b9} (h:linW x x.2.1.length) {i o:Int} (hi:i.toNat < x.1.toNat) (ho:o.toNat < x.2.2.2.1.length) {m t:Nat} (ht:t < m):wrap32 (pm (cf (M7 x i o).2) (cf (m9 x i o m)) t)=(M7 x i o).1.getD t 0:=by
 have hd:cf (M7 x i o).2=cf (chN x.2.1 x.2.1.length):=funext fun j=>A0k _ _
 rw[hd];simp only[M7];rw[A0k,A5v]
 by_cases c:t < x.2.1.length+1
 · rw[if_pos c]
   congr 1
   refine G5 fun y hy=>?_
   unfold cf m9;rw[W0 _ (by omega),W0 _ (by omega)]
 · rw[if_neg c];obtain⟨k,rfl⟩:∃k,t=k+1:=⟨t - 1,by omega⟩
   exact C7x h hi ho (by omega) ht
def i9 (a b:TrD):Bool:=decide (m7 a.1 b.2=m7 b.1 a.2)
def A30 (p:List Int):Bool:=decide (1≤p.length) && decide (p.length≤65) && D9 p && (decide (p.length=1) || decide (¬p.getD (p.length - 1) 0=0))
def trB (t:TrD):Bool:=A30 t.1 && A30 t.2 && decide (t.2.getD 0 0=1)
theorem A94 {l:List Int} (h:l.length≤65) (hs:D9 l=true):A30 (U2 l)=true:=by
 have h1:=A6x l
 have h2:=C0n hs
 unfold A30;rw[decide_eq_true h1.1,decide_eq_true (show (U2 l).length≤65 by omega),h2]
 rcases B71 l with h|h
 · rw[decide_eq_true h];rfl
 · rw[decide_eq_true h];simp
theorem A88 {p:List Int} (h:A30 p=true):1≤p.length∧p.length≤65∧D9 p=true:=by
 unfold A30 at h;simp only[Bool.and_eq_true,decide_eq_true_eq] at h
 exact⟨h.1.1.1,h.1.1.2,h.1.2⟩
theorem B9M {x:b9} (h:x.2.1.length≤24) (i o:Int):trB (M7 x i o)=true:=by
 unfold trB M7;have hd:(U2 (chN x.2.1 x.2.1.length)).getD 0 0=1:=by rw[A0k,C2J]
 simp only[hd];rw[A94 (by rw[a9];omega) (C1H _ _ _),A94 (by rw[A0F];omega) (C5a _ _)]
 rfl
theorem B8o {t:TrD} (h:trB t=true):(1≤t.1.length∧t.1.length≤65∧D9 t.1=true)∧(1≤t.2.length∧t.2.length≤65∧D9 t.2=true)∧t.2.getD 0 0=1:=by
 unfold trB at h;simp only[Bool.and_eq_true,decide_eq_true_eq] at h
 exact⟨A88 h.1.1,A88 h.1.2,h.2⟩
def A7J (p q:A3):Bool × Int:=match decide (O8 [p,q]=0) with
 | false=>(false,O8 [p,q])
 | true=>((List.range p.1.toNat).all fun i=>(List.range p.2.2.2.length).all fun o=>i9 (M7 (F6 (D0 p)) (i:Int) (o:Int)) (M7 (F6 (D0 q)) (i:Int) (o:Int)),0)
theorem C2k {p q:A3} (h:¬O8 [p,q]=0):A7J p q=(false,O8 [p,q]):=by unfold A7J;rw[decide_eq_false h]
theorem C4N {p q:A3} (h:O8 [p,q]=0) {x y:b9} (hx:F6 (D0 p)=x) (hy:F6 (D0 q)=y) {i o:Nat} (hi:i < p.1.toNat) (ho:o < p.2.2.2.length) (e:i9 (M7 x (i:Int) (o:Int)) (M7 y (i:Int) (o:Int))=false):A7J p q=(false,0):=by
 unfold A7J;rw[decide_eq_true h,hx,hy];simp only[Prod.mk.injEq,and_true]
 exact List.all_eq_false.2 ⟨i,List.mem_range.2 hi,by
  intro hh;have:=List.all_eq_true.1 hh o (List.mem_range.2 ho)
  rw[e] at this;cases this⟩
theorem B5w {p q:A3} (h:O8 [p,q]=0) {x y:b9} (hx:F6 (D0 p)=x) (hy:F6 (D0 q)=y) (e:∀i,i < p.1.toNat→∀o,o < p.2.2.2.length→i9 (M7 x (i:Int) (o:Int)) (M7 y (i:Int) (o:Int))=true):A7J p q=(true,0):=by
 unfold A7J;rw[decide_eq_true h,hx,hy];simp only[Prod.mk.injEq,and_true];exact List.all_eq_true.2 fun i hi=>List.all_eq_true.2 fun o ho=>e i (List.mem_range.1 hi) o (List.mem_range.1 ho)
theorem A1k (p q:A3):O8 [p,q]=match B9 p && B9 q with
 | false=>1
 | true => match W7 p && W7 q && decide (p.1 = q.1) && decide (p.2.2.2.length = q.2.2.2.length) with
   | false=>6
   | true => match decide (A1I p ≤ 24) && decide (A1I q ≤ 24) with
     | false=>5
     | true=>0:=by
 unfold O8
 have e:[p,q].all (Z6 [p,q])=(W7 p && W7 q && decide (p.1=q.1) && decide (p.2.2.2.length=q.2.2.2.length)):=by
  simp only[List.all_cons,List.all_nil,Z6,List.getD_cons_zero,decide_true,Bool.and_true];rw[Bool.eq_iff_iff];simp only[Bool.and_eq_true,decide_eq_true_eq]
  constructor
  · rintro⟨h1,⟨h2,h3⟩,h4⟩;exact⟨⟨⟨h1,h2⟩,h3.symm⟩,h4.symm⟩
  · rintro⟨⟨⟨h1,h2⟩,h3⟩,h4⟩;exact⟨h1,⟨h2,h3.symm⟩,h4.symm⟩
 rw[e]
 first
  | (simp only[List.all_cons,List.all_nil,Bool.and_true];done)
  | (simp only[List.all_cons,List.all_nil,Bool.and_true];rfl)
theorem C8f {p q:A3} (h:(B9 p && B9 q)=false):O8 [p,q]=1:=by rw[A1k,h]
theorem C95 {p q:A3} (h:(B9 p && B9 q)=true) (k:(W7 p && W7 q && decide (p.1=q.1) && decide (p.2.2.2.length=q.2.2.2.length))=false):O8 [p,q]=6:=by rw[A1k,h,k]
structure two (p q:A3):Prop where
 ok:B9 p=true
 ok':B9 q=true
 lp:W7 p=true
 lq:W7 q=true
 i:p.1=q.1
 o:p.2.2.2.length=q.2.2.2.length
theorem C1c {p q:A3} (h:(B9 p && B9 q)=true) (k:(W7 p && W7 q && decide (p.1=q.1) && decide (p.2.2.2.length=q.2.2.2.length))=true):two p q:=by
 simp only[Bool.and_eq_true,decide_eq_true_eq] at h k
 exact⟨h.1,h.2,k.1.1.1,k.1.1.2,k.1.2,k.2⟩
theorem A7m {p:A3} (hP:B9 p=true) (hl:W7 p=true):(J1 p=0↔A1I p≤24)∧(J1 p=0∨J1 p=5):=by
 rw[C0U]
 by_cases h:24 < B7 (D0 p).2.2.1
 · rw[A4a hP hl h];exact⟨⟨fun e=>(by cases e),fun e=>by omega⟩,Or.inr rfl⟩
 · rw[B1m hP hl (by omega)];exact⟨⟨fun _=>by omega,fun _=>rfl⟩,Or.inl rfl⟩
theorem C8D {p q:A3} (h:two p q) (k:¬(J1 p=0∧J1 q=0)):O8 [p,q]=5:=by
 rw[A1k,h.ok,h.ok',h.lp,h.lq,decide_eq_true h.i,decide_eq_true h.o]
 have h1:=(A7m h.ok h.lp).1
 have h2:=(A7m h.ok' h.lq).1
 by_cases c:A1I p≤24
 · rw[decide_eq_true c,decide_eq_false (fun d=>k ⟨h1.2 c,h2.2 d⟩)];rfl
 · rw[decide_eq_false c];rfl
theorem C87 {p q:A3} (h:two p q) (k:J1 p=0) (l:J1 q=0):O8 [p,q]=0:=by
 rw[A1k,h.ok,h.ok',h.lp,h.lq,decide_eq_true h.i,decide_eq_true h.o,decide_eq_true ((A7m h.ok h.lp).1.1 k),decide_eq_true ((A7m h.ok' h.lq).1.1 l)]
 rfl
theorem C4K {p q:A3} (h:O8 [p,q]=0):two p q∧linOkP p∧linOkP q:=by
 rw[A1k] at h;cases a:(B9 p && B9 q) with
 | false=>rw[a] at h;cases h
 | true =>
   rw[a] at h;cases b:(W7 p && W7 q && decide (p.1=q.1) && decide (p.2.2.2.length=q.2.2.2.length)) with
   | false=>rw[b] at h;cases h
   | true =>
     rw[b] at h;cases c:(decide (A1I p≤24) && decide (A1I q≤24)) with
     | false=>rw[c] at h;cases h
     | true =>
       simp only[Bool.and_eq_true,decide_eq_true_eq] at c
       have t:=C1c a b
       exact⟨t,B5u ((A7m t.ok t.lp).1.2 c.1),B5u ((A7m t.ok' t.lq).1.2 c.2)⟩
end Go.Proofs.YtgaogcnfijbahaaGreat
