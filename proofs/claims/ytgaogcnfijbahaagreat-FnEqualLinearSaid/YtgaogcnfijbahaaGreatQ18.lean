/-
  Texts of this claim, joined (part 18). No condition beyond those of the theorems.
-/
import Derived.Test.YtgaogcnfijbahaaGreatQ17
import Derived.Test.YtgaogcnfijbahaaGreatQ04
import Derived.Test.YtgaogcnfijbahaaGreatQ15
namespace Go.Proofs.YtgaogcnfijbahaaGreat
open Go.RowKit
set_option linter.unusedSimpArgs false
set_option linter.unusedVariables false
def A2M (R:List (List Int)) (v:List Int):List Int:=(List.range R.length).map fun i=>n9 (R.getD i []) v v.length
def B2J (a b:List Int):List Int:=(List.range a.length).map fun i=>wrap32 (a.getD i 0+b.getD i 0)
theorem A2R (R:List (List Int)) (v:List Int):(A2M R v).length=R.length:=by simp[A2M]
theorem C2e (a b:List Int):(B2J a b).length=a.length:=by simp[B2J]
theorem A0S {R:List (List Int)} {v:List Int} {i:Nat} (h:i < R.length):(A2M R v).getD i 0=n9 (R.getD i []) v v.length:=W0 _ h
def A4u (x:b9) (s f:List Int):List Int × List Int:=(B2J (A2M x.2.1 s) (A2M x.2.2.1 f),B2J (A2M x.2.2.2.1 s) (A2M x.2.2.2.2 f))
def A47 (R:List (List Int)) (m n:Nat):Prop:=R.length=m∧∀i,i < m→(R.getD i []).length=n∧D9 (R.getD i [])=true
structure linW (x:b9) (n:Nat):Prop where
 a:A47 x.2.1 n n
 b:A47 x.2.2.1 n x.1.toNat
 c:A47 x.2.2.2.1 x.2.2.2.1.length n
 d:A47 x.2.2.2.2 x.2.2.2.1.length x.1.toNat
 i0:0≤x.1
 i4:x.1≤4
theorem B8c {x:b9} {n:Nat} (h:linW x n) {s f:List Int} (hs:s.length=n) (hf:f.length=x.1.toNat):A4u x s f=(apM x.2.1 x.2.2.1 s f,apM x.2.2.2.1 x.2.2.2.2 s f):=by
 have key:∀R S:List (List Int),∀m,A47 R m n→A47 S m x.1.toNat→B2J (A2M R s) (A2M S f)=apM R S s f:=fun R S m h1 h2=>by
  unfold B2J apM;rw[A2R];refine List.map_congr_left fun i hi=>?_
  have hi:i < R.length:=List.mem_range.1 hi
  rw[A0S hi,A0S (by rw[h2.1,←h1.1];exact hi),(h1.2 i (by rw[←h1.1];exact hi)).1,(h2.2 i (by rw[←h1.1];exact hi)).1,hs,hf]
 unfold A4u;rw[key _ _ _ h.a h.b,key _ _ _ h.c h.d]
theorem A8d {f:Nat→List Int} {m n:Nat} (h:∀j,j < n→(f j).length=m∧D9 (f j)=true):A47 (A1J f m n) m n:=by
 refine⟨A6W _ _ _,fun i hi=>?_⟩
 rw[B8O hi];refine⟨by simp,G4.2 fun z hz=>?_⟩
 obtain⟨j,hj,rfl⟩:=List.mem_map.1 hz
 have hj:=List.mem_range.1 hj
 obtain⟨h1,h2⟩:=h j hj
 exact G4.1 h2 _ (D6 (by omega))
theorem B5C {q:A3} (hF:C0 q=true) {c fr:List Int} (hc:c.length=B7 q.2.2.1) (hs:D9 c=true) (hf:D9 fr=true):D9 (S8 q c fr).1=true∧D9 (S8 q c fr).2=true:=by
 have hS:=A6f (q:=q) hc hs
 have hv:=a6 hF hS hf
 refine⟨G4.2 fun z hz=>?_,G4.2 fun z hz=>?_⟩
 · obtain⟨l,hl,hz⟩:=List.mem_flatten.1 hz
   have hn:=B08 hF hS hf hv
   obtain⟨i,hi,rfl⟩:=List.mem_iff_getElem.1 hl
   have hi':i < q.2.2.1.length:=by rw[←hn.1];exact hi
   have h2:=(hn.2 i hi').2
   have e:(S6 q (O6 q.2.2.1 c) fr (E8 q (O6 q.2.2.1 c) fr)).getD i []=(S6 q (O6 q.2.2.1 c) fr (E8 q (O6 q.2.2.1 c) fr))[i]:=by simp[List.getD,hi]
   rw[e] at h2;exact G4.1 h2 _ hz
 · simp only[S8,J4,List.mem_map] at hz
   obtain⟨i,hi,rfl⟩:=hz;exact Y8 hv.2 _
theorem A7i {q:A3} (hF:C0 q=true):linW (F6 q) (B7 q.2.2.1):=by
 have hi:=(A8 hF).2.2.2
 have hu:∀n j,(L4 n j).length=n∧D9 (L4 n j)=true:=M4
 have hz:=W4
 have s1:∀j,(stC q j).1.length=B7 q.2.2.1∧(stC q j).2.length=q.2.2.2.length:=fun j=>x4 hF (hu _ _).1 (hu _ _).2 (hz _).2
 have s2:∀j,(inC q j).1.length=B7 q.2.2.1∧(inC q j).2.length=q.2.2.2.length:=fun j=>x4 hF (hz _).1 (hz _).2 (hu _ _).2
 have t1:∀j,D9 (stC q j).1=true∧D9 (stC q j).2=true:=fun j=>B5C hF (hu _ _).1 (hu _ _).2 (hz _).2
 have t2:∀j,D9 (inC q j).1=true∧D9 (inC q j).2=true:=fun j=>B5C hF (hz _).1 (hz _).2 (hu _ _).2
 have ho:(F6 q).2.2.2.1.length=q.2.2.2.length:=A6W _ _ _
 refine⟨A8d fun j _=>⟨(s1 j).1,(t1 j).1⟩,A8d fun j _=>⟨(s2 j).1,(t2 j).1⟩,?_,?_,hi.1,hi.2.1⟩
 · rw[ho];exact A8d fun j _=>⟨(s1 j).2,(t1 j).2⟩
 · rw[ho];exact A8d fun j _=>⟨(s2 j).2,(t2 j).2⟩
def A8A (x:b9) (i:Int):Nat→List Int
 | 0=>L4 x.1.toNat i.toNat
 | _+1=>Q4 x.1.toNat
def A8I (x:b9) (i:Int):Nat→List Int
 | 0=>Q4 x.2.1.length
 | t+1=>(A4u x (A8I x i t) (A8A x i t)).1
def A4m (x:b9) (i:Int) (t:Nat):List Int:=(A4u x (A8I x i t) (A8A x i t)).2
def m9 (x:b9) (i o:Int) (n:Nat):List Int:=(List.range n).map fun t=>(A4m x i t).getD o.toNat 0
theorem B4x (x:b9) (i o:Int) (n:Nat):(m9 x i o n).length=n:=by simp[m9]
theorem B4k (x:b9) (i:Int) (t:Nat):(A8A x i t).length=x.1.toNat:=by
 cases t with
 | zero=>exact(M4 _ _).1
 | succ t=>exact(W4 _).1
theorem A68 (x:b9) (i:Int) (t:Nat):(A8I x i t).length=x.2.1.length:=by
 cases t with
 | zero=>exact(W4 _).1
 | succ t=>simp only[A8I,A4u];rw[C2e,A2R]
theorem C2R (a b:List Int):D9 (B2J a b)=true:=G4.2 fun z hz=>by
 simp only[B2J,List.mem_map] at hz
 obtain⟨i,_,rfl⟩:=hz;exact A1r _
theorem B4o (x:b9) (i o:Int) (n:Nat):D9 (m9 x i o n)=true:=G4.2 fun z hz=>by
 simp only[m9,List.mem_map] at hz
 obtain⟨t,_,rfl⟩:=hz;exact Y8 (C2R _ _) _
abbrev TrD:=List Int × List Int
def M7 (x:b9) (i o:Int):TrD:=(U2 (t7 (chN x.2.1 x.2.1.length) (m9 x i o (x.2.1.length+1)) (x.2.1.length+1)),U2 (chN x.2.1 x.2.1.length))
/-! A patch's render is its system's. -/
theorem C4G:∀{ns:List A6} {s:List (List Int)},s.length=ns.length→(∀i,i < ns.length→(s.getD i []).length=(D4 (ns.getD i n0)).length)→O6 ns s.flatten=s:=by
 intro ns
 induction ns with
 | nil=>intro s h _;rw[List.eq_nil_of_length_eq_zero h];rfl
 | cons n ns ih =>
   intro s h hl
   cases s with
   | nil=>simp at h
   | cons a s =>
     have h0:a.length=(D4 n).length:=hl 0 (by simp)
     simp only[List.flatten_cons,O6];rw[←h0,List.take_left',List.drop_left']
     · rw[ih (by simpa using h) fun i hi=>hl (i+1) (by simpa using hi)]
     · rfl
     · rfl
theorem B9s {q:A3} {s:List (List Int)} (h:U3 q s):O6 q.2.2.1 s.flatten=s:=C4G h.1 fun i hi=>(h.2 i hi).1
def A1a (n:Nat) (i:Int):List (List Int):=(List.replicate n []).set i.toNat [1]
theorem B4D (n:Nat) (i:Int):(A1a n i).length=n:=by simp[A1a]
theorem B9N {n:Nat} {i:Int} (j:Nat):(A1a n i).getD j []=if i.toNat=j∧j < n then [1] else []:=by
 unfold A1a
 have hr:∀j,(List.replicate n ([]:List Int)).getD j []=[]:=fun j=>by
  by_cases h:j < n
  · simp[List.getD,h]
  · exact D7 (by simp;omega)
 by_cases h:i.toNat < n
 · rw[N1 (by simpa using h),hr]
   by_cases e:i.toNat=j
   · rw[if_pos e,if_pos ⟨e,by omega⟩]
   · rw[if_neg e,if_neg (fun z=>e z.1)]
 · rw[List.set_eq_of_length_le (by simp;omega),hr,if_neg (by omega)]
theorem A4f {q:A3} (h0:0≤q.1) (i:Int):J9 q (A1a q.1.toNat i):=by
 refine⟨by rw[B4D];omega,fun a ha=>?_⟩
 obtain⟨j,hj,rfl⟩:=List.mem_iff_getElem.1 ha
 have e:(A1a q.1.toNat i)[j]=(A1a q.1.toNat i).getD j []:=by simp[List.getD,hj]
 rw[e,B9N]
 split
 · exact⟨by simp,rfl⟩
 · exact⟨by simp,rfl⟩
theorem A8w {n:Nat} {i:Int} (hi:i.toNat < n) (t:Nat):C7 (A1a n i) (t:Int)=match t with|0=>L4 n i.toNat|_+1=>Q4 n:=by
 refine P0 (by cases t<;>simp[C7,A1a,L4,Q4]) fun j=>?_
 by_cases hj:j < n
 · rw[A2l (by rw[B4D];exact hj),B9N,Int.toNat_natCast]
   cases t with
   | zero =>
     simp only
     rw[A8m hi]
     by_cases e:i.toNat=j
     · rw[if_pos ⟨e,hj⟩,if_pos e];rfl
     · rw[if_neg (fun z=>e z.1),if_neg e];rfl
   | succ t =>
     simp only
     rw[A0C]
     split
     · exact D7 (by simp)
     · rfl
 · rw[D7 (by simp[C7,A1a];omega),D7 (by cases t<;>simp[L4,Q4]<;>omega)]
theorem B5H {n:A6} (hk:B1A n.1):D4 n=Q4 (D4 n).length:=C0K (B5r hk)
theorem A5e {q:A3} (hp:A5m q):(W9 q).flatten=Q4 (B7 q.2.2.1):=by
 unfold W9 B7
 have:∀ns:List A6,(∀nd∈ns,B1A nd.1)→(ns.map D4).flatten=Q4 (ns.map fun n=>(D4 n).length).sum:=by
  intro ns
  induction ns with
  | nil=>intro _;rfl
  | cons n ns ih =>
    intro h;simp only[List.map_cons,List.flatten_cons,List.sum_cons];rw[ih fun nd hd=>h nd (List.mem_cons_of_mem _ hd)]
    have h1:=B5H (h n (List.mem_cons_self))
    rw[h1];simp only[Q4,List.length_replicate,List.replicate_append_replicate]
 exact this _ hp
section
variable {q:A3} (hF:C0 q=true) (hp:A5m q) {ins:List (List Int)} (hin:J9 q ins)
include hF hp hin
theorem A6R (t:Nat):(stN q ins (t+1)).flatten=apM (F6 q).2.1 (F6 q).2.2.1 (stN q ins t).flatten (C7 ins (t:Int))∧J4 q (A9D q ins t)=apM (F6 q).2.2.2.1 (F6 q).2.2.2.2 (stN q ins t).flatten (C7 ins (t:Int)):=by
 have hS:=B6R hF hin t
 obtain⟨f1,f2⟩:=A1B (p:=q) hin (t:Int)
 have hsm:D9 (stN q ins t).flatten=true:=G4.2 fun z hz=>by
  obtain⟨l,hl,hz⟩:=List.mem_flatten.1 hz
  obtain⟨i,hi,rfl⟩:=List.mem_iff_getElem.1 hl
  have hi':i < q.2.2.1.length:=by rw[←hS.1];exact hi
  have h2:=(hS.2 i hi').2
  have e:(stN q ins t).getD i []=(stN q ins t)[i]:=by simp[List.getD,hi]
  rw[e] at h2;exact G4.1 h2 _ hz
 have h:=C3B hF hp (c:=(stN q ins t).flatten) (f:=C7 ins (t:Int)) (B05 hS) hsm f1 f2
 rw[←h.1,←h.2];unfold S8;rw[B9s hS,A9C];exact⟨rfl,rfl⟩
end
theorem C7D {q:A3} (hF:C0 q=true) (hp:A5m q) {i:Int} (hi:i.toNat < q.1.toNat) (h0:0≤q.1):∀t,(stN q (A1a q.1.toNat i) t).flatten=A8I (F6 q) i t:=by
 intro t;have hW:=A7i hF
 have hin:=A4f (q:=q) h0 i
 have hA:(F6 q).2.1.length=B7 q.2.2.1:=hW.a.1
 induction t with
 | zero=>rw[A9u,A5e hp];simp only[A8I];rw[hA]
 | succ t ih =>
   rw[(A6R hF hp hin t).1,ih]
   have hf:C7 (A1a q.1.toNat i) (t:Int)=A8A (F6 q) i t:=by rw[A8w hi];cases t<;>rfl
   rw[hf];simp only[A8I];rw[B8c hW (by rw[A68,hA]) (B4k _ _ _)]
theorem C4O {q:A3} (hF:C0 q=true) (hp:A5m q) {i:Int} (hi:i.toNat < q.1.toNat) (h0:0≤q.1) (t:Nat):J4 q (A9D q (A1a q.1.toNat i) t)=A4m (F6 q) i t:=by
 have hW:=A7i hF
 have hin:=A4f (q:=q) h0 i
 have hA:(F6 q).2.1.length=B7 q.2.2.1:=hW.a.1
 rw[(A6R hF hp hin t).2,C7D hF hp hi h0]
 have hf:C7 (A1a q.1.toNat i) (t:Int)=A8A (F6 q) i t:=by rw[A8w hi];cases t<;>rfl
 rw[hf];simp only[A4m];rw[B8c hW (by rw[A68,hA]) (B4k _ _ _)]
theorem C5p {p:A3} (h:(p.2.2.1.all fun n=>A1R n.1)=true):A5m p:=fun nd hd=>by
 have:=List.all_eq_true.1 h nd hd
 have this:A1R nd.1=true:=this
 unfold A1R at this;unfold B1A;simp only[List.contains_cons,List.contains_nil,Bool.or_eq_true,beq_iff_eq,Bool.or_false] at this
 omega
theorem A6y {p:A3} (h:W7 p=true):A5m (D0 p):=C5p (by rw[A9A];exact h)
theorem B7H {p:A3} (hP:B9 p=true) (hl:W7 p=true) {i o:Int} (hi:0≤i∧i < p.1) (ho:0≤o∧o < p.2.2.2.length) (n:Nat):(H9 p (A1a p.1.toNat i) n).getD o.toNat []=m9 (F6 (D0 p)) i o n:=by
 have hT:=T5 hP
 have hF:=(B8 hT).1
 have hp:=A6y hl
 have h1:(D0 p).1=p.1:=rfl
 have h2:(D0 p).2.2.2.length=p.2.2.2.length:=by simp[D0,A4v,A5p]
 have hin:J9 (D0 p) (A1a p.1.toNat i):=A4f (q:=D0 p) (by omega) i
 have hinp:J9 p (A1a p.1.toNat i):=A4f (by omega) i
 rw[A38 hP hinp];refine P0 (by rw[B2d hF hin (by omega),B4x]) fun t=>?_
 by_cases ht:t < n
 · rw[C48 hF hin (by omega) n ht]
   unfold m9;rw[W0 _ ht];show (J4 (D0 p) (A9D (D0 p) (A1a (D0 p).1.toNat i) t)).getD o.toNat 0=_
   rw[C4O hF hp (by omega) (by omega)]
 · rw[D7 (by rw[B2d hF hin (by omega)];omega),D7 (by rw[B4x];omega)]
def A7S (aa:List (List Int)):Prop:=A47 aa aa.length aa.length∧aa.length≤1000
theorem C26 {xs:List Int} {n:Nat} (h:tl xs xs.length=tl xs n) (hn:n≤xs.length) (h0:0 < n) (he:n=1∨¬xs.getD (n - 1) 0=0):U2 xs=xs.take n:=by
 by_cases c:xs.getD (n - 1) 0=0
 · have e : n = 1 := he.resolve_right fun z => z c
   subst e;have c:xs.getD 0 0=0:=c
   rw[A1V (by rw[h,C14 c];rfl)]
   cases xs with
   | nil=>simp at hn
   | cons x xs => have : x = 0 := by simpa using c
                  subst this;rfl
 · exact C4o (by rw[h,show n=(n - 1)+1 by omega,C5r c]) h0
theorem C0h {xs:List Int} (h:tl xs xs.length=tl xs 0):U2 xs=[0]:=A1V h
theorem C4Z {xs:List Int} {n:Nat} (h:tl xs xs.length=tl xs n) (h0:0 < n) (c:xs.getD (n - 1) 0=0):tl xs xs.length=tl xs (n - 1):=by
 rw[h]
 conv=>lhs;rw[show n=(n - 1)+1 by omega]
 exact C14 c
def c0N (aa:List (List Int)) (k i:Nat):List Int:=(List.range i).map fun j=>(aa.getD j []).getD k 0
theorem C40 (aa:List (List Int)) (k i:Nat):c0N aa k i++[(aa.getD i []).getD k 0]=c0N aa k (i+1):=A0g (fun j=>(aa.getD j []).getD k 0) i
theorem C6I (aa:List (List Int)) (k i:Nat):(c0N aa k i).length=i:=by simp[c0N]
theorem C7b {aa:List (List Int)} (h:A7S aa) {k:Nat} (hk:k≤aa.length):c0N aa k k=clN aa k 0:=C8J k fun i hi=>(h.1.2 i (by omega)).2
def B7h (aa:List (List Int)) (k i m:Nat):List Int:=(List.range m).map fun j=>n9 ((aa.getD j []).take k) (clN aa k i) k
theorem B9X (aa:List (List Int)) (k i m:Nat):B7h aa k i m++[n9 ((aa.getD m []).take k) (clN aa k i) k]=B7h aa k i (m+1):=A0g (fun j=>n9 ((aa.getD j []).take k) (clN aa k i) k) m
theorem C3f (aa:List (List Int)) (k i m:Nat):(B7h aa k i m).length=m:=by simp[B7h]
theorem C2P (aa:List (List Int)) (k i:Nat):B7h aa k i k=clN aa k (i+1):=C3W aa k i
theorem B5F {aa:List (List Int)} (h:A7S aa) {j k:Nat} (hj:j < aa.length) (hk:k≤aa.length):((aa.getD j []).take k).length=k:=by
 rw[List.length_take,(h.1.2 j hj).1];omega
theorem linW.n {x:b9} {n:Nat} (h:linW x n):x.2.1.length=n:=h.a.1
structure linOkP (p:A3):Prop where
 ok:B9 p=true
 lin:W7 p=true
 w:linW (F6 (D0 p)) (F6 (D0 p)).2.1.length
 n:(F6 (D0 p)).2.1.length≤24
 i:(F6 (D0 p)).1=p.1
 o:(F6 (D0 p)).2.2.2.1.length=p.2.2.2.length
 i4:0≤p.1∧p.1≤4
 o4:p.2.2.2.length≤4
theorem B5u {p:A3} (h:J1 p=0):linOkP p:=by
 have hP:B9 p=true:=by
  cases h':B9 p with
  | true=>rfl
  | false=>rw[A75 h'] at h;cases h
 have hl:W7 p=true:=by
  cases h':W7 p with
  | true=>rfl
  | false=>rw[A7I hP h'] at h;cases h
 have hc:B7 (D0 p).2.2.1≤24:=by
  by_cases h2:24 < B7 (D0 p).2.2.1
  · rw[A4a hP hl h2] at h;cases h
  · omega
 have hF:=(B8 (T5 hP)).1
 have hp:=(A8 (B8 hP).1)
 have hw:=A7i hF
 have ha:(F6 (D0 p)).2.1.length=B7 (D0 p).2.2.1:=hw.a.1
 exact⟨hP,hl,by rw[ha];exact hw,by omega,rfl,by show (A1J _ _ _).length=_;rw[A6W];simp[D0,A4v,A5p],⟨hp.2.2.2.1,hp.2.2.2.2.1⟩,hp.2.1⟩
theorem C2p {p:A3} (h:linOkP p):A7S (F6 (D0 p)).2.1:=⟨h.w.a,by have:=h.n;omega⟩
theorem A95 {p:A3} (h:linOkP p) {i o:Int} (hi:0≤i∧i < p.1) (ho:0≤o∧o < p.2.2.2.length) (n:Nat):(H9 p (A1a p.1.toNat i) n).getD o.toNat []=m9 (F6 (D0 p)) i o n:=B7H h.ok h.lin hi ho n
theorem C7Z (p:A3):(A7p p).2=J1 p:=by
 by_cases h:J1 p=0
 · rw[B6e h,h]
 · rw[B32 h]
theorem C3g {p:A3} {x:b9} {c:Int} (h:A7p p=(x,c)):c=J1 p∧(J1 p=0→F6 (D0 p)=x):=by
 have h2:=C7Z p
 rw[h] at h2;refine⟨h2,fun h0=>?_⟩
 rw[B6e h0] at h;exact congrArg Prod.fst h
theorem A5u {p:A3} {ni:Int} {la lb lc ld:List (List Int)} (hk:linOkP p) (h:F6 (D0 p)=(ni,la,lb,lc,ld)):linW (ni,la,lb,lc,ld) la.length∧la.length≤24∧ni=p.1∧lc.length=p.2.2.2.length∧A7S la:=by
 have hw:=hk.w;have hn:=hk.n;have hi:=hk.i;have ho:=hk.o;have hs:=C2p hk
 rw[h] at hw hn hi ho hs
 exact⟨hw,hn,hi,ho,hs⟩
theorem C6B {p:A3} (hk:linOkP p) {x:b9} (hx:F6 (D0 p)=x) {i o:Int} (hi:0≤i∧i < p.1) (ho:0≤o∧o < p.2.2.2.length) (n:Nat) {Y:List (List Int)} (hY:H9 p ((List.replicate p.1.toNat ([]:List Int)).set i.toNat [1]) n=Y):Y.length=p.2.2.2.length∧Y.getD o.toNat []=m9 x i o n:=by
 have hF:=(B8 hk.ok).1
 have hin:J9 p (A1a p.1.toNat i):=A4f (by omega) i
 have h1:=T1 hF hin n
 have h2:=A95 hk hi ho n
 rw[hx] at h2;unfold A1a at h1 h2;rw[hY] at h1 h2
 exact⟨h1,h2⟩
/-! What the laws' own functions compute of transfer functions. -/
instance:DecidableEq TrD:=instDecidableEqProd
theorem C4l {x:Int} (h:J3 x 1 17=true):(kT x).2.2.2.1=A1R x:=by
 obtain⟨h1,h2⟩:=C1.1 h
 have:x=1∨x=2∨x=3∨x=4∨x=5∨x=6∨x=7∨x=8∨x=9∨x=10∨x=11∨x=12∨x=13∨x=14∨x=15∨x=16∨x=17:=by omega
 rcases this with h|h|h|h|h|h|h|h|h|h|h|h|h|h|h|h|h<;>subst h<;>rfl
theorem C4S {p:A3} (hF:C0 p=true) {i:Nat} (hi:i < p.2.2.1.length):J3 (p.2.2.1.getD i n0).1 1 17=true:=by
 have h:=A5r hF hi
 unfold M6 at h;simp only[Bool.and_eq_true] at h
 exact h.1.1.1.1.1
theorem B6C {p:A3} (hF:C0 p=true) {i:Nat} (hi:i < p.2.2.1.length):A23 (p.2.2.1.getD i n0):=⟨_,A5r hF hi⟩
def A5b (ns:List A6) (kp:List Int) (k:Nat):Nat:=((kp.take k).map fun i=>(D4 (ns.getD i.toNat n0)).length).sum
theorem B1r {ns:List A6} {kp:List Int} {k:Nat} (h:k < kp.length):A5b ns kp (k+1)=A5b ns kp k+(D4 (ns.getD (kp.getD k 0).toNat n0)).length:=by
 unfold A5b;rw[E7 (d:=(0:Int)) h,List.map_append,List.sum_append];simp
theorem C5c {p:A3} (hF:C0 p=true) {kp:List Int} (hr:∀j,j < kp.length→0≤kp.getD j 0∧kp.getD j 0 < p.2.2.1.length):∀k,k≤kp.length→A5b p.2.2.1 kp k≤16 * k:=by
 intro k
 induction k with
 | zero=>intro _;simp[A5b]
 | succ k ih =>
   intro h;have h1:=ih (by omega)
   have h2:=B1r (ns:=p.2.2.1) (kp:=kp) (k:=k) (by omega)
   have h3:=B5e hF (i:=(kp.getD k 0).toNat) (by have:=hr k (by omega);omega)
   omega
def A1I (p:A3):Nat:=A5b p.2.2.1 (G3 p) (G3 p).length
theorem C0U (p:A3):A1I p=B7 (D0 p).2.2.1:=by
 rw[B6p];unfold A1I A5b;rw[List.take_length]
theorem C2W {ns:List A6} {c:List Int} {k:Nat} (h:k < ns.length):(c.drop (T4 ns k)).drop (D4 (ns.getD k n0)).length=c.drop (T4 ns (k+1)):=by
 rw[List.drop_drop,A0Z h]
def A6l (cols:List (List Int)) (i:Nat):List Int:=cols.map fun c=>c.getD i 0
def A1u (cols:List (List Int)) (rows i:Nat):List (List Int):=((List.range i).map (A6l cols))++List.replicate (rows - i) []
theorem A7W {cols:List (List Int)} {rows i:Nat} (h:i≤rows):(A1u cols rows i).length=rows:=by simp[A1u];omega
theorem A8Z (cols:List (List Int)) (rows:Nat):A1u cols rows 0=List.replicate rows []:=by simp[A1u]
theorem C0k (cols:List (List Int)) (rows:Nat):A1u cols rows rows=(List.range rows).map (A6l cols):=by simp[A1u]
def A2D (cols:List (List Int)) (rows i j:Nat):List (List Int):=(A1u cols rows i).set i (A6l (cols.take j) i)
theorem C0T {cols:List (List Int)} {rows i j:Nat} (h:i≤rows):(A2D cols rows i j).length=rows:=by rw[A2D,List.length_set,A7W h]
theorem C3D {cols:List (List Int)} {rows i j:Nat} (h:i < rows):(A2D cols rows i j).getD i []=A6l (cols.take j) i:=by
 have hl:i < (A1u cols rows i).length:=by rw[A7W (by omega)];exact h
 simp[A2D,List.getD,hl]
theorem B8h {cols:List (List Int)} {rows i:Nat}:(A1u cols rows i).set i []=A2D cols rows i 0:=by simp[A2D,A6l]
theorem B9j {cols:List (List Int)} {i j:Nat} (h:j < cols.length):A6l (cols.take j) i++[(cols.getD j []).getD i 0]=A6l (cols.take (j+1)) i:=by
 unfold A6l;rw[E7 (d:=([]:List Int)) h,List.map_append];rfl
theorem B7b {cols:List (List Int)} {rows i j:Nat} (h:i < rows) (hj:j < cols.length):(A2D cols rows i j).set i (A6l (cols.take j) i++[(cols.getD j []).getD i 0])=A2D cols rows i (j+1):=by
 rw[B9j hj];unfold A2D;rw[List.set_set]
theorem C0J {cols:List (List Int)} {rows i j:Nat} (h:i < rows) (hj:cols.length≤j):A2D cols rows i j=A1u cols rows (i+1):=by
 unfold A2D;rw[List.take_of_length_le hj];unfold A1u;rw[show rows - i=(rows - (i+1))+1 by omega,List.replicate_succ,List.set_append_right _ _ (by simp)]
 simp[List.range_succ]
theorem C3n {p:A3} (hP:B9 p=true) {c:Nat} (hc:c < (G3 p).length):(H7 (D0 p)).getD c false=true:=by
 have hF:=(B8 hP).1
 have hT:=(B8 (T5 hP)).1
 have hby:∀j,j < (G3 p).length→(byT p).getD ((G3 p).getD j 0).toNat 0=(j:Int):=fun j hj=>C3v (fun j hj=>A1F j hj) (fun i j hi hj e=>B6A i j hi hj e) _ (Nat.le_refl _) j hj
 have hlen:(D0 p).2.2.1.length=(G3 p).length:=by rw[A3X,List.length_map]
 have key:∀i,(H7 p).getD i false=true→(H7 p).getD i false=true∧∀c,c < (G3 p).length→((G3 p).getD c 0).toNat=i→(H7 (D0 p)).getD c false=true:=by
  intro i hi
  refine A7x hF (fun i=>(H7 p).getD i false=true∧∀c,c < (G3 p).length→((G3 p).getD c 0).toNat=i→(H7 (D0 p)).getD c false=true) (fun i hi h y hy=>?_) (fun y hy=>?_) i hi
  · obtain⟨h1,h2⟩:=h;refine⟨A0j hF hi h1 hy,fun c' hc' e=>?_⟩
    obtain⟨c,hcl,hce⟩:∃c,c < (G3 p).length∧(G3 p).getD c 0=(i:Int):=by
     have:(i:Int)∈G3 p:=A12.2 ⟨i,hi,h1,rfl⟩
     obtain⟨c,hcl,hce⟩:=List.mem_iff_getElem.1 this
     exact⟨c,hcl,by simp[List.getD,hcl,hce]⟩
    have h3:=h2 c hcl (by rw[hce];simp)
    have hnd:(D0 p).2.2.1.getD c n0=C47 (byT p) (p.2.2.1.getD i n0):=by
     rw[A3X];simp only[List.getD,List.getElem?_map,List.getElem?_eq_getElem hcl,Option.map_some,Option.getD_some];have:(G3 p)[c]=(i:Int):=by rw[←hce];simp[List.getD,hcl]
     rw[this];simp
    have hmem:(byT p).getD y.toNat 0∈((D0 p).2.2.1.getD c n0).2.2.2:=by
     rw[hnd];exact List.mem_map.2 ⟨y,hy,rfl⟩
    have h4:=A0j hT (show c < (D0 p).2.2.1.length by omega) h3 hmem
    rw[←e,hby c' hc'] at h4
    simpa using h4
  · refine⟨A2C hF hy,fun c' hc' e=>?_⟩
    have hmem:(byT p).getD y.toNat 0∈(D0 p).2.2.2:=List.mem_map.2 ⟨y,hy,rfl⟩
    have h4:=A2C hT hmem
    rw[←e,hby c' hc'] at h4
    simpa using h4
 obtain⟨i,h1,h2,h3⟩:=A12.1 (D6 (d:=(0:Int)) hc)
 exact(key i h2).2 c hc (by rw[h3];simp)
theorem C0X {p:A3} (hP:B9 p=true):G3 (D0 p)=(List.range (D0 p).2.2.1.length).map fun (i:Nat)=>(i:Int):=by
 have hlen:(D0 p).2.2.1.length=(G3 p).length:=by rw[A3X,List.length_map]
 unfold G3 A1N
 congr 1
 refine List.filter_eq_self.2 fun i hi=>?_
 exact C3n hP (by rw[←hlen];exact List.mem_range.1 hi)
theorem C0p {p:A3} (hP:B9 p=true):A1I (D0 p)=B7 (D0 p).2.2.1:=by
 unfold A1I A5b;rw[List.take_length,C0X hP,List.map_map];unfold B7
 congr 1
 refine List.ext_getElem (by simp) fun i h1 h2=>?_
 have hi:i < (D0 p).2.2.1.length:=by simpa using h2
 simp[List.getD,hi]
theorem C3k (f:Nat→List Int) (rows wd:Nat):(List.range rows).map (A6l ((List.range wd).map f))=A1J f rows wd:=by
 unfold A1J A6l;refine List.map_congr_left fun i _=>?_
 rw[List.map_map];rfl
theorem A6b {f:Nat→List Int} {rows wd:Nat} (h:∀j,(f j).length=rows):∀j,j < ((List.range wd).map f).length→(((List.range wd).map f).getD j []).length=rows:=by
 intro j hj
 have hj':j < wd:=by simpa using hj
 simp[List.getD,hj',h]
theorem B8w {q:A3} (hF:C0 q=true) (j:Nat):(stC q j).1.length=B7 q.2.2.1∧(stC q j).2.length=q.2.2.2.length:=x4 hF (M4 _ _).1 (M4 _ _).2 (W4 _).2
theorem B8I {q:A3} (hF:C0 q=true) (j:Nat):(inC q j).1.length=B7 q.2.2.1∧(inC q j).2.length=q.2.2.2.length:=x4 hF (W4 _).1 (W4 _).2 (M4 _ _).2
def Z6 (ps:List A3) (p:A3):Bool:=W7 p && decide (p.1=(ps.getD 0 ((0,[],[],[]):A3)).1) && decide (p.2.2.2.length=(ps.getD 0 ((0,[],[],[]):A3)).2.2.2.length)
def O8 (ps:List A3):Int:=match ps.all B9 with
 | false=>1
 | true => match ps.all (Z6 ps) with
   | false=>6
   | true => match ps.all (fun p => decide (A1I p ≤ 24)) with
     | false=>5
     | true=>0
theorem C6N {ps:List A3} (h:ps.all B9=false):O8 ps=1:=by unfold O8;rw[h]
theorem C5V {ps:List A3} (h:ps.all B9=true) (k:ps.all (Z6 ps)=false):O8 ps=6:=by unfold O8;rw[h,k]
theorem C4s {ps:List A3} (h:ps.all B9=true) (k:ps.all (Z6 ps)=true) (l:ps.all (fun p=>decide (A1I p≤24))=false):O8 ps=5:=by unfold O8;rw[h,k,l]
theorem C5A {ps:List A3} (h:ps.all B9=true) (k:ps.all (Z6 ps)=true) (l:ps.all (fun p=>decide (A1I p≤24))=true):O8 ps=0:=by unfold O8;rw[h,k,l]
theorem C1s {α:Type} {f:α→Bool} {xs:List α} {d:α} (h:xs.all f=true) {k:Nat} (hk:k < xs.length):f (xs.getD k d)=true:=List.all_eq_true.1 h _ (D6 hk)
end Go.Proofs.YtgaogcnfijbahaaGreat
