/-
  Texts of this claim, joined (part 22). No condition beyond those of the theorems.
-/
import Derived.Test.YtgaogcnfijbahaaGreatQ21
import Derived.Test.YtgaogcnfijbahaaGreatQ19
import Derived.Test.YtgaogcnfijbahaaGreatQ13
import Derived.Test.YtgaogcnfijbahaaGreatQ06
namespace Go.Proofs.YtgaogcnfijbahaaGreat
open Go.RowKit
set_option linter.unusedSimpArgs false
set_option linter.unusedVariables false
/-! Power series as samples. -/
theorem B82 {f f' g g':PS} {m:Nat} (hf:∀t,t < m→wrap32 (f t)=wrap32 (f' t)) (hg:∀t,t < m→wrap32 (g t)=wrap32 (g' t)) {t:Nat} (ht:t < m):wrap32 (pm f g t)=wrap32 (pm f' g' t) :=
 A00 fun i hi=>by rw[←A5f,hf i (by omega),hg (t - i) (by omega),A5f]
theorem B9x {B f g:PS} (hB:B 0=1) {m:Nat} (h:∀t,t < m→wrap32 (pm B f t)=wrap32 (pm B g t)):∀t,t < m→wrap32 (f t)=wrap32 (g t):=by
 intro t
 induction t using Nat.strongRecOn with
 | ind t ih =>
   intro ht
   have e:∀f:PS,pm B f t=f t+sg (fun y=>B (y+1) * f (t - (y+1))) t:=fun f=>by
    unfold pm;rw[B3y,hB,Int.one_mul,Nat.sub_zero]
   have h1:=h t ht
   rw[e f,e g] at h1
   have h2:wrap32 (sg (fun y=>B (y+1) * f (t - (y+1))) t)=wrap32 (sg (fun y=>B (y+1) * g (t - (y+1))) t):=A00 fun y hy=>by
    rw[←i7,ih (t - (y+1)) (by omega) (by omega),i7]
   have h3:∀a b:Int,wrap32 a=wrap32 ((a+b) - b):=fun a b=>by rw[show a+b - b=a by omega]
   rw[h3 (f t) (sg (fun y=>B (y+1) * f (t - (y+1))) t),h3 (g t) (sg (fun y=>B (y+1) * g (t - (y+1))) t),←B2h,h1,B2h,←A9o,h2,A9o]
theorem B8q {a1 b1 b2 r:List Int} {m:Nat} (h1:∀t,t < m→wrap32 (pm (cf b1) (cf r) t)=a1.getD t 0) {t:Nat} (ht:t < m):wrap32 (pm (cf a1) (cf b2) t)=wrap32 (pm (pm (cf b1) (cf b2)) (cf r) t):=by
 have e:pm (pm (cf b1) (cf b2)) (cf r)=pm (pm (cf b1) (cf r)) (cf b2):=by rw[Z5,Z5,O1 (cf b2)]
 rw[e];exact B82 (fun t ht=>by rw[←A4j (pm _ _ _),h1 t ht];rfl) (fun _ _=>rfl) ht
theorem B8f {b1 a2 b2 s:List Int} {m:Nat} (h2:∀t,t < m→wrap32 (pm (cf b2) (cf s) t)=a2.getD t 0) {t:Nat} (ht:t < m):wrap32 (pm (cf a2) (cf b1) t)=wrap32 (pm (pm (cf b1) (cf b2)) (cf s) t):=by
 have e:pm (pm (cf b1) (cf b2)) (cf s)=pm (pm (cf b2) (cf s)) (cf b1):=by rw[O1 (cf b1),Z5,Z5,O1 (cf b1)]
 rw[e];exact B82 (fun t ht=>by rw[←A4j (pm _ _ _),h2 t ht];rfl) (fun _ _=>rfl) ht
section
variable {a1 b1 a2 b2 r s:List Int} {m:Nat} (h1:∀t,t < m→wrap32 (pm (cf b1) (cf r) t)=a1.getD t 0) (h2:∀t,t < m→wrap32 (pm (cf b2) (cf s) t)=a2.getD t 0)
include h1 h2
theorem C2A (d1:b1.getD 0 0=1) (d2:b2.getD 0 0=1) (hr:D9 r=true) (hs:D9 s=true) (e:m7 a1 b2=m7 a2 b1) {t:Nat} (ht:t < m):r.getD t 0=s.getD t 0:=by
 have hB:pm (cf b1) (cf b2) 0=1:=by rw[C1D];show b1.getD 0 0 * b2.getD 0 0=1;rw[d1,d2];rfl
 have:=B9x hB (f:=cf r) (g:=cf s) (m:=m) (fun t ht=>by
  rw[←B8q h1 ht,←B8f h2 ht,←A6p,←A6p,e]) t ht
 unfold cf at this;rw[A5T hr,A5T hs] at this;exact this
theorem C39 (hl1:a1.length+b2.length≤m+1) (hl2:a2.length+b1.length≤m+1) (e:∀t,t < m→r.getD t 0=s.getD t 0):m7 a1 b2=m7 a2 b1:=by
 have key:∀j,(m7 a1 b2).getD j 0=(m7 a2 b1).getD j 0:=fun j=>by
  rw[A6p,A6p]
  by_cases c:j < m
  · rw[B8q h1 c,B8f h2 c];exact B82 (fun _ _=>rfl) (fun t ht=>by show wrap32 (r.getD t 0)=wrap32 (s.getD t 0);rw[e t ht]) c
  · rw[B7G (by omega),B7G (by omega)]
 have:U2 (m7 a1 b2)=U2 (m7 a2 b1):=B1K key
 unfold m7 at this ⊢
 rw[A8o,A8o] at this;exact this
end
theorem B9n {x y:b9} (hx:linW x x.2.1.length) (hy:linW y y.2.1.length) {i o:Int} (hi:i.toNat < x.1.toNat) (hi2:i.toNat < y.1.toNat) (ho:o.toNat < x.2.2.2.1.length) (ho2:o.toNat < y.2.2.2.1.length) (e:i9 (M7 x i o) (M7 y i o)=true) (t:Nat):(A4m x i t).getD o.toNat 0=(A4m y i t).getD o.toNat 0:=by
 have e:m7 (M7 x i o).1 (M7 y i o).2=m7 (M7 y i o).1 (M7 x i o).2:=of_decide_eq_true e
 have h:=C2A (m:=t+1) (fun u hu=>A8X hx hi ho (m:=t+1) hu) (fun u hu=>A8X hy hi2 ho2 (m:=t+1) hu) (by simp only[M7];rw[A0k,C2J]) (by simp only[M7];rw[A0k,C2J]) (B4o _ _ _ _) (B4o _ _ _ _) e (t:=t) (by omega)
 unfold m9 at h;rw[W0 _ (by omega),W0 _ (by omega)] at h
 exact h
theorem C10 {x y:b9} (hx:linW x x.2.1.length) (hy:linW y y.2.1.length) (hn:x.2.1.length≤24) (hn2:y.2.1.length≤24) {i o:Int} (hi:i.toNat < x.1.toNat) (hi2:i.toNat < y.1.toNat) (ho:o.toNat < x.2.2.2.1.length) (ho2:o.toNat < y.2.2.2.1.length) (e:i9 (M7 x i o) (M7 y i o)=false):¬m9 x i o 49=m9 y i o 49:=by
 intro hh;have e:¬m7 (M7 x i o).1 (M7 y i o).2=m7 (M7 y i o).1 (M7 x i o).2:=of_decide_eq_false e
 have l:∀(z:b9),z.2.1.length≤24→(M7 z i o).1.length≤25∧(M7 z i o).2.length≤25:=fun z hz=>by
  simp only[M7];have h1:=(A6x (t7 (chN z.2.1 z.2.1.length) (m9 z i o (z.2.1.length+1)) (z.2.1.length+1))).2
  have h2:=(A6x (chN z.2.1 z.2.1.length)).2
  rw[a9] at h1;rw[A0F] at h2;omega
 obtain⟨l1,l2⟩:=l x hn
 obtain⟨l3,l4⟩:=l y hn2
 exact e (C39 (m:=49) (fun u hu=>A8X hx hi ho (m:=49) hu) (fun u hu=>A8X hy hi2 ho2 (m:=49) hu) (by omega) (by omega) fun t _=>by rw[hh])
/-! The outputs are the convolution of the inputs with the responses. -/
def A8F (ins:List (List Int)) (i s:Nat):Int:=(ins.getD i []).getD s 0
theorem B4i {q:A3} {ins:List (List Int)} (hin:J9 q ins) (t:Nat) {i:Nat} (hi:i < q.1.toNat):(C7 ins (t:Int)).getD i 0=A8F ins i t:=by
 have h1:=hin.1
 rw[A2l (by omega),Int.toNat_natCast];rfl
section
variable {q:A3} (hF:C0 q=true) (hp:A5m q) {ins:List (List Int)} (hin:J9 q ins)
include hF hp hin
theorem C4W (t:Nat):∀j,j < B7 q.2.2.1→(stN q ins t).flatten.getD j 0=wrap32 (sg (fun s=>sg (fun i=>A8F ins i s * pW (B7 q.2.2.1) (mF (F6 q).2.1) (fun j=>((F6 q).2.2.1.getD j []).getD i 0) j (t - 1 - s)) q.1.toNat) t):=by
 have hW:=A7i hF
 induction t with
 | zero =>
   intro j hj
   rw[A9u,A5e hp,A0C];simp[sg,j9]
 | succ t ih =>
   intro j hj
   have ha:=hW.a.2 j hj
   have hb:=hW.b.2 j hj
   have hi0:(F6 q).1=q.1:=rfl
   rw[hi0] at hb;rw[(A6R hF hp hin t).1,B2N (by rw[hW.a.1];exact hj),ha.1,hb.1,r9,r9,Q9]
   have e1:wrap32 (sg (fun l=>((F6 q).2.1.getD j []).getD l 0 * (stN q ins t).flatten.getD l 0) (B7 q.2.2.1))=wrap32 (sg (fun s=>sg (fun i=>A8F ins i s * pW (B7 q.2.2.1) (mF (F6 q).2.1) (fun j=>((F6 q).2.2.1.getD j []).getD i 0) j (t - s)) q.1.toNat) t):=by
    rw[A00 (g:=fun l=>sg (fun s=>sg (fun i=>A8F ins i s * (mF (F6 q).2.1 j l * pW (B7 q.2.2.1) (mF (F6 q).2.1) (fun j=>((F6 q).2.2.1.getD j []).getD i 0) l (t - 1 - s))) q.1.toNat) t) fun l hl=>by
     rw[ih l hl,i7,←A16]
     congr 1
     refine G5 fun s _=>?_
     rw[←A16];exact G5 fun i _=>by rw[←Int.mul_assoc,←Int.mul_assoc,Int.mul_comm (A8F ins i s)];rfl]
    congr 1
    rw[A4i];refine G5 fun s hs=>?_
    rw[A4i];refine G5 fun i _=>?_
    rw[A16]
    congr 1
    rw[show t - s=(t - 1 - s)+1 by omega];rfl
   have e2:sg (fun i=>((F6 q).2.2.1.getD j []).getD i 0 * (C7 ins (t:Int)).getD i 0) q.1.toNat=sg (fun i=>A8F ins i t * pW (B7 q.2.2.1) (mF (F6 q).2.1) (fun j=>((F6 q).2.2.1.getD j []).getD i 0) j (t - t)) q.1.toNat:=G5 fun i hi=>by
    rw[B4i hin t hi,Nat.sub_self,Int.mul_comm];rfl
   rw[e2,←r4,e1,r4]
   rfl
theorem B4K (t:Nat) {o:Nat} (ho:o < q.2.2.2.length):(J4 q (A9D q ins t)).getD o 0=wrap32 (sg (fun s=>sg (fun i=>A8F ins i s * (A4m (F6 q) (i:Int) (t - s)).getD o 0) q.1.toNat) (t+1)):=by
 have hW:=A7i hF
 have hi0:(F6 q).1=q.1:=rfl
 have hoL:(F6 q).2.2.2.1.length=q.2.2.2.length:=A6W _ _ _
 have ho':o < (F6 q).2.2.2.1.length:=by omega
 have hc:=hW.c.2 o ho'
 have hd:=hW.d.2 o ho'
 rw[hi0] at hd;rw[(A6R hF hp hin t).2,B2N ho',hc.1,hd.1,r9,r9,Q9]
 simp only[sg]
 have e1:wrap32 (sg (fun l=>((F6 q).2.2.2.1.getD o []).getD l 0 * (stN q ins t).flatten.getD l 0) (B7 q.2.2.1))=wrap32 (sg (fun s=>sg (fun i=>A8F ins i s * (A4m (F6 q) (i:Int) (t - s)).getD o 0) q.1.toNat) t):=by
  rw[A00 (g:=fun l=>sg (fun s=>sg (fun i=>A8F ins i s * (((F6 q).2.2.2.1.getD o []).getD l 0 * pW (B7 q.2.2.1) (mF (F6 q).2.1) (fun j=>((F6 q).2.2.1.getD j []).getD i 0) l (t - 1 - s))) q.1.toNat) t) fun l hl=>by
   rw[C4W hF hp hin t l hl,i7,←A16]
   congr 1
   refine G5 fun s _=>?_
   rw[←A16];exact G5 fun i _=>by rw[←Int.mul_assoc,←Int.mul_assoc,Int.mul_comm (A8F ins i s)]]
  rw[A4i];refine A00 fun s hs=>?_
  rw[A4i];refine A00 fun i hi=>?_
  have hr:=B4N hW (i:=(i:Int)) (by rw[hi0,Int.toNat_natCast];exact hi) (t - 1 - s) ho'
  rw[show t - s=(t - 1 - s)+1 by omega,hr,i7,A16,Int.toNat_natCast]
 have e2:wrap32 (sg (fun i=>((F6 q).2.2.2.2.getD o []).getD i 0 * (C7 ins (t:Int)).getD i 0) q.1.toNat)=wrap32 (sg (fun i=>A8F ins i t * (A4m (F6 q) (i:Int) (t - t)).getD o 0) q.1.toNat):=A00 fun i hi=>by
  have hr:(A4m (F6 q) (i:Int) 0).getD o 0=wrap32 (((F6 q).2.2.2.2.getD o []).getD i 0):=by
   simp only[A4m];rw[C6R hW ho']
   simp only[A8I,A8A];rw[A8V,(M4 _ _).1,Int.toNat_natCast,B5X _ (by rw[hi0];exact hi),Int.zero_add,A4j]
  rw[B4i hin t hi,Nat.sub_self,hr,i7,Int.mul_comm]
 rw[←Q9,e1,e2,Q9]
end
theorem C7v {x y:b9} {n:Int} {w:Nat} (hx:linW x x.2.1.length) (hy:linW y y.2.1.length) (i1:x.1=n) (i2:y.1=n) (o1:x.2.2.2.1.length=w) (o2:y.2.2.2.1.length=w) (e:∀i,i < n.toNat→∀o,o < w→i9 (M7 x (i:Int) (o:Int)) (M7 y (i:Int) (o:Int))=true) {i k:Nat} (hi:i < n.toNat) (hk:k < w) (u:Nat):(A4m x (i:Int) u).getD k 0=(A4m y (i:Int) u).getD k 0 :=
 B9n hx hy (i:=(i:Int)) (o:=(k:Int)) (by rw[Int.toNat_natCast,i1];exact hi) (by rw[Int.toNat_natCast,i2];exact hi) (by rw[Int.toNat_natCast,o1];exact hk) (by rw[Int.toNat_natCast,o2];exact hk) (e i hi k hk) u
theorem C1J {p q:A3} (hp:linOkP p) (hq:linOkP q) (hi:p.1=q.1) (ho:p.2.2.2.length=q.2.2.2.length) (e:∀i,i < p.1.toNat→∀o,o < p.2.2.2.length→i9 (M7 (F6 (D0 p)) (i:Int) (o:Int)) (M7 (F6 (D0 q)) (i:Int) (o:Int))=true) {ins:List (List Int)} (hin:J9 p ins) (m:Nat):H9 p ins m=H9 q ins m:=by
 have hin2:J9 q ins:=⟨by rw[hin.1,hi],hin.2⟩
 have hTp:=T5 hp.ok
 have hTq:=T5 hq.ok
 have hFp:=(B8 hTp).1
 have hFq:=(B8 hTq).1
 have l1:(D0 p).2.2.2.length=p.2.2.2.length:=by simp[D0,A4v,A5p]
 have l2:(D0 q).2.2.2.length=q.2.2.2.length:=by simp[D0,A4v,A5p]
 have i1:J9 (D0 p) ins:=hin
 have i2:J9 (D0 q) ins:=hin2
 rw[A38 hp.ok hin,A38 hq.ok hin2];refine C0d (by rw[T1 hFp i1,T1 hFq i2];omega) fun k hk=>?_
 rw[T1 hFq i2] at hk;refine P0 (by rw[B2d hFp i1 (by omega),B2d hFq i2 hk]) fun t=>?_
 by_cases ht:t < m
 · rw[C48 hFp i1 (by omega) m ht,C48 hFq i2 hk m ht,B4K hFp (A6y hp.lin) i1 t (by omega),B4K hFq (A6y hq.lin) i2 t hk]
   have key:∀{i k:Nat},i < p.1.toNat→k < p.2.2.2.length→∀u,(A4m (F6 (D0 p)) (i:Int) u).getD k 0=(A4m (F6 (D0 q)) (i:Int) u).getD k 0:=fun h1 h2 u=>C7v (n:=p.1) (w:=p.2.2.2.length) hp.w hq.w hp.i (by rw[hq.i,hi]) hp.o (by rw[hq.o,ho]) e h1 h2 u
   have hn:(D0 p).1.toNat=p.1.toNat:=rfl
   have hn2:(D0 q).1.toNat=p.1.toNat:=by rw[hi];rfl
   rw[hn,hn2];generalize F6 (D0 p)=x at key
   generalize F6 (D0 q)=y at key
   congr 1
   refine G5 fun s _=>G5 fun i hi'=>?_
   exact congrArg (fun z=>A8F ins i s * z) (key hi' (by omega) (t - s))
 · rw[D7 (by rw[B2d hFp i1 (by omega)];omega),D7 (by rw[B2d hFq i2 hk];omega)]
/-! Draws: two patches. -/
def A4n:DM A3:=bnd (A1H 5) fun v s=>match v with
 | true=>A34 s
 | false=>A8D s
theorem C0t:Cost 1410 A4n:=by
 refine((A0b 5).bnd (b:=1400) fun v=>?_).le (by omega)
 cases v with
 | true=>exact C0e
 | false=>exact B9V.le (by omega)
def C5K (p:A3) (v:Bool):DM (A3 × A3):=fun s=>match v with
 | true=>bnd A4n (fun q s=>((p,q),s)) s
 | false => match B9 p with
   | false=>((p,p),s)
   | true=>((p,D0 p),s)
def B5o (cd:List Int):A3 × A3:=(bnd A4n (fun p s=>bnd (A1H 3) (C5K p) s) (cd,0,0)).1
/-! What EqualLinear's answer says. -/
theorem C7w {p q:A3} {sm:Bool} {ec:Int} (h:A7J p q=(sm,ec)):ec=O8 [p,q]:=by
 unfold A7J at h;cases k:decide (O8 [p,q]=0) with
 | false=>rw[k] at h;exact(congrArg Prod.snd h).symm
 | true=>rw[k] at h;rw[of_decide_eq_true k];exact(congrArg Prod.snd h).symm
theorem C1e {p q:A3} {ec:Int} (h:A7J p q=(true,ec)) (h0:O8 [p,q]=0):∀i,i < p.1.toNat→∀o,o < p.2.2.2.length→i9 (M7 (F6 (D0 p)) (i:Int) (o:Int)) (M7 (F6 (D0 q)) (i:Int) (o:Int))=true:=by
 unfold A7J at h;rw[decide_eq_true h0] at h;have h1:=congrArg Prod.fst h
 intro i hi o ho
 exact List.all_eq_true.1 (List.all_eq_true.1 h1 i (List.mem_range.2 hi)) o (List.mem_range.2 ho)
theorem C6M {p:A3} (hk:linOkP p) {mr:List Int} (h:∀b∈mr,0≤b∧b≤255):J9 p (B4h mr p.1.toNat):=by
 have h4:=hk.i4
 obtain⟨a1,a2⟩:=C5C h (n:=p.1.toNat) (by omega)
 exact⟨by rw[a1];omega,fun a ha=>⟨by rw[(a2 a ha).1];decide,(a2 a ha).2⟩⟩
theorem C1o {p q:A3} {ec:Int} (h:A7J p q=(true,ec)) (h0:O8 [p,q]=0) {ins:List (List Int)} (hin:J9 p ins):A0A p ins 12=(H9 p ins 12,0)∧A0A q ins 12=(H9 p ins 12,0):=by
 obtain⟨ht,hk,hk2⟩:=C4K h0
 have hin2:J9 q ins:=⟨by rw[hin.1,ht.i],hin.2⟩
 refine⟨A4c hk.ok (by rw[B0m.2 hin];rfl),?_⟩
 rw[C1J hk hk2 ht.i ht.o (C1e h h0) hin 12]
 exact A4c hk2.ok (by rw[B0m.2 hin2];rfl)
theorem B8p {p:A3} (hk:linOkP p) {x:b9} (hx:F6 (D0 p)=x) {i o:Int} (hi:0≤i∧i < p.1) (ho:0≤o∧o < p.2.2.2.length):B4m p i o 49=(m9 x i o 49,0):=by
 have hK:(J3 i 0 (p.1 - 1) && (J3 o 0 ((p.2.2.2.length:Int) - 1) && J3 49 0 4000))=true:=by
  rw[J8 hi.1 (by omega),J8 ho.1 (by omega)];rfl
 rw[B7M hk.ok hK];have h:=A95 hk hi ho 49
 rw[hx] at h;rw[←h];rfl
theorem C5g {p q:A3} (hk:linOkP p) (hk2:linOkP q) {x y:b9} (hx:F6 (D0 p)=x) (hy:F6 (D0 q)=y) {i o:Int} (hi:0≤i∧i < p.1) (hi2:0≤i∧i < q.1) (ho:0≤o∧o < p.2.2.2.length) (ho2:0≤o∧o < q.2.2.2.length) (h:m9 x i o 49=m9 y i o 49):i9 (M7 x i o) (M7 y i o)=true:=by
 have a1:=hk.w;have a2:=hk.n;have a3:=hk.i;have a4:=hk.o
 have b1:=hk2.w;have b2:=hk2.n;have b3:=hk2.i;have b4:=hk2.o
 rw[hx] at a1 a2 a3 a4
 rw[hy] at b1 b2 b3 b4
 cases e:i9 (M7 x i o) (M7 y i o) with
 | true=>rfl
 | false=>exact absurd h (C10 a1 b1 a2 b2 (by omega) (by omega) (by omega) (by omega) e)
set_option maxRecDepth 100000
set_option maxHeartbeats 4000000
def A9H:Con:=⟨[.val ((.row 2 (.int .i64))),.val ((.row 2 (.int .i64)))],[⟨.bool,true⟩],fun _=>True,fun x=>eqD (x.1:List Int) (x.2.1:List Int)⟩
theorem C4a:C9 Tryz.prog 41 A9H:=by
  refine A4 Tryz.func41 rfl ?_
  have hres:Tryz.f41.results.toList=[.tmp 4]:=rfl
  rintro⟨(xs:List Int),(ys:List Int),_⟩ hc hL
  simp only[A9H,go_sem] at hL
  obtain⟨lxs,lys⟩:=hL;simp only[A9H,St.init,St.initG,Tryz.ntmps41,go_sem] 
  refine oS fun _ hK1=>?_;refine oW A5 ?_;simp only[go_sem];refine hK1 _ ?_;refine oS fun _ hK2=>?_;refine oS fun _ hK3=>?_;refine oW A5 ?_;simp (maxSteps:=2000000)only[go_sem];refine hK3 _ ?_;refine oC rfl ?_ ?_
  ·
   intro c0;refine oS fun _ hK4=>?_;refine oW A5 ?_;simp only[go_sem];refine hK4 _ ?_;refine A0 ?_;simp only[hres,go_sem];first|exact oF|(refine⟨?_,oF⟩;exact(B7t (by omega)).symm)
  intro c0;refine A2 ?_;simp only[go_sem];refine hK2 _ ?_;refine oS fun _ hK5=>?_;refine oS fun _ hK6=>?_;refine oW A5 ?_;simp only[go_sem];refine hK6 _ ?_;refine A1 ?_;refine A7 (ι:={ k:Nat // k≤xs.length∧xs.take k=ys.take k }) (fun k=>⟨[zz,.c (.rd [] 2 (.int .i64) (ys)),zz,zz,zz,zz,zz,zz,zz,zz,zz,zz,.c (.rd [] 2 (.int .i64) (xs)),.c (.sc (.int .i64 (xs.length))),.c (.sc (.int .i64 (k.1))),zz,zz,zz,zz,zz,zz,zz,zz,zz,zz,zz],[]⟩) (fun k=>xs.length - k.1) ⟨0,by simp,by simp⟩ ?_ ?_
  ·
   refine oK ?_;simp (maxSteps:=2000000)only[go_sem];all_goals(first|rfl|((repeat' refine And.intro ?_ ?_)<;>first|rfl|simp))
  rintro⟨k,hk,hp⟩ K7 hL7
  refine oS fun _ hK8=>?_;refine oW A5 ?_;simp only[go_sem];refine hK8 _ ?_;refine oS fun _ hK9=>?_;refine oC rfl ?_ ?_
  ·
   intro c1;refine A2 ?_;simp only[go_sem];refine hK9 _ ?_;refine oS fun _ hK10=>?_;refine A1 ?_;refine oS fun _ hK11=>?_;refine oW A5 ?_;simp (maxSteps:=2000000)only[go_sem];repeat(with_reducible refine oA ?_)
   refine hK11 _ ?_;refine oS fun _ hK12=>?_;refine oW A5 ?_;simp (maxSteps:=2000000)only[go_sem];repeat(with_reducible refine oA ?_)
   refine hK12 _ ?_;refine oC rfl ?_ ?_
   ·
    intro c2;refine oS fun _ hK13=>?_;refine oW A5 ?_;simp only[go_sem];refine hK13 _ ?_;refine A0 ?_;simp only[hres,go_sem];first|exact oF|(refine⟨?_,oF⟩;exact(B2v (0:Int) (m:=k) (decide_eq_false (by assumption))).symm)
   intro c2;refine A2 ?_;simp only[go_sem];refine hK10 _ ?_;refine oW A5 ?_;simp only[go_sem];refine hL7 ⟨k+1,by omega,B2x (d:=(0:Int)) (by omega) (by omega) hp (decide_eq_true (by assumption))⟩ _ (oK ?_) ?_
   ·
    simp (maxSteps:=2000000)only[go_sem];all_goals(first|rfl|((repeat' refine And.intro ?_ ?_)<;>first|rfl|exact wk (by omega)|simp))
   ·
    first|(simp only[];omega)|omega|(simp;omega)
  intro c1;refine B6 ?_;simp only[go_sem];refine hK5 _ ?_;refine oS fun _ hK14=>?_;refine oW A5 ?_;simp only[go_sem];refine hK14 _ ?_;refine A0 ?_;simp only[hres,go_sem];first|exact oF|(refine⟨?_,oF⟩;exact(B2S (m:=k) (by omega) (by omega) hp).symm)
def B7U:E4:=fun f=>if f=41 then some (.p A9H) else Z3 f
theorem W1:B4 Tryz.prog B7U:=E3 C4a (B0 Tryz.func41 rfl (by decide)) A5
attribute [go_sem] B7U A9H
def A26:Con:=⟨[.val ((.row 2 (.int .i64))),.val ((.row 2 (.int .i64)))],[⟨.bool,true⟩],fun _=>True,fun x=>eqD (x.1:List Int) (x.2.1:List Int)⟩
theorem B70:C9 Tryz.prog 55 A26:=by
  refine A4 Tryz.func55 rfl ?_
  have hres:Tryz.f55.results.toList=[.tmp 4]:=rfl
  rintro⟨(xs:List Int),(ys:List Int),_⟩ hc hL
  simp only[A26,go_sem] at hL
  obtain⟨lxs,lys⟩:=hL;simp only[A26,St.init,St.initG,Tryz.ntmps55,go_sem] 
  refine oS fun _ hK1=>?_;refine oW W1 ?_;simp only[go_sem];refine hK1 _ ?_;refine oS fun _ hK2=>?_;refine oS fun _ hK3=>?_;refine oW W1 ?_;simp (maxSteps:=2000000)only[go_sem];refine hK3 _ ?_;refine oC rfl ?_ ?_
  ·
   intro c0;refine oS fun _ hK4=>?_;refine oW W1 ?_;simp only[go_sem];refine hK4 _ ?_;refine A0 ?_;simp only[hres,go_sem];first|exact oF|(refine⟨?_,oF⟩;exact(B7t (by omega)).symm)
  intro c0;refine A2 ?_;simp only[go_sem];refine hK2 _ ?_;refine oS fun _ hK5=>?_;refine oS fun _ hK6=>?_;refine oW W1 ?_;simp only[go_sem];refine hK6 _ ?_;refine A1 ?_;refine A7 (ι:={ k:Nat // k≤xs.length∧xs.take k=ys.take k }) (fun k=>⟨[.c (.rd [] 2 (.int .i64) (xs)),.c (.rd [] 2 (.int .i64) (ys)),zz,zz,zz,.c (.sc (.int .i64 (k.1))),zz,zz,zz,zz,zz,zz,zz,zz,zz,zz,zz,zz,zz,zz,zz,zz,zz,zz,zz,zz],[]⟩) (fun k=>xs.length - k.1) ⟨0,by simp,by simp⟩ ?_ ?_
  ·
   refine oK ?_;simp (maxSteps:=2000000)only[go_sem];all_goals(first|rfl|((repeat' refine And.intro ?_ ?_)<;>first|rfl|simp))
  rintro⟨k,hk,hp⟩ K7 hL7
  refine oS fun _ hK8=>?_;refine oS fun _ hK9=>?_;refine oW W1 ?_;simp only[go_sem];refine hK9 _ ?_;refine oC rfl ?_ ?_
  ·
   intro c1;refine A2 ?_;simp only[go_sem];refine hK8 _ ?_;refine oS fun _ hK10=>?_;refine A1 ?_;refine oS fun _ hK11=>?_
   refine oR W1
     [[],[],[0,1],[0,1,2],[],[],[4,5],[4,5,6],[0,1,2,3,4,5,6,7]]
     [[],[],[],[],[],[],[],[],[]]
     [[],[],[],[],[],[],[],[],[]] (by kernel_rfl) (by kernel_rfl) (A9 (acc:=[]) ?_)
   simp (maxSteps:=2000000)only[go_sem];repeat(with_reducible refine oD ?_)
   refine hK11 _ ?_;refine oC rfl ?_ ?_
   ·
    intro c2;refine oS fun _ hK12=>?_;refine oW W1 ?_;simp only[go_sem];refine hK12 _ ?_;refine A0 ?_;simp only[hres,go_sem];first|exact oF|(refine⟨?_,oF⟩;exact(B2v (0:Int) (m:=k) (decide_eq_false (by assumption))).symm)
   intro c2;refine A2 ?_;simp only[go_sem];refine hK10 _ ?_;refine oW W1 ?_;simp only[go_sem];refine hL7 ⟨k+1,by omega,B2x (d:=(0:Int)) (by omega) (by omega) hp (decide_eq_true (by assumption))⟩ _ (oK ?_) ?_
   ·
    simp (maxSteps:=2000000)only[go_sem];all_goals(first|rfl|((repeat' refine And.intro ?_ ?_)<;>first|rfl|exact wk (by omega)|simp))
   ·
    first|(simp only[];omega)|omega|(simp;omega)
  intro c1;refine B6 ?_;simp only[go_sem];refine hK5 _ ?_;refine oS fun _ hK13=>?_;refine oW W1 ?_;simp only[go_sem];refine hK13 _ ?_;refine A0 ?_;simp only[hres,go_sem];first|exact oF|(refine⟨?_,oF⟩;exact(B2S (m:=k) (by omega) (by omega) hp).symm)
def A6t:E4:=fun f=>if f=55 then some (.p A26) else B7U f
theorem B2X:B4 Tryz.prog A6t:=E3 B70 (B0 Tryz.func55 rfl (by decide)) W1
attribute [go_sem] A6t A26
def A2g:E4:=A6t
theorem A4q:B4 Tryz.prog A2g:=B2X
attribute [go_sem] A2g
end Go.Proofs.YtgaogcnfijbahaaGreat
