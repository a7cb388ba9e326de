/-
  Texts of this claim, joined (part 19). No condition beyond those of the theorems.
-/
import Derived.Test.YtenjbehedcegdaaGreatQ18
namespace Go.Proofs.YtenjbehedcegdaaGreat
open Go.RowKit
set_option linter.unusedSimpArgs false
set_option linter.unusedVariables false
structure CInv (ns:List B1) (done:List Int) (c:List A1) (s:List Int):Prop where
 each:∀t,t < c.length→(∃i,i < ns.length∧c.getD t x0=J4 (ns.getD i n0) i∧¬(ns.getD i n0).1=18)∨∃d,d < ns.length∧(ns.getD d n0).1=6∧c.getD t x0=O4 (ns.getD d n0) d
 frm:∀t,t < c.length→∀q∈xF (c.getD t x0),∃u,u < t∧¬(c.getD u x0).1=18∧xN (c.getD u x0)=q
 dly:∀t,t < c.length→(c.getD t x0).1=18→∃u,u < t∧¬(c.getD u x0).1=18∧xN (c.getD u x0)=xN (c.getD t x0)
 dn:∀q∈done,∃u,u < c.length∧¬(c.getD u x0).1=18∧xN (c.getD u x0)=q
 sto:∀t,t < c.length→(c.getD t x0).1=18→xN (c.getD t x0)∈s
 has:∀q∈s,∃t,t < c.length∧(c.getD t x0).1=18∧xN (c.getD t x0)=q
 once:∀t t',t < c.length→t' < c.length→(c.getD t x0).1=18→(c.getD t' x0).1=18→xN (c.getD t x0)=xN (c.getD t' x0)→t=t'
section
variable {ns:List B1} {done:List Int} {c:List A1} {s:List Int} (h:CInv ns done c s)
theorem A03 {x:A1} {t:Nat} (ht:t < c.length):(c++[x]).getD t x0=c.getD t x0:=by
 rw[List.getD_eq_getElem?_getD,List.getElem?_append_left ht,←List.getD_eq_getElem?_getD]
theorem A4b {x:A1}:(c++[x]).getD c.length x0=x:=by
 rw[List.getD_eq_getElem?_getD,List.getElem?_append_right (Nat.le_refl _),Nat.sub_self];rfl
theorem Q1 {x:A1} {t:Nat} (ht:t < (c++[x]).length):(t < c.length∧(c++[x]).getD t x0=c.getD t x0)∨(t=c.length∧(c++[x]).getD t x0=x):=by
 rw[List.length_append,List.length_singleton] at ht;rcases Nat.lt_succ_iff_lt_or_eq.1 ht with h|h
 · exact .inl ⟨h,A03 h⟩
 · subst h;exact .inr ⟨rfl,A4b⟩
include h
theorem CInv.instr {i:Nat} (hi:i < ns.length) (hk:¬(ns.getD i n0).1=18) (hw:∀q∈G9 (ns.getD i n0),q∈done):CInv ns (done++[(i:Int)]) (c++[J4 (ns.getD i n0) i]) s:=by
 have hx18:¬(J4 (ns.getD i n0) i).1=18:=hk
 have up:∀{q:Int} {m:Nat},m≤c.length→(∃u,u < m∧¬(c.getD u x0).1=18∧xN (c.getD u x0)=q)→∃u,u < m∧¬((c++[J4 (ns.getD i n0) i]).getD u x0).1=18∧xN ((c++[J4 (ns.getD i n0) i]).getD u x0)=q:=fun hm ⟨u,h1,h2,h3⟩=>⟨u,h1,by rw[A03 (by omega)];exact h2,by rw[A03 (by omega)];exact h3⟩
 refine⟨fun t ht=>?_,fun t ht q hq=>?_,fun t ht h18=>?_,fun q hq=>?_,fun t ht h18=>?_,fun q hq=>?_,fun t t' ht ht' h1 h2 e=>?_⟩
 · rcases Q1 ht with⟨h1,e⟩|⟨h1,e⟩
   · rw[e];exact h.each t h1
   · rw[e];exact .inl ⟨i,hi,rfl,hk⟩
 · rcases Q1 ht with⟨h1,e⟩|⟨h1,e⟩
   · rw[e] at hq;exact up (by omega) (h.frm t h1 q hq)
   · rw[e] at hq;rw[h1];exact up (Nat.le_refl _) (h.dn q (hw q hq))
 · rcases Q1 ht with⟨h1,e⟩|⟨h1,e⟩
   · rw[e] at h18 ⊢;exact up (by omega) (h.dly t h1 h18)
   · rw[e] at h18;exact absurd h18 hx18
 · rcases List.mem_append.1 hq with hq|hq
   · obtain⟨u,h1,h2,h3⟩:=up (Nat.le_refl _) (h.dn q hq)
     exact⟨u,by rw[List.length_append];omega,h2,h3⟩
   · rw[List.mem_singleton.1 hq];exact⟨c.length,by rw[List.length_append,List.length_singleton];omega,by rw[A4b];exact hx18,by rw[A4b];rfl⟩
 · rcases Q1 ht with⟨h1,e⟩|⟨h1,e⟩
   · rw[e] at h18 ⊢;exact h.sto t h1 h18
   · rw[e] at h18;exact absurd h18 hx18
 · obtain⟨t,h1,h2,h3⟩:=h.has q hq
   exact⟨t,by rw[List.length_append];omega,by rw[A03 h1];exact h2,by rw[A03 h1];exact h3⟩
 · rcases Q1 ht with⟨g1,e1⟩|⟨g1,e1⟩
   · rcases Q1 ht' with⟨g2,e2⟩|⟨g2,e2⟩
     · rw[e1] at h1 e;rw[e2] at h2 e;exact h.once t t' g1 g2 h1 h2 e
     · rw[e2] at h2;exact absurd h2 hx18
   · rw[e1] at h1;exact absurd h1 hx18
theorem CInv.store {d:Nat} (hd:d < ns.length) (hl:(ns.getD d n0).1=6→(ns.getD d n0).2.2.2.length=1) (hb:y1 ns done s d=true):CInv ns done (c++[O4 (ns.getD d n0) d]) (s++[(d:Int)]):=by
 simp only[y1,Bool.and_eq_true,decide_eq_true_eq,Bool.not_eq_true',List.contains_eq_mem,decide_eq_false_iff_not] at hb
 obtain⟨b1,b2,b3,b4⟩:=hb;have hx18:(O4 (ns.getD d n0) d).1=18:=rfl
 have up:∀{q:Int} {m:Nat},m≤c.length→(∃u,u < m∧¬(c.getD u x0).1=18∧xN (c.getD u x0)=q)→∃u,u < m∧¬((c++[O4 (ns.getD d n0) d]).getD u x0).1=18∧xN ((c++[O4 (ns.getD d n0) d]).getD u x0)=q:=fun hm ⟨u,h1,h2,h3⟩=>⟨u,h1,by rw[A03 (by omega)];exact h2,by rw[A03 (by omega)];exact h3⟩
 refine⟨fun t ht=>?_,fun t ht q hq=>?_,fun t ht h18=>?_,fun q hq=>?_,fun t ht h18=>?_,fun q hq=>?_,fun t t' ht ht' h1 h2 e=>?_⟩
 · rcases Q1 ht with⟨h1,e⟩|⟨h1,e⟩
   · rw[e];exact h.each t h1
   · rw[e];exact .inr ⟨d,hd,b1,rfl⟩
 · rcases Q1 ht with⟨h1,e⟩|⟨h1,e⟩
   · rw[e] at hq;exact up (by omega) (h.frm t h1 q hq)
   · rw[e] at hq;rw[h1];have hq':q∈(ns.getD d n0).2.2.2:=hq
     rw[←B5k (hl b1)] at hq'
     rw[List.mem_singleton.1 hq']
     exact up (Nat.le_refl _) (h.dn _ b4)
 · rcases Q1 ht with⟨h1,e⟩|⟨h1,e⟩
   · rw[e] at h18 ⊢;exact up (by omega) (h.dly t h1 h18)
   · rw[e,h1];exact up (Nat.le_refl _) (h.dn _ b3)
 · obtain⟨u,h1,h2,h3⟩:=up (Nat.le_refl _) (h.dn q hq)
   exact⟨u,by rw[List.length_append];omega,h2,h3⟩
 · rcases Q1 ht with⟨h1,e⟩|⟨h1,e⟩
   · rw[e] at h18 ⊢;exact List.mem_append_left _ (h.sto t h1 h18)
   · rw[e];exact List.mem_append_right _ (List.mem_singleton.2 rfl)
 · rcases List.mem_append.1 hq with hq|hq
   · obtain⟨t,h1,h2,h3⟩:=h.has q hq
     exact⟨t,by rw[List.length_append];omega,by rw[A03 h1];exact h2,by rw[A03 h1];exact h3⟩
   · rw[List.mem_singleton.1 hq];exact⟨c.length,by rw[List.length_append,List.length_singleton];omega,by rw[A4b];rfl,by rw[A4b];rfl⟩
 · have hno:∀u,u < c.length→(c.getD u x0).1=18→¬xN (c.getD u x0)=(d:Int):=fun u h1 h2 h3=>b2 (h3 ▸ h.sto u h1 h2)
   rcases Q1 ht with⟨g1,e1⟩|⟨g1,e1⟩
   · rcases Q1 ht' with⟨g2,e2⟩|⟨g2,e2⟩
     · rw[e1] at h1 e;rw[e2] at h2 e;exact h.once t t' g1 g2 h1 h2 e
     · rw[e1] at h1 e;rw[e2] at e;exact absurd e (hno t g1 h1)
   · rcases Q1 ht' with⟨g2,e2⟩|⟨g2,e2⟩
     · rw[e2] at h2 e;rw[e1] at e;exact absurd e.symm (hno t' g2 h2)
     · omega
end
theorem CInv.putM {p:B7} (hF:E4 p=true) {done:List Int} {st:U8} (h:CInv p.2.2.1 done st.1 st.2):∀m,m≤p.2.2.1.length→CInv p.2.2.1 done (putN p.2.2.1 done st m).1 (putN p.2.2.1 done st m).2 ∧
 ∀d,d < m→(p.2.2.1.getD d n0).1=6→(d:Int)∈done→(p.2.2.1.getD d n0).2.2.2.getD 0 0∈done→(d:Int)∈(putN p.2.2.1 done st m).2:=by
 intro m
 induction m with
 | zero=>intro _;exact⟨h,fun d hd=>absurd hd (Nat.not_lt_zero _)⟩
 | succ m ih =>
   intro hm;obtain⟨i1,i2⟩:=ih (by omega)
   show CInv p.2.2.1 done (A6N p.2.2.1 done (putN p.2.2.1 done st m) m).1 (A6N p.2.2.1 done (putN p.2.2.1 done st m) m).2∧∀d,d < m+1→(p.2.2.1.getD d n0).1=6→(d:Int)∈done→(p.2.2.1.getD d n0).2.2.2.getD 0 0∈done→(d:Int)∈(A6N p.2.2.1 done (putN p.2.2.1 done st m) m).2
   cases e:y1 p.2.2.1 done (putN p.2.2.1 done st m).2 m with
   | true =>
     rw[B1i e];refine⟨i1.store (by omega) (Z8 hF (by omega)).2.2.2.2 e,fun d hd h6 h1 h2=>?_⟩
     rcases Nat.lt_succ_iff_lt_or_eq.1 hd with h'|h'
     · exact List.mem_append_left _ (i2 d h' h6 h1 h2)
     · subst h';exact List.mem_append_right _ (List.mem_singleton.2 rfl)
   | false =>
     rw[B1X e];refine⟨i1,fun d hd h6 h1 h2=>?_⟩
     rcases Nat.lt_succ_iff_lt_or_eq.1 hd with h'|h'
     · exact i2 d h' h6 h1 h2
     · subst h'
       apply Classical.byContradiction
       intro hc;rw[B6T h6 (by simpa using hc) (by simpa using h1) (by simpa using h2)] at e
       cases e
theorem B4g {p:B7} (hF:E4 p=true):∀k,k≤(E3 p.2.2.1).length→CInv p.2.2.1 ((E3 p.2.2.1).take k) (R6 p.2.2.1 (E3 p.2.2.1) k).1 (R6 p.2.2.1 (E3 p.2.2.1) k).2 ∧
 (0 < k→∀d,d < p.2.2.1.length→(p.2.2.1.getD d n0).1=6→(d:Int)∈(E3 p.2.2.1).take k→(p.2.2.1.getD d n0).2.2.2.getD 0 0∈(E3 p.2.2.1).take k→(d:Int)∈(R6 p.2.2.1 (E3 p.2.2.1) k).2):=by
 intro k
 induction k with
 | zero=>intro _;exact⟨⟨fun t ht=>absurd ht (Nat.not_lt_zero _),fun t ht=>absurd ht (Nat.not_lt_zero _),fun t ht=>absurd ht (Nat.not_lt_zero _),(fun q hq=>by cases hq),fun t ht=>absurd ht (Nat.not_lt_zero _),(fun q hq=>by cases hq),fun t t' ht=>absurd ht (Nat.not_lt_zero _)⟩,fun h=>absurd h (Nat.lt_irrefl _)⟩
 | succ k ih =>
   intro hk;obtain⟨i,h1,h2,h3,h4⟩:=W2 p.2.2.1 k (by omega)
   have hi:=(ih (by omega)).1.instr h2 (by have:=(Z8 hF h2).2.1;omega) h4
   have e1:(E3 p.2.2.1).take (k+1)=(E3 p.2.2.1).take k++[(i:Int)]:=by rw[J8 (d:=(0:Int)) (by omega),h1]
   rw[←e1] at hi;have e2:J4 (nAt p.2.2.1 ((E3 p.2.2.1).getD k 0)) ((E3 p.2.2.1).getD k 0)=J4 (p.2.2.1.getD i n0) i:=by rw[h1];unfold nAt;rw[Int.toNat_natCast]
   have:=CInv.putM hF (st:=((R6 p.2.2.1 (E3 p.2.2.1) k).1++[J4 (p.2.2.1.getD i n0) i],(R6 p.2.2.1 (E3 p.2.2.1) k).2)) hi p.2.2.1.length (Nat.le_refl _)
   rw[←e2] at this;exact⟨this.1,fun _ d hd h6 g1 g2=>this.2 d hd h6 g1 g2⟩
structure CodeAll (ns:List B1) (c:List A1):Prop where
 each:∀t,t < c.length→(∃i,i < ns.length∧c.getD t x0=J4 (ns.getD i n0) i∧¬(ns.getD i n0).1=18)∨∃d,d < ns.length∧(ns.getD d n0).1=6∧c.getD t x0=O4 (ns.getD d n0) d
 frm:∀t,t < c.length→∀q∈xF (c.getD t x0),∃u,u < t∧¬(c.getD u x0).1=18∧xN (c.getD u x0)=q
 dly:∀t,t < c.length→(c.getD t x0).1=18→∃u,u < t∧¬(c.getD u x0).1=18∧xN (c.getD u x0)=xN (c.getD t x0)
 all:∀i:Nat,i < ns.length→∃u,u < c.length∧¬(c.getD u x0).1=18∧xN (c.getD u x0)=(i:Int)
 sto:∀d:Nat,d < ns.length→(ns.getD d n0).1=6→∃t,t < c.length∧(c.getD t x0).1=18∧xN (c.getD t x0)=(d:Int)
 once:∀t t',t < c.length→t' < c.length→(c.getD t x0).1=18→(c.getD t' x0).1=18→xN (c.getD t x0)=xN (c.getD t' x0)→t=t'
theorem Q2 {p:B7} (hP:G3 p=true):CodeAll p.2.2.1 (C1 p.2.2.1):=by
 obtain⟨hF,hl⟩:=E1 hP
 obtain⟨h,h2⟩:=B4g hF _ (Nat.le_refl _)
 rw[List.take_length] at h h2
 have hall:∀i:Nat,i < p.2.2.1.length→(i:Int)∈E3 p.2.2.1:=fun i hi=>(W2 p.2.2.1).full hl hi
 refine⟨h.each,h.frm,h.dly,fun i hi=>h.dn _ (hall i hi),fun d hd h6=>?_,h.once⟩
 obtain⟨f0,f1⟩:=B0p hF hd
 have hf:(p.2.2.1.getD d n0).2.2.2.getD 0 0∈E3 p.2.2.1:=by
  have:=hall ((p.2.2.1.getD d n0).2.2.2.getD 0 0).toNat (by omega)
  rwa [Int.toNat_of_nonneg f0] at this
 exact h.has _ (h2 (by omega) d hd h6 (hall d hd) hf)
end Go.Proofs.YtenjbehedcegdaaGreat
