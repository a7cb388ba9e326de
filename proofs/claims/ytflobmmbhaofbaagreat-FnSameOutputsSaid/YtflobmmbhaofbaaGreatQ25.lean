/-
  Texts of this claim, joined (part 25). No condition beyond those of the theorems.
-/
import Derived.Test.YtflobmmbhaofbaaGreatQ24
namespace Go.Proofs.YtflobmmbhaofbaaGreat
open Go.RowKit
set_option linter.unusedSimpArgs false
set_option linter.unusedVariables false
/-! A node that waits for nodes of its patch: the rules. -/
theorem B22 {p:A6} {i:Int} (h:(E8 p i).2.2.2.length=1):B2Z p i=P4 (E8 p i) 0:=by unfold B2Z;rw[decide_eq_true h]
theorem A0K {n:A4} (h:¬n.1=6):D9 n=n.2.2.2:=by unfold D9;rw[decide_eq_false h]
theorem C1y {n:A4} (h:n.1=6):D9 n=[]:=by unfold D9;rw[decide_eq_true h]
structure SetOk (p:A6) (i:Int) (n:A4):Prop where
 ok:K0 p n=true
 fr:∀f∈n.2.2.2,f∈(E8 p i).2.2.2∨∃g∈(E8 p i).2.2.2,f∈(E8 p g).2.2.2
 wt:∀f∈D9 n,f∈D9 (E8 p i)∨∃g∈D9 (E8 p i),f∈D9 (E8 p g)
inductive SetK (p:A6) (i:Int) (n:A4):Prop
 | con (h:¬(E8 p i).1=2) (k:n.1=2)
 | fac (h:(E8 p i).1=9) (k:n.1=5) (hx:P4 n 0∈D9 (E8 p i))
 | gai (h:(E8 p i).1=5) (k:n.1=5) (g:Int) (hg:g∈D9 (E8 p i)) (hf:P4 (E8 p i) 0=g) (hx:P4 n 0∈D9 (E8 p g))
 | del (h:(E8 p i).1=6) (k:n.1=6) (hl:(E8 p i).2.1 < n.2.1) (hn:n.2.1≤16) (h0:1≤(E8 p i).2.1)
structure RepOk (p:A6) (i b:Int):Prop where
 rng:0≤b∧b < p.2.2.1.length
 wt:b∈D9 (E8 p i)∨E8 p b=E8 p i
 mkd:(S4 p).getD b.toNat false=true
 ne:b∈D9 (E8 p i)∨b < i
theorem B4R {p:A6} (hF:C5 p=true) {i:Int} (hi:0≤i∧i < p.2.2.1.length) (h:A55 p i=true):stepOk (E8 p i) p.2.1 ((E8 p i).2.2.2.map fun f=>(E8 p f).2.1) []:=by
 obtain⟨h1,_⟩:=G1 (B8s hF hi)
 have hk:A9d.contains (E8 p i).1=true:=by unfold A55 at h;simp only[Bool.and_eq_true] at h;exact h.1
 have hk':(E8 p i).1=3∨(E8 p i).1=4∨(E8 p i).1=5∨(E8 p i).1=9∨(E8 p i).1=10∨(E8 p i).1=11∨(E8 p i).1=13∨(E8 p i).1=15:=by
  simpa [A9d] using hk
 refine⟨h1,(A8 hF).2.2.1,?_,?_,?_,rfl⟩
 · unfold B7o;rw[decide_eq_false (show ¬(E8 p i).1=1 by omega)];simp
 · rw[A4L,if_neg (by omega),if_neg (by omega),if_neg (by omega)];rfl
 · refine V7.2 fun x hx=>?_
   obtain⟨f,hf,rfl⟩:=List.mem_map.1 hx
   exact(r6 hF (O0 hF hi hf)).1
theorem B6Y {p:A6} (i:Int) {v:Int} (h:smp v=true):SetOk p i (2,v,0,[]):=⟨C0w p h,(fun f hf=>by cases hf),fun f hf=>by rw[A0K (by show ¬(2:Int)=6;decide)] at hf;cases hf⟩
theorem C3t {p:A6} {i:Int} (h:A4x p i=true):SetOk p i (2,0,0,[])∧SetK p i (2,0,0,[]):=by
 refine⟨B6Y i rfl,.con (fun e=>?_) rfl⟩
 unfold A4x at h;rw[e] at h
 revert h
 simp
theorem C3A {p:A6} {i:Int} (h:0≤A2C p (F0 p) i):RepOk p i (A2C p (F0 p) i):=by
 obtain⟨h1,h2,h3⟩:=C38 h
 have hm0:(S4 p).getD (A2C p (F0 p) i).toNat false=true:=by obtain⟨j,_,h4,e⟩:=A0J.1 h1;rw[e,Int.toNat_natCast];exact h4
 exact⟨M7 h1,.inr h3,hm0,.inr h2⟩
section
variable {p:A6} (hP:C7 p=true) {i:Int} (hi:i∈F0 p)
include hP hi
theorem C3d (h:A55 p i=true):SetOk p i (2,B9z p i,0,[])∧SetK p i (2,B9z p i,0,[]):=by
 have hF:=(A9 hP).1
 have hr:=M7 hi
 have hst:=B4R hF hr h
 have hk:A9d.contains (E8 p i).1=true:=by unfold A55 at h;simp only[Bool.and_eq_true] at h;exact h.1
 exact⟨B6Y i (B4G hst),.con (fun e=>by rw[e] at hk;revert hk;decide) rfl⟩
theorem C2w (h:0≤r4 p i):RepOk p i (r4 p i):=by
 have hF:=(A9 hP).1
 have hr:=M7 hi
 have hm:=C2G hF hr h
 have h1:r4 p i∈(E8 p i).2.2.2:=by
  unfold D9 at hm
  split at hm
  · cases hm
  · exact hm
 have hm0:(S4 p).getD i.toNat false=true:=by obtain⟨j,_,h2,rfl⟩:=A0J.1 hi;rw[Int.toNat_natCast];exact h2
 exact⟨O0 hF hr h1,.inl hm,Z5 hF (by omega) hm0 h1,.inl hm⟩
theorem C3s (h:A9k p i=true):SetOk p i (B3T p i)∧SetK p i (B3T p i):=by
 have hF:=(A9 hP).1
 have hr:=M7 hi
 unfold A9k at h;simp only[Bool.and_eq_true,decide_eq_true_eq,Bool.or_eq_true] at h
 obtain⟨h9,hc⟩:=h;obtain⟨_,_,h2,_⟩:=r6 hF hr
 have hl:=h2 (by omega)
 have m0:P4 (E8 p i) 0∈(E8 p i).2.2.2:=b5 (by omega)
 have m1:P4 (E8 p i) 1∈(E8 p i).2.2.2:=b5 (by omega)
 have hw:D9 (E8 p i)=(E8 p i).2.2.2:=A0K (by omega)
 have hl24:=(A8 hF).1
 have key:∀v x,smp v=true→x∈(E8 p i).2.2.2→SetOk p i (5,v,0,[x])∧SetK p i (5,v,0,[x]):=fun v x hv hx =>
  ⟨⟨B6r p hl24 hv (O0 hF hr hx),fun f hf=>by rw[List.mem_singleton.1 hf];exact .inl hx,fun f hf=>by rw[A0K (by show ¬(5:Int)=6;decide)] at hf;rw[List.mem_singleton.1 hf,hw];exact .inl hx⟩,.fac h9 rfl (by rw[hw];exact hx)⟩
 unfold B3T;cases c:isC p (P4 (E8 p i) 0) with
 | true=>exact key _ _ (r6 hF (O0 hF hr m0)).1 m1
 | false=>exact key _ _ (r6 hF (O0 hF hr m1)).1 m0
theorem C3B (h:A9V p i=true):SetOk p i (5,wrap32 ((E8 p i).2.1 * (E8 p (P4 (E8 p i) 0)).2.1),0,(E8 p (P4 (E8 p i) 0)).2.2.2)∧SetK p i (5,wrap32 ((E8 p i).2.1 * (E8 p (P4 (E8 p i) 0)).2.1),0,(E8 p (P4 (E8 p i) 0)).2.2.2):=by
 have hF:=(A9 hP).1
 have hr:=M7 hi
 unfold A9V at h;simp only[Bool.and_eq_true,decide_eq_true_eq] at h
 obtain⟨h5,hg⟩:=h;obtain⟨_,_,_,h1,_⟩:=r6 hF hr
 have hl:=h1 (by omega)
 rw[B22 hl] at hg;have m0:P4 (E8 p i) 0∈(E8 p i).2.2.2:=b5 (by omega)
 have hrg:=O0 hF hr m0
 obtain⟨_,_,_,h1',_⟩:=r6 hF hrg
 have hl':=h1' (by omega)
 have hw:D9 (E8 p i)=(E8 p i).2.2.2:=A0K (by omega)
 have hw':D9 (E8 p (P4 (E8 p i) 0))=(E8 p (P4 (E8 p i) 0)).2.2.2:=A0K (by omega)
 have hl24:=(A8 hF).1
 have m1:P4 (E8 p (P4 (E8 p i) 0)) 0∈(E8 p (P4 (E8 p i) 0)).2.2.2:=b5 (by omega)
 have e1:=B3M hl'
 have m1':(E8 p (P4 (E8 p i) 0)).2.2.2.getD 0 0∈(E8 p (P4 (E8 p i) 0)).2.2.2:=m1
 refine⟨⟨?_,fun f hf=>.inr ⟨_,m0,hf⟩,fun f hf=>?_⟩,.gai h5 rfl _ (by rw[hw];exact m0) rfl (by rw[hw'];exact m1)⟩
 · rw[e1];exact B6r p hl24 (A3q _) (O0 hF hrg m1')
 · rw[A0K (by show ¬(5:Int)=6;decide)] at hf
   exact .inr ⟨_,by rw[hw];exact m0,by rw[hw'];exact hf⟩
theorem C39 (h:A9A p i=true):SetOk p i (6,(E8 p i).2.1+(E8 p (P4 (E8 p i) 0)).2.1,0,(E8 p (P4 (E8 p i) 0)).2.2.2)∧SetK p i (6,(E8 p i).2.1+(E8 p (P4 (E8 p i) 0)).2.1,0,(E8 p (P4 (E8 p i) 0)).2.2.2):=by
 have hF:=(A9 hP).1
 have hr:=M7 hi
 unfold A9A at h;simp only[Bool.and_eq_true,decide_eq_true_eq] at h
 obtain⟨h6,_,hg,hm⟩:=h;obtain⟨_,ha,_,h1,_⟩:=r6 hF hr
 have hl:=h1 (by omega)
 rw[B22 hl] at hg hm
 have m0:P4 (E8 p i) 0∈(E8 p i).2.2.2:=b5 (by omega)
 have hrg:=O0 hF hr m0
 obtain⟨_,ha',_,h1',_⟩:=r6 hF hrg
 have hl':=h1' (by omega)
 have ha:=ha h6
 have ha':=ha' hg
 have hl24:=(A8 hF).1
 have e1:=B3M hl'
 have m1':(E8 p (P4 (E8 p i) 0)).2.2.2.getD 0 0∈(E8 p (P4 (E8 p i) 0)).2.2.2:=B9 (by omega)
 refine⟨⟨?_,fun f hf=>.inr ⟨_,m0,hf⟩,fun f hf=>?_⟩,.del h6 rfl (by show _ < _+_;omega) hm ha.1⟩
 · rw[e1];exact C0D p hl24 ⟨by omega,hm⟩ (O0 hF hrg m1')
 · rw[C1y rfl] at hf;cases hf
end
theorem A6H {p:A6} (hP:C7 p=true) {r i:Int} (hi:i∈F0 p) (h:RulI p i r):(∃n,U7 p r i=U3 p i n∧SetOk p i n∧SetK p i n)∨∃b,U7 p r i=A0j p i b∧RepOk p i b:=by
 cases h with
 | con h=>exact .inl ⟨_,rfl,C3d hP hi h⟩
 | nul h=>exact .inl ⟨_,rfl,C3t h⟩
 | sam h=>exact .inr ⟨_,rfl,C2w hP hi h⟩
 | fac h=>exact .inl ⟨_,rfl,C3s hP hi h⟩
 | gai h=>exact .inl ⟨_,rfl,C3B hP hi h⟩
 | del h=>exact .inl ⟨_,rfl,C39 hP hi h⟩
 | twn h=>exact .inr ⟨_,rfl,C3A h⟩
theorem B8l {p:A6} (hP:C7 p=true) {i:Int} (hi:0≤i∧i < p.2.2.1.length) {n:A4} (h:SetOk p i n):C7 (U3 p i n)=true :=
 B2t (A9I (A9 hP).1 h.ok) (C1U hi (B0L hP) h.wt)
theorem B5k {p:A6} (hP:C7 p=true) {i b:Int} (hi:0≤i∧i < p.2.2.1.length) (h:RepOk p i b):C7 (A0j p i b)=true :=
 B2t (A8C (A9 hP).1 h.rng) (C1H hi h.rng (B0L hP) h.wt)
theorem C1n {p:A6} (hP:C7 p=true):C7 (A75 p)=true:=by
 unfold A75;cases e:A0h p with
 | none=>exact hP
 | some x =>
   obtain⟨r,i⟩:=x;obtain⟨h1,h2⟩:=A4d e
   rcases A6H hP h1 h2 with⟨n,e2,h3,_⟩|⟨b,e2,h3⟩
   · simp only;rw[e2];exact B8l hP (M7 h1) h3
   · simp only;rw[e2];exact B5k hP (M7 h1) h3
theorem B6g {p:A6} (hP:C7 p=true):∀k,C7 (Z3 k p)=true:=by
 intro k
 induction k with
 | zero=>exact hP
 | succ k ih=>exact C1n ih
/-! The number of needed nodes. -/
theorem A0p (M:List Bool) (k:Nat):(A6u M k).length=(List.range k).countP fun i=>M.getD i false:=by
 simp[A6u,List.countP_eq_length_filter]
theorem B9d {q s:Nat→Bool}:∀{l:List Nat},(∀x∈l,q x=true→s x=true)→(∃y∈l,s y=true∧q y=false)→l.countP q < l.countP s:=by
 intro l
 induction l with
 | nil=>rintro _ ⟨y,hy,_⟩;cases hy
 | cons x l ih =>
   rintro h ⟨y,hy,h1,h2⟩
   have hle:l.countP q≤l.countP s:=List.countP_mono_left fun z hz=>h z (List.mem_cons_of_mem _ hz)
   rw[List.countP_cons,List.countP_cons];rcases List.mem_cons.1 hy with rfl|hy
   · rw[h1,h2];simp;omega
   · have:=ih (fun z hz=>h z (List.mem_cons_of_mem _ hz)) ⟨y,hy,h1,h2⟩
     have hx:=h x List.mem_cons_self
     cases hq:q x with
     | true=>rw[hx hq];simp;omega
     | false=>simp;omega
theorem A9u {p:A6} {i:Int} (hi:i∈F0 p):(S4 p).getD i.toNat false=true:=by obtain⟨j,_,h2,rfl⟩:=A0J.1 hi;rw[Int.toNat_natCast];exact h2
section
variable {p:A6} (hP:C7 p=true) {i:Int} (hi:i∈F0 p)
include hP hi
theorem C0Y {n:A4} (h:SetOk p i n):(F0 (U3 p i n)).length≤(F0 p).length:=by
 have hF:=(A9 hP).1
 have hr:=M7 hi
 have hF':=A9I hF h.ok (i:=i)
 have hm:=A9u hi
 have key:=A35 hF' (fun j=>(S4 p).getD j false=true) (fun j hj hS x hx=>by
  rw[A3c] at hj;rw[B5V hr] at hx
  by_cases e:i.toNat=j
  · rw[if_pos e] at hx;rcases h.fr x hx with hx|⟨g,hg,hx⟩
    · exact Z5 hF (by omega) hm hx
    · have hg2:=O0 hF hr hg
      exact Z5 hF (by omega) (Z5 hF (by omega) hm hg) hx
  · rw[if_neg e] at hx;exact Z5 hF hj hS hx) (fun x hx=>A5q hF hx)
 unfold F0;rw[A0p,A0p,A3c];exact List.countP_mono_left fun j _ hj=>key j hj
theorem B3q {b:Int} (h:RepOk p i b) (hne:b≠i):(F0 (A0j p i b)).length < (F0 p).length:=by
 have hF:=(A9 hP).1
 have hr:=M7 hi
 have hF':=A8C hF h.rng (a:=i)
 have hm:=A9u hi
 have hb:=h.rng
 have sw:∀{l:List Int},(∀x∈l,(0≤x∧x < p.2.2.1.length)∧(S4 p).getD x.toNat false=true)→∀x∈A5A i b l,(S4 p).getD x.toNat false=true∧x.toNat≠i.toNat:=fun {l} hl x hx=>by
  rcases A7E.1 hx with⟨h1,h2⟩|⟨rfl,_⟩
  · have:=hl x h1
    exact⟨this.2,by omega⟩
  · exact⟨h.mkd,by omega⟩
 have key:=A35 hF' (fun j=>(S4 p).getD j false=true∧j≠i.toNat) (fun j hj hS x hx=>by
  rw[A5I] at hj;rw[B5x hj] at hx;refine sw (fun y hy=>⟨?_,Z5 hF hj hS.1 hy⟩) x hx
  have:=I5 (G1 (List.all_eq_true.1 (A8 hF).2.2.2.2.2.2 _ (B9 (d:=n0) hj))).2.1 hy
  omega) (fun x hx=>sw (fun y hy=>⟨by have:=I5 (A8 hF).2.2.2.2.2.1 hy;omega,A5q hF hy⟩) x hx)
 unfold F0;rw[A0p,A0p,A5I];refine B9d (fun j _ hj=>(key j hj).1) ⟨i.toNat,List.mem_range.2 (by omega),hm,?_⟩
 cases e:(S4 (A0j p i b)).getD i.toNat false with
 | false=>rfl
 | true=>exact absurd rfl (key _ e).2
end
/-! Ranks. -/
structure RankOk (p:A6) (rk:Nat→Nat) (B:Nat):Prop where
 le:∀j,rk j≤B
 lt:∀j,j < p.2.2.1.length→∀f∈D9 (p.2.2.1.getD j n0),rk f.toNat < rk j
def rkF (l:List Int) (x:Int):Nat:=match l with
 | []=>0
 | y :: l => match decide (y = x) with
   | true=>0
   | false=>rkF l x+1
theorem C2y (l:List Int) (x:Int):rkF l x≤l.length:=by
 induction l with
 | nil=>exact Nat.le_refl _
 | cons y l ih =>
   unfold rkF
   split
   · exact Nat.zero_le _
   · simp only[List.length_cons];omega
theorem B2s {x:Int}:∀{l:List Int} {k:Nat},k≤l.length→(x∈l.take k↔rkF l x < k):=by
 intro l
 induction l with
 | nil => intro k hk; have : k = 0 := by simpa using hk
          subst this;simp
 | cons y l ih =>
   intro k hk
   cases k with
   | zero=>simp
   | succ k =>
     rw[List.take_succ_cons,List.mem_cons];unfold rkF
     by_cases c:y=x
     · rw[decide_eq_true c];simp only;exact⟨fun _=>Nat.succ_pos _,fun _=>.inl c.symm⟩
     · rw[decide_eq_false c];simp only
       rw[ih (by simpa using hk)]
       constructor
       · rintro (h|h)
         · exact absurd h.symm c
         · omega
       · intro h;exact .inr (by omega)
theorem C21 {p:A6} (hP:C7 p=true):∃rk,RankOk p rk 24:=by
 have hl:=(A9 hP).2
 have hg:=A1q p.2.2.1
 have h24:=(A8 (A9 hP).1).1
 refine⟨fun j=>rkF (O4 p.2.2.1) (j:Int),fun j=>Nat.le_trans (C2y _ _) (by omega),fun j hj f hf=>?_⟩
 obtain⟨k,hk,e⟩:=List.mem_iff_getElem.1 (hg.full hl hj)
 obtain⟨i,h1,h2,h3,h4⟩:=hg k hk
 have e1:(O4 p.2.2.1).getD k 0=(O4 p.2.2.1)[k]:=by simp[List.getD,hk]
 rw[e1,e] at h1;have e2:i=j:=by omega
 subst e2;have hm:=h4 f hf
 have hf2:0≤f:=(A54 (A9 hP).1 hj hf).1
 have a1:rkF (O4 p.2.2.1) f < k:=(B2s (Nat.le_of_lt hk)).1 hm
 have a2:¬rkF (O4 p.2.2.1) (i:Int) < k:=fun h=>h3 ((B2s (Nat.le_of_lt hk)).2 h)
 rw[Int.toNat_of_nonneg hf2];omega
/-! The weight of a patch. -/
def wN (B:Nat) (rk:Nat→Nat) (n:A4):Nat :=
 if n.1=2 then 0 else if n.1=9 then 2 * (B+17) else if n.1=5 then B+17+rk (P4 n 0).toNat else if n.1=6 then B+17+(16 - n.2.1).toNat else B+17
def A7A (g:A4→Nat) (ns:List A4):Nat:=(ns.map g).sum
theorem C20 (g:A4→Nat) (n:A4):∀{ns:List A4} {i:Nat},i < ns.length→A7A g (ns.set i n)+g (ns.getD i n0)=A7A g ns+g n:=by
 intro ns
 induction ns with
 | nil=>intro i h;simp at h
 | cons x l ih =>
   intro i h
   cases i with
   | zero=>simp[A7A];omega
   | succ i =>
     have:=ih (i:=i) (by simpa using h)
     simp only[A7A,List.set_cons_succ,List.map_cons,List.sum_cons,List.getD_cons_succ] at this ⊢
     omega
theorem A8R {p:A6} {rk:Nat→Nat} {B:Nat} (hR:RankOk p rk B) {i:Int} (hi:0≤i∧i < p.2.2.1.length) (hF:C5 p=true) {n:A4} (h:SetK p i n):A7A (wN B rk) (U3 p i n).2.2.1 < A7A (wN B rk) p.2.2.1:=by
 have e:=C20 (wN B rk) n (ns:=p.2.2.1) (i:=i.toNat) (by omega)
 have e2:p.2.2.1.getD i.toNat n0=E8 p i:=rfl
 rw[e2] at e
 have key:wN B rk n < wN B rk (E8 p i):=by
  cases h with
  | con h k =>
    unfold wN;rw[if_pos k,if_neg h];repeat' split
    all_goals omega
  | fac h k hx =>
    have h1:=hR.le (P4 n 0).toNat
    unfold wN;rw[if_neg (by omega),if_neg (by omega),if_pos k,if_neg (by omega),if_pos h]
    omega
  | gai h k g hg hf hx =>
    have hg0:0≤g∧g < p.2.2.1.length:=by
     rw[A0K (by omega)] at hg
     exact O0 hF hi hg
    have h1:=hR.lt g.toNat (by omega) _ hx
    unfold wN;rw[if_neg (by omega),if_neg (by omega),if_pos k,if_neg (by omega),if_neg (by omega),if_pos h,hf]
    omega
  | del h k hl hn h0 =>
    unfold wN;rw[if_neg (by omega),if_neg (by omega),if_neg (by omega),if_pos k,if_neg (by omega),if_neg (by omega),if_neg (by omega),if_pos h]
    omega
 show A7A (wN B rk) (p.2.2.1.set i.toNat n) < _
 omega
theorem B9A {p:A6} {rk:Nat→Nat} {B:Nat} (hR:RankOk p rk B) {i:Int} (hi:0≤i∧i < p.2.2.1.length) (hF:C5 p=true) {n:A4} (h:SetOk p i n):RankOk (U3 p i n) rk B:=by
 refine⟨hR.le,fun j hj f hf=>?_⟩
 rw[A3c] at hj;rw[B5V hi] at hf
 by_cases e:i.toNat=j
 · rw[if_pos e] at hf;rcases h.wt f hf with hf|⟨g,hg,hf⟩
   · exact hR.lt j hj f (by rw[←e];exact hf)
   · have h1:rk g.toNat < rk j:=hR.lt j hj g (by rw[←e];exact hg)
     have hg2:0≤g∧g < p.2.2.1.length:=by
      have:g∈(E8 p i).2.2.2:=by
       unfold D9 at hg
       split at hg
       · cases hg
       · exact hg
      exact O0 hF hi this
     have h2:rk f.toNat < rk g.toNat:=hR.lt g.toNat (by omega) f hf
     omega
 · rw[if_neg e] at hf;exact hR.lt j hj f hf
/-! The end. -/
theorem B9T (m:Nat) (M:Nat) (IH:∀q,C7 q=true→(F0 q).length < m→∃K,K≤M∧A0h (Z3 K q)=none) (rk:Nat→Nat) (B:Nat):∀(w:Nat) (q:A6),C7 q=true→RankOk q rk B→(F0 q).length≤m→A7A (wN B rk) q.2.2.1≤w→∃K,K≤w+1+M∧A0h (Z3 K q)=none:=by
 intro w
 induction w with
 | zero =>
   intro q hq hR hm hw
   cases e:A0h q with
   | none=>exact⟨0,Nat.zero_le _,e⟩
   | some x =>
     obtain⟨r,i⟩:=x;obtain⟨h1,h2⟩:=A4d e
     have hS:A75 q=U7 q r i:=by unfold A75;rw[e]
     rcases A6H hq h1 h2 with⟨n,e2,h3,h4⟩|⟨b,e2,h3⟩
     · have:=A8R hR (M7 h1) (A9 hq).1 h4
       omega
     · have hne:b≠i:=by
        rcases h3.ne with h|h
        · rintro rfl
          have hr:=M7 h1
          have:=hR.lt b.toNat (by omega) b h
          omega
        · omega
       have:=B3q hq h1 h3 hne
       obtain⟨K,hl,hK⟩:=IH (A0j q i b) (B5k hq (M7 h1) h3) (by omega)
       exact⟨K+1,by omega,by rw[←A6O,hS,e2];exact hK⟩
 | succ w ih =>
   intro q hq hR hm hw
   cases e:A0h q with
   | none=>exact⟨0,Nat.zero_le _,e⟩
   | some x =>
     obtain⟨r,i⟩:=x;obtain⟨h1,h2⟩:=A4d e
     have hS:A75 q=U7 q r i:=by unfold A75;rw[e]
     rcases A6H hq h1 h2 with⟨n,e2,h3,h4⟩|⟨b,e2,h3⟩
     · have hw2:=A8R hR (M7 h1) (A9 hq).1 h4
       obtain⟨K,hl,hK⟩:=ih (U3 q i n) (B8l hq (M7 h1) h3) (B9A hR (M7 h1) (A9 hq).1 h3) (Nat.le_trans (C0Y hq h1 h3) hm) (by omega)
       exact⟨K+1,by omega,by rw[←A6O,hS,e2];exact hK⟩
     · have hne:b≠i:=by
        rcases h3.ne with h|h
        · rintro rfl
          have hr:=M7 h1
          have:=hR.lt b.toNat (by omega) b h
          omega
        · omega
       have:=B3q hq h1 h3 hne
       obtain⟨K,hl,hK⟩:=IH (A0j q i b) (B5k hq (M7 h1) h3) (by omega)
       exact⟨K+1,by omega,by rw[←A6O,hS,e2];exact hK⟩
theorem C4i {p:A6} (hF:C5 p=true) {B:Nat} {rk:Nat→Nat} (h:∀j,rk j≤B) {n:A4} (hn:n∈p.2.2.1):wN B rk n≤2 * (B+17):=by
 have h1:=h (P4 n 0).toNat
 obtain⟨q1,_⟩:=G1 (List.all_eq_true.1 (A8 hF).2.2.2.2.2.2 n hn)
 have h6:n.1=6→1≤n.2.1:=fun e=>by
  obtain⟨kd,a,b,fr⟩:=n;exact((f0 q1).2.2.1 e).1
 unfold wN;repeat' split
 all_goals first|omega|(have:=h6 (by assumption);omega)
theorem C2P {g:A4→Nat} {c:Nat}:∀{ns:List A4},(∀n∈ns,g n≤c)→A7A g ns≤ns.length * c:=by
 intro ns
 induction ns with
 | nil=>intro _;simp[A7A]
 | cons x l ih =>
   intro h;have h1:=h x List.mem_cons_self
   have h2:=ih fun n hn=>h n (List.mem_cons_of_mem _ hn)
   simp only[A7A,List.map_cons,List.sum_cons,List.length_cons] at h2 ⊢
   rw[Nat.add_mul,Nat.one_mul];omega
theorem B8B {p:A6} (hP:C7 p=true):∃K,K≤60000∧A0h (Z3 K p)=none:=by
 have key:∀m,∀q,C7 q=true→(F0 q).length < m→∃K,K≤m * 2000∧A0h (Z3 K q)=none:=by
  intro m
  induction m with
  | zero=>intro q _ h;omega
  | succ m ih =>
    intro q hq hl
    obtain⟨rk,hR⟩:=C21 hq
    have hF:=(A9 hq).1
    have h24:=(A8 hF).1
    have hs:A7A (wN 24 rk) q.2.2.1≤q.2.2.1.length * 82:=C2P fun n hn=>C4i hF hR.le hn
    obtain⟨K,h1,h2⟩:=B9T m (m * 2000) ih rk 24 1968 q hq hR (by omega) (by omega)
    exact⟨K,by omega,h2⟩
 have hl:(F0 p).length≤24:=by
  have:=A6M (S4 p) p.2.2.1.length
  have h24:=(A8 (A9 hP).1).1
  unfold F0;omega
 obtain⟨K,h1,h2⟩:=key 25 p hP (by omega)
 exact⟨K,by omega,h2⟩
def A2a (p:A6):Nat:=((List.range 60001).find? fun k=>(A0h (Z3 k p)).isNone).getD 0
theorem A5r {p:A6} (hP:C7 p=true):A2a p≤60000∧A0h (Z3 (A2a p) p)=none∧∀j,j < A2a p→A0h (Z3 j p)≠none:=by
 obtain⟨K,h1,h2⟩:=B8B hP
 cases e:(List.range 60001).find? fun k=>(A0h (Z3 k p)).isNone with
 | none =>
   have:=List.find?_eq_none.1 e K (List.mem_range.2 (by omega))
   rw[h2] at this;simp at this
 | some k =>
   have e1:A2a p=k:=by unfold A2a;rw[e];rfl
   obtain⟨q1,q2,q3⟩:=List.find?_range_eq_some.1 e
   rw[e1];refine⟨by have:=List.mem_range.1 q2;omega,Option.isNone_iff_eq_none.1 q1,fun j hj h=>?_⟩
   have:=q3 j hj
   rw[h] at this;simp at this
theorem C1P {p:A6} (hP:C7 p=true):A2a p≤60000:=(A5r hP).1
theorem B5w {p:A6} (hP:C7 p=true):A0h (Z3 (A2a p) p)=none:=(A5r hP).2.1
theorem C2J {p:A6} (hP:C7 p=true) {k:Nat} (hk:k≤A2a p) (h:A0h (Z3 k p)=none):k=A2a p:=by
 rcases Nat.lt_or_eq_of_le hk with h1|h1
 · exact absurd h ((A5r hP).2.2 k h1)
 · exact h1
def C3H (p:A6):A6:=C51 (Z3 (A2a p) p)
theorem C2i {p:A6} (hP:C7 p=true) {k:Nat} (hk:k≤A2a p) (h:A0h (Z3 k p)≠none):k < A2a p:=by
 rcases Nat.lt_or_eq_of_le hk with h1|h1
 · exact h1
 · exact absurd (by rw[h1];exact B5w hP) h
/-! The loops. -/
def A7D (p:A6):(Int × Int) × Bool:=match A0h p with
 | some x=>(x,true)
 | none=>((0,0),false)
theorem C2C {p:A6} {k:Nat} (hk:k < (F0 p).length) (h:∀j,j < k→s6 p (F0 p) ((F0 p).getD j 0)=0) (h2:¬s6 p (F0 p) ((F0 p).getD k 0)=0):A7D p=((s6 p (F0 p) ((F0 p).getD k 0),(F0 p).getD k 0),true):=by
 have key:∀(l:List Int) (k:Nat),k < l.length→(∀j,j < k→s6 p (F0 p) (l.getD j 0)=0)→¬s6 p (F0 p) (l.getD k 0)=0→l.findSome? (B45 p)=some (s6 p (F0 p) (l.getD k 0),l.getD k 0):=by
  intro l
  induction l with
  | nil=>intro k h;simp at h
  | cons x l ih =>
    intro k hk h1 h2
    rw[List.findSome?_cons]
    cases k with
    | zero =>
      have e:B45 p x=some (s6 p (F0 p) x,x):=by unfold B45;rw[decide_eq_false (show ¬s6 p (F0 p) x=0 from h2)]
      rw[e];rfl
    | succ k =>
      have e:B45 p x=none:=by unfold B45;rw[decide_eq_true (show s6 p (F0 p) x=0 from h1 0 (Nat.succ_pos _))]
      rw[e];exact ih k (by simpa using hk) (fun j hj=>h1 (j+1) (by omega)) h2
 unfold A7D A0h;rw[key _ k hk h h2]
theorem C0k {p:A6} {k:Nat} (hk:(F0 p).length≤k) (h:∀j,j < k→s6 p (F0 p) ((F0 p).getD j 0)=0):A7D p=((0,0),false):=by
 have e:A0h p=none:=List.findSome?_eq_none_iff.2 fun x hx=>by
  obtain⟨j,hj,rfl⟩:=List.mem_iff_getElem.1 hx
  have:=h j (by omega)
  rw[List.getD_eq_getElem?_getD,List.getElem?_eq_getElem hj,Option.getD_some] at this
  unfold B45;rw[decide_eq_true this]
 unfold A7D;rw[e]
theorem C3i {p:A6} {r i:Int} (h:A7D p=((r,i),true)):A0h p=some (r,i):=by
 unfold A7D at h;cases e:A0h p with
 | none=>rw[e] at h;cases congrArg Prod.snd h
 | some x=>rw[e] at h;rw[show x=(r,i) from congrArg Prod.fst h]
theorem C3e {p:A6} {x:Int × Int} (h:A7D p=(x,false)):A0h p=none:=by
 unfold A7D at h;cases e:A0h p with
 | none=>rfl
 | some x=>rw[e] at h;cases congrArg Prod.snd h
def A9W (p:A6) (k:Nat):List (Int × Int):=(List.range k).map fun j=>(A7D (Z3 j p)).1
theorem B7x (p:A6) (k:Nat):A9W p k++[(A7D (Z3 k p)).1]=A9W p (k+1):=by simp[A9W,List.range_succ]
theorem C0v (p:A6) (k:Nat):(A9W p k).length=k:=by simp[A9W]
section
variable {α:Type} {f:α→α} {xs:List α} {k:Nat}
theorem B2d:((xs.take k).map f++xs.drop k).length=xs.length:=by
 simp only[List.length_append,List.length_map,List.length_take,List.length_drop];omega
theorem C2h (d:α) (h:k < xs.length):((xs.take k).map f++xs.drop k).getD k d=xs.getD k d:=by
 rw[List.getD_eq_getElem?_getD,List.getD_eq_getElem?_getD,List.getElem?_append_right (by simp;omega),List.getElem?_drop]
 simp only[List.length_map,List.length_take]
 congr 2;omega
theorem C0A (d:α) (h:k < xs.length):((xs.take k).map f++xs.drop k).set k (f (xs.getD k d))=(xs.take (k+1)).map f++xs.drop (k+1):=by
 apply List.ext_getElem?
 intro j;rw[List.getElem?_set]
 by_cases hj:k=j
 · subst hj;rw[if_pos rfl,if_pos (by rw[B2d];exact h),List.getElem?_append_left (by simp;omega)]
   simp[List.getD_eq_getElem?_getD,List.getElem?_eq_getElem h]
 · rw[if_neg hj];rcases Nat.lt_or_gt_of_ne hj with h1|h1
   · rw[List.getElem?_append_right (by simp;omega),List.getElem?_append_right (by simp;omega)]
     simp only[List.length_map,List.length_take,List.getElem?_drop]
     congr 1;omega
   · rw[List.getElem?_append_left (by simp;omega),List.getElem?_append_left (by simp;omega)]
     simp only[List.getElem?_map,List.getElem?_take];rw[if_pos h1,if_pos (by omega)]
end
theorem B8r {f:Int→Int} {xs:List Int} {k:Nat} (h:k < xs.length) (e:f (xs.getD k 0)=xs.getD k 0):(xs.take k).map f++xs.drop k=(xs.take (k+1)).map f++xs.drop (k+1):=by
 rw[←A7L (f:=f) 0 h,e,←B4Y (f:=f) 0 h]
 refine List.ext_getElem? fun j=>?_
 rw[List.getElem?_set]
 by_cases hj:k=j
 · subst hj;have hl:k < ((xs.take k).map f++xs.drop k).length:=by rw[A4c];exact h
   rw[if_pos rfl,if_pos hl,List.getD_eq_getElem?_getD,List.getElem?_eq_getElem hl];rfl
 · rw[if_neg hj]
theorem C0O {a b c e f g:Int} {l m:List Int}:A8c (a,b,c,l) (e,f,g,m)=(decide (a=e) && (decide (b=f) && (decide (c=g) && decide (l=m)))):=by
 unfold A8c;rw[←Bool.decide_and,←Bool.decide_and,←Bool.decide_and];exact decide_eq_decide.2 (by simp only[Prod.mk.injEq])
theorem B5R {f:Int→Bool}:∀{l:List Int} {k:Nat},k < l.length→(∀j,j < k→f (l.getD j 0)=false)→f (l.getD k 0)=true→l.find? f=some (l.getD k 0):=by
 intro l
 induction l with
 | nil=>intro k h;simp at h
 | cons x l ih =>
   intro k hk h1 h2
   cases k with
   | zero=>exact List.find?_cons_of_pos (p:=f) (a:=x) (l:=l) h2
   | succ k =>
     have h0:=h1 0 (Nat.succ_pos _)
     have h0:f x=false:=h0
     rw[List.find?_cons_of_neg (by rw[h0];simp)]
     exact ih (by simpa using hk) (fun j hj=>h1 (j+1) (by omega)) h2
theorem B7z {f:Int→Bool} {l:List Int} {k:Nat} (hk:l.length≤k) (h:∀j,j < k→f (l.getD j 0)=false):l.find? f=none:=by
 refine List.find?_eq_none.2 fun x hx=>?_
 obtain⟨j,hj,rfl⟩:=List.mem_iff_getElem.1 hx
 have:=h j (by omega)
 rw[List.getD_eq_getElem?_getD,List.getElem?_eq_getElem hj,Option.getD_some] at this
 rw[this];simp
theorem C1L {p:A6} {l:List Int} {i:Int} {k:Nat} (hk:k < l.length) (h:∀j,j < k→A9n p i (l.getD j 0)=false) (h2:A9n p i (l.getD k 0)=true):A2C p l i=l.getD k 0:=by unfold A2C;rw[B5R hk h h2]
theorem B9u {p:A6} {l:List Int} {i:Int} {k:Nat} (hk:l.length≤k) (h:∀j,j < k→A9n p i (l.getD j 0)=false):A2C p l i=-1:=by unfold A2C;rw[B7z hk h]
end Go.Proofs.YtflobmmbhaofbaaGreat
