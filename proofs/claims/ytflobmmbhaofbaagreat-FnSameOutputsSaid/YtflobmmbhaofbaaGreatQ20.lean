/-
  Texts of this claim, joined (part 20). No condition beyond those of the theorems.
-/
import Derived.Test.YtflobmmbhaofbaaGreatQ05
import Derived.Test.YtflobmmbhaofbaaGreatQ13
import Derived.Test.YtflobmmbhaofbaaGreatQ19
set_option linter.unusedSimpArgs false
set_option linter.unusedVariables false
namespace Go.Proofs.YtflobmmbhaofbaaGreat
open Go.RowKit
def stN (p:A6) (ins:List (List Int)) (i:Nat):List (List Int):=(E7 p ins 0 i (m8 p,List.replicate p.2.2.2.length [])).1
def B86 (p:A6) (ins:List (List Int)) (i:Nat):List Int:=U8 p (stN p ins i) (H6 ins (i:Int))
theorem B3Y (p:A6) (ins:List (List Int)) (i:Nat):stN p ins (i+1)=A3i p (stN p ins i) (H6 ins (i:Int)) (B86 p ins i):=by
 unfold stN B86;simp only[E7,Int.zero_add]
 rfl
theorem C4s {p:A6} {ins:List (List Int)} (h:C5 p=true) (hi:d9 p ins) {k i:Nat} (hk:k < p.2.2.2.length):∀m,i < m→((P7 p ins m).getD k []).getD i 0=(Y6 p (B86 p ins i)).getD k 0:=by
 intro m
 induction m with
 | zero=>intro h;omega
 | succ m ih =>
   intro him;have hb:=(A5R (frm:=0) h (A1T h) hi (o:=List.replicate p.2.2.2.length []) (by simp) m).2
   have hl:=A6E (frm:=0) h (A1T h) hi (o:=List.replicate p.2.2.2.length []) (m:=0) (by simp) (by intro i hi;simp[List.getD] at hi ⊢;simp[hi]) m k hk
   have e:(P7 p ins (m+1)).getD k []=(P7 p ins m).getD k []++[(Y6 p (B86 p ins m)).getD k 0]:=by
    unfold P7;simp only[E7,Int.zero_add];rw[A61 (by omega) (by rw[Z9];omega)]
    rfl
   have hl':((P7 p ins m).getD k []).length=m:=by unfold P7;omega
   rw[e,List.getD_eq_getElem?_getD]
   by_cases hc:i < m
   · rw[List.getElem?_append_left (by omega),←List.getD_eq_getElem?_getD];exact ih hc
   · obtain rfl:i=m:=by omega
     rw[List.getElem?_append_right (by omega),hl',Nat.sub_self];rfl
theorem C4B {p:A6} {ins:List (List Int)} (h:C5 p=true) (hi:d9 p ins) {k:Nat} (hk:k < p.2.2.2.length) (m:Nat):((P7 p ins m).getD k []).length=m:=by
 have hl:=A6E (frm:=0) h (A1T h) hi (o:=List.replicate p.2.2.2.length []) (m:=0) (by simp) (by intro i hi;simp[List.getD] at hi ⊢;simp[hi]) m k hk
 unfold P7;omega
open Go.RowKit
def atD (cd:List Int) (i n:Int):Int:=match decide (n≤1) with
 | true=>0
 | false => match decide (i < cd.length) with
   | true=>(IntKind.i64.wrap (cd.getD i.toNat 0)).tmod n
   | false=>(i * 37+11).tmod n
theorem B6R {cd:List Int} {i n:Int} (h:∀b∈cd,0≤b∧b≤255) (hi:0≤i) (hn:1≤n):0≤atD cd i n∧atD cd i n < n:=by
 unfold atD
 split
 · rename_i h1;have:=of_decide_eq_true h1;omega
 · split
   · rename_i h2
     have h2:=of_decide_eq_true h2
     have:=h _ (B9 (d:=(0:Int)) (show i.toNat < cd.length by omega))
     rw[G9 (by omega)]
     exact⟨Int.tmod_nonneg _ (by omega),Int.tmod_lt_of_pos _ (by omega)⟩
   · exact⟨Int.tmod_nonneg _ (by omega),Int.tmod_lt_of_pos _ (by omega)⟩
theorem A87 {α:Type} (f:Nat→α) (k:Nat):(List.range k).map f++[f k]=(List.range (k+1)).map f:=by simp[List.range_succ]
def A7l (f:Nat→Int) (n:Nat):List Int:=(List.range n).map f
theorem A8B (f:Nat→Int) (n:Nat):(A7l f n).length=n:=by simp[A7l]
theorem B87 (f:Nat→Int) (n:Nat):A7l f n++[f n]=A7l f (n+1):=A87 f n
open Go.RowKit
open Go.RowKit
def A15 (ns:List A4):Prop:=∀P:Nat→Prop,(∀i:Nat,i < ns.length→(∀f∈D9 (ns.getD i n0),∃j:Nat,f=(j:Int)∧j < ns.length∧P j)→P i)→∀i,i < ns.length→P i
theorem A6C {ns:List A4} (hl:(O4 ns).length=ns.length):A15 ns:=by
 intro P h
 have hg:=A1q ns
 have key:∀k,k≤(O4 ns).length→∀x∈(O4 ns).take k,P x.toNat:=by
  intro k
  induction k with
  | zero=>intro _ x hx;simp at hx
  | succ k ih =>
    intro hk x hx
    rw[G7 (d:=0) (by omega),List.mem_append,List.mem_singleton] at hx
    rcases hx with hx|rfl
    · exact ih (by omega) x hx
    · obtain⟨i,h1,h2,h3,h4⟩:=hg k (by omega)
      rw[h1,Int.toNat_natCast];refine h i h2 fun f hf=>?_
      have hm:=h4 f hf
      obtain⟨j,rfl,hj⟩:=hg.at (A2e hm)
      exact⟨j,rfl,hj,by have:=ih (by omega) _ hm;rwa [Int.toNat_natCast] at this⟩
 intro i hi
 have:=key _ (Nat.le_refl _) i (by rw[List.take_length];exact hg.full hl hi)
 rwa [Int.toNat_natCast] at this
theorem B80:∀(m:Nat) (l:List Int),(∀i:Nat,i < m→(i:Int)∈l)→m≤l.length:=by
 intro m
 induction m with
 | zero=>intro l _;omega
 | succ m ih =>
   intro l h
   have h1:=ih (l.erase (m:Int)) fun i hi=>(List.mem_erase_of_ne (by omega)).2 (h i (by omega))
   have h2:=List.length_erase_of_mem (h m (by omega))
   have h3:0 < l.length:=List.length_pos_of_mem (h m (by omega))
   omega
theorem B0W {ns:List A4} (hw:A15 ns):∀(k:Nat) {o:List Int},o.length+k=ns.length→(A0u ns k o).length=ns.length:=by
 intro k
 induction k with
 | zero=>intro o h;simpa [A0u] using h
 | succ k ih =>
   intro o h
   simp only[A0u]
   split
   · rename_i hn
     exfalso
     have hall:∀i:Nat,i < ns.length→(i:Int)∈o:=hw (fun i=>(i:Int)∈o) fun i hi hf=>by
      apply Classical.byContradiction
      intro hc;have h1:=List.find?_eq_none.1 hn i (List.mem_range.2 hi)
      apply h1
      simp only[R5,Bool.and_eq_true,Bool.not_eq_true',List.all_eq_true,List.contains_eq_mem,decide_eq_true_eq,decide_eq_false_iff_not];refine⟨hc,fun f hf'=>?_⟩
      obtain⟨j,rfl,hj,hm⟩:=hf f hf'
      exact hm
     have:=B80 _ _ hall
     omega
   · exact ih (by simp;omega)
theorem B9X {ns:List A4} (hw:A15 ns):(O4 ns).length=ns.length:=B0W hw _ (by simp)
theorem B76 {p:A6} {s:List (List Int)} {fr:List Int} (h:C7 p=true) {i:Nat} (hi:i < p.2.2.1.length):(U8 p s fr).getD i 0=B3E p s fr (U8 p s fr) i:=by
 obtain⟨hf,ho⟩:=A9 h
 have hg:=A1q p.2.2.1
 have:=C1g (s:=s) (fr:=fr) (v0:=List.replicate p.2.2.1.length 0) hg (by simp) (i:Int) (hg.full ho hi)
 rwa [Int.toNat_natCast] at this
theorem B96 {a b:List Int} (hl:a.length=b.length) (h:∀j,j < b.length→a.getD j 0=b.getD j 0):a=b:=by
 refine List.ext_getElem hl fun i h1 h2=>?_
 have:=h i h2
 simpa only [List.getD_eq_getElem?_getD,List.getElem?_eq_getElem h1,List.getElem?_eq_getElem h2,Option.getD_some] using this
theorem C5Z {a b:List (List Int)} (hl:a.length=b.length) (h:∀j,j < b.length→a.getD j []=b.getD j []):a=b:=by
 refine List.ext_getElem hl fun i h1 h2=>?_
 have:=h i h2
 simpa only [List.getD_eq_getElem?_getD,List.getElem?_eq_getElem h1,List.getElem?_eq_getElem h2,Option.getD_some] using this
def FromR (R:Nat→Nat→Prop) (l m:List Int):Prop:=l.length=m.length∧∀k,k < l.length→∃a b:Nat,l.getD k 0=(a:Int)∧m.getD k 0=(b:Int)∧R a b
def SwapR (R:Nat→Nat→Prop) (l m:List Int):Prop:=l.length=2∧m.length=2∧∃a b c d:Nat,l.getD 0 0=(a:Int)∧l.getD 1 0=(b:Int)∧m.getD 0 0=(c:Int)∧m.getD 1 0=(d:Int)∧R a d∧R b c
structure NSim (ts ts':List (List Int)) (R:Nat→Nat→Prop) (x y:A4):Prop where
 key:V3 ts x=V3 ts' y
 ins:FromR R x.2.2.2 y.2.2.2∨(I3 x=true∧SwapR R x.2.2.2 y.2.2.2)
structure PSim (p q:A6) (R:Nat→Nat→Prop):Prop where
 inp:p.1=q.1
 node:∀i c,R i c→i < p.2.2.1.length∧c < q.2.2.1.length∧NSim p.2.1 q.2.1 R (p.2.2.1.getD i n0) (q.2.2.1.getD c n0)
 outs:FromR R p.2.2.2 q.2.2.2
theorem Q4 {ts ts':List (List Int)} {x y:A4} (h:V3 ts x=V3 ts' y):x.1=y.1∧x.2.2.1=y.2.2.1∧(x.1≠13→x.2.1=y.2.1)∧(x.1=13→ts.getD x.2.1.toNat []=ts'.getD y.2.1.toNat []):=by
 have h1:x.1=y.1:=by rw[←(o7 (ts:=ts) (n:=x)).1,h,o7.1]
 have h2:x.2.2.1=y.2.2.1:=by rw[←(o7 (ts:=ts) (n:=x)).2,h,o7.2]
 refine⟨h1,h2,fun h3=>?_,fun h3=>?_⟩
 · rw[A0w h3,A0w (h1 ▸ h3)] at h
   exact congrArg (fun (z:Int × Int × Int × List Int)=>z.2.2.1) h
 · rw[A0r h3,A0r (h1 ▸ h3)] at h
   exact congrArg (fun (z:Int × Int × Int × List Int)=>z.2.2.2) h
theorem B8F {kd a:Int} {ts ts':List (List Int)} {i s:List Int} (h:¬kd=13):A2f kd a ts i s=A2f kd a ts' i s:=by unfold A2f;simp only[h,if_false]
theorem C14 {ts ts':List (List Int)} {x y:A4} (h:V3 ts x=V3 ts' y) (i s:List Int):A2f x.1 x.2.1 ts i s=A2f y.1 y.2.1 ts' i s:=by
 obtain⟨h1,_,h3,h4⟩:=Q4 h
 by_cases h13:x.1=13
 · rw[←h1,h13];show B2k (ts.getD x.2.1.toNat []) (i.getD 0 0)=B2k (ts'.getD y.2.1.toNat []) (i.getD 0 0)
   rw[h4 h13]
 · rw[←h1,h3 h13,B8F h13]
theorem B4z {ts ts':List (List Int)} {x y:A4} (h:V3 ts x=V3 ts' y):O2 x=O2 y:=by
 obtain⟨h1,h2,h3,h4⟩:=Q4 h
 by_cases h13:x.1=13
 · unfold O2;rw[←h1,h13];rfl
 · unfold O2;rw[←h1,←h2,←h3 h13]
theorem A3Y {n:A4} {fr v:List Int} (h:n.1≠1) {k:Nat} (hk:k < n.2.2.2.length):(j6 n fr v).getD k 0=v.getD (n.2.2.2.getD k 0).toNat 0:=by
 unfold j6;rw[decide_eq_false h];simp[List.getD,hk]
theorem B65 {n:A4} {fr v:List Int} (h:n.1≠1):(j6 n fr v).length=n.2.2.2.length:=by
 unfold j6;rw[decide_eq_false h];simp
theorem B6w {ts ts':List (List Int)} {R:Nat→Nat→Prop} {x y:A4} {fr v w:List Int} (h:NSim ts ts' R x y) (hv:∀a b:Nat,(a:Int)∈x.2.2.2→R a b→v.getD a 0=w.getD b 0) :
 j6 x fr v=j6 y fr w∨(I3 x=true∧(j6 x fr v).getD 0 0=(j6 y fr w).getD 1 0∧(j6 x fr v).getD 1 0=(j6 y fr w).getD 0 0):=by
 obtain⟨h1,_,h3,_⟩:=Q4 h.key
 by_cases k1:x.1=1
 · left
   unfold j6;rw[decide_eq_true k1,decide_eq_true (show y.1=1 by omega),h3 (by omega)]
 have k2:y.1≠1:=by omega
 rcases h.ins with⟨e,hk⟩|⟨hs,l1,l2,a,b,c,d,q1,q2,q3,q4,r1,r2⟩
 · left
   refine B96 (by rw[B65 k1,B65 k2,e]) fun k hk2=>?_
   rw[B65 k2] at hk2;obtain⟨a,b,e1,e2,r⟩:=hk k (by omega)
   rw[A3Y k1 (by omega),A3Y k2 hk2,e1,e2,Int.toNat_natCast,Int.toNat_natCast]
   exact hv a b (by rw[←e1];exact B9 (by omega)) r
 · right
   refine⟨hs,?_,?_⟩
   · rw[A3Y k1 (by omega),A3Y k2 (by omega),q1,q4,Int.toNat_natCast,Int.toNat_natCast]
     exact hv a d (by rw[←q1];exact B9 (by omega)) r1
   · rw[A3Y k1 (by omega),A3Y k2 (by omega),q2,q3,Int.toNat_natCast,Int.toNat_natCast]
     exact hv b c (by rw[←q2];exact B9 (by omega)) r2
theorem B8S {kd a:Int} {ts:List (List Int)} {i j s:List Int} (h:kd=3∨kd=9) (e1:i.getD 0 0=j.getD 1 0) (e2:i.getD 1 0=j.getD 0 0):A2f kd a ts i s=A2f kd a ts j s:=by
 rcases h with rfl|rfl
 · show wrap32 (i.getD 0 0+i.getD 1 0)=wrap32 (j.getD 0 0+j.getD 1 0)
   rw[e1,e2,Int.add_comm]
 · show wrap32 (i.getD 0 0 * i.getD 1 0)=wrap32 (j.getD 0 0 * j.getD 1 0)
   rw[e1,e2,Int.mul_comm]
theorem B14 {n:A4} (h:I3 n=true):n.1=3∨n.1=9:=by simpa [I3] using h
theorem NSim.back {ts ts':List (List Int)} {R:Nat→Nat→Prop} {x y:A4} (h:NSim ts ts' R x y) {f:Int} (hf:f∈y.2.2.2):∃a b:Nat,(a:Int)∈x.2.2.2∧f=(b:Int)∧R a b:=by
 obtain⟨k,hk,rfl⟩:=List.mem_iff_getElem.1 hf
 have e:y.2.2.2[k]=y.2.2.2.getD k 0:=by simp[List.getD,hk]
 rcases h.ins with⟨e1,h1⟩|⟨_,l1,l2,a,b,c,d,q1,q2,q3,q4,r1,r2⟩
 · obtain⟨a,b,e2,e3,r⟩:=h1 k (by omega)
   exact⟨a,b,by rw[←e2];exact B9 (by omega),by rw[e,e3],r⟩
 · have h01:k=0∨k=1:=by omega
   rcases h01 with rfl|rfl
   · exact⟨b,c,by rw[←q2];exact B9 (by omega),by rw[e,q3],r2⟩
   · exact⟨a,d,by rw[←q1];exact B9 (by omega),by rw[e,q4],r1⟩
theorem B4r {p q:A6} {R:Nat→Nat→Prop} (hp:C7 p=true) (hS:PSim p q R) (hcov:∀c,c < q.2.2.1.length→∃i,R i c):A15 q.2.2.1:=by
 intro P h c hc
 obtain⟨i,hi⟩:=hcov c hc
 refine A6C (A9 hp).2 (fun i=>∀c,R i c→P c) ?_ i (hS.node i c hi).1 c hi
 intro i hi hf c hRc
 obtain⟨_,hc2,hN⟩:=hS.node i c hRc
 refine h c hc2 fun f hf'=>?_
 have hk:=(Q4 hN.key).1
 have h6:¬(q.2.2.1.getD c n0).1=6:=fun h6=>by unfold D9 at hf';rw[decide_eq_true h6] at hf';cases hf'
 have hf2:f∈(q.2.2.1.getD c n0).2.2.2:=by unfold D9 at hf';rw[decide_eq_false h6] at hf';exact hf'
 obtain⟨a,b,ha,rfl,r⟩:=hN.back hf2
 obtain⟨j,e,hj,hP⟩:=hf (a:Int) (by unfold D9;rw[decide_eq_false (by omega)];exact ha)
 obtain rfl:a=j:=by omega
 exact⟨b,rfl,(hS.node a b r).2.1,hP b r⟩
theorem B6D {x:A4} {fr:List Int} {tb:Int} (h:N5 x tb=true) (hl:fr.length=x.2.2.2.length) (hr:∀f∈fr,0≤f∧f≤23):N5 (x.1,x.2.1,x.2.2.1,fr) tb=true:=by
 simp only[N5,Bool.and_eq_true] at h ⊢
 obtain⟨⟨⟨⟨⟨h1,h2⟩,h3⟩,h4⟩,h5⟩,h6⟩:=h
 exact⟨⟨⟨⟨⟨h1,h2⟩,h3⟩,List.all_eq_true.2 fun f hf=>L2 (hr f hf).1 (hr f hf).2⟩,by rw[hl];exact h5⟩,h6⟩
section
variable {p q:A6} {R:Nat→Nat→Prop} (hp:C7 p=true) (hq:C7 q=true) (hS:PSim p q R)
include hp hq hS in
theorem B3G {s s':List (List Int)} {fr:List Int} (hst:∀i c,R i c→s.getD i []=s'.getD c []):∀i c,R i c→(U8 p s fr).getD i 0=(U8 q s' fr).getD c 0:=by
 intro i c h
 refine A6C (A9 hp).2 (fun i=>∀c,R i c→(U8 p s fr).getD i 0=(U8 q s' fr).getD c 0) ?_ i (hS.node i c h).1 c h
 intro i hi hf c hc
 obtain⟨_,hc2,hN⟩:=hS.node i c hc
 have hk:=(Q4 hN.key).1
 rw[B76 hp hi,B76 hq hc2];unfold B3E;rw[←C14 hN.key,hst i c hc]
 by_cases h6:(p.2.2.1.getD i n0).1=6
 · rw[h6];rfl
 · rcases B6w (fr:=fr) hN (v:=U8 p s fr) (w:=U8 q s' fr) (fun a b ha hab=>by
    obtain⟨j,e,hj,hP⟩:=hf (a:Int) (by unfold D9;rw[decide_eq_false h6];exact ha)
    obtain rfl:a=j:=by omega
    exact hP b hab) with e|⟨hsw,e1,e2⟩
   · rw[e]
   · exact B8S (B14 hsw) e1 e2
theorem A86 {kd:Int} {i s:List Int} {o:Int} (h:kd=3∨kd=9):A6y kd i s o=[]:=by rcases h with rfl|rfl<;>rfl
include hS in
theorem B95 {s s':List (List Int)} {fr v w:List Int} (hst:∀i c,R i c→s.getD i []=s'.getD c []) (hv:∀i c,R i c→v.getD i 0=w.getD c 0):∀i c,R i c→(A3i p s fr v).getD i []=(A3i q s' fr w).getD c []:=by
 intro i c h
 obtain⟨hi,hc,hN⟩:=hS.node i c h
 have hk:=(Q4 hN.key).1
 rw[A80 hi,A80 hc];unfold A6t;rw[←hk,hst i c h,hv i c h];rcases B6w (fr:=fr) hN (v:=v) (w:=w) (fun a b _ hab=>hv a b hab) with e|⟨hsw,e1,e2⟩
 · rw[e]
 · rw[A86 (B14 hsw),A86 (B14 hsw)]
include hS in
theorem B8G:∀i c,R i c→(m8 p).getD i []=(m8 q).getD c []:=by
 intro i c h
 obtain⟨hi,hc,hN⟩:=hS.node i c h
 have e1:(m8 p).getD i []=O2 (p.2.2.1.getD i n0):=by simp[m8,List.getD,hi]
 have e2:(m8 q).getD c []=O2 (q.2.2.1.getD c n0):=by simp[m8,List.getD,hc]
 rw[e1,e2,B4z hN.key]
include hp hq hS in
theorem C3o (ins:List (List Int)):∀m i c,R i c→(stN p ins m).getD i []=(stN q ins m).getD c []:=by
 intro m
 induction m with
 | zero=>exact B8G hS
 | succ m ih =>
   rw[B3Y,B3Y];exact B95 hS ih (B3G hp hq hS ih)
include hp hq hS in
theorem C1m (ins:List (List Int)) (m:Nat):∀i c,R i c→(B86 p ins m).getD i 0=(B86 q ins m).getD c 0:=B3G hp hq hS (C3o hp hq hS ins m)
include hS in
theorem C17 {v w:List Int} (hv:∀i c,R i c→v.getD i 0=w.getD c 0):Y6 p v=Y6 q w:=by
 obtain⟨hl,ho⟩:=hS.outs;refine B96 (by rw[Z9,Z9,hl]) fun k hk=>?_
 rw[Z9] at hk;obtain⟨a,b,e1,e2,r⟩:=ho k (by omega)
 have f1:(Y6 p v).getD k 0=v.getD (p.2.2.2.getD k 0).toNat 0:=by simp[Y6,List.getD,show k < p.2.2.2.length by omega]
 have f2:(Y6 q w).getD k 0=w.getD (q.2.2.2.getD k 0).toNat 0:=by simp[Y6,List.getD,hk]
 rw[f1,f2,e1,e2,Int.toNat_natCast,Int.toNat_natCast];exact hv a b r
include hp hq hS in
theorem B4s {ins:List (List Int)} (hi:d9 p ins) (m:Nat):P7 p ins m=P7 q ins m:=by
 have hF:=(A9 hp).1
 have hG:=(A9 hq).1
 have hj:d9 q ins:=⟨by rw[←hS.inp];exact hi.1,hi.2⟩
 have hl:=hS.outs.1
 refine C5Z (by rw[A30 hF hi,A30 hG hj,hl]) fun k hk=>?_
 rw[A30 hG hj] at hk;have l1:=C4B hF hi (k:=k) (by omega) m
 have l2:=C4B hG hj (k:=k) hk m
 refine B96 (by omega) fun i hi2=>?_
 rw[C4s hF hi (by omega) m (by omega),C4s hG hj hk m (by omega),C17 hS (C1m hp hq hS ins i)]
end
open Go.RowKit
section
variable {p:A6}
abbrev A78 (p:A6):List Int:=H1 p.2.1 p.2.2.1
abbrev A7Z (p:A6):List Nat:=(E1 (P5 p) p.2.2.1.length).2
theorem A5M (p:A6):DivOk (P5 p) p.2.2.1.length (E1 (P5 p) p.2.2.1.length):=n9 I1 _
theorem A7U (p:A6):(Y1 p).2.2.1.length=(A7Z p).length:=by simp[Y1,B4g]
theorem C0Q {c:Nat} (hc:c < (A7Z p).length):(Y1 p).2.2.1.getD c n0=A1v (A78 p) (p.2.2.1.getD ((A7Z p).getD c 0) n0):=by
 simp[Y1,B4g,List.getD,hc]
theorem B2T {c:Nat} (hc:c < (A7Z p).length):(A7Z p).getD c 0 < p.2.2.1.length:=(A5M p).lt c hc
theorem A4h {i:Nat} (hi:i < p.2.2.1.length):∃c:Nat,(A78 p).getD i 0=(c:Int)∧c < (A7Z p).length:=by
 obtain⟨c,h1,h2,_⟩:=(A5M p).at_ i hi
 exact⟨c,by rw[A1R] at h1;exact h1,h2⟩
theorem B6N {c:Nat} (hc:c < (A7Z p).length):(A78 p).getD ((A7Z p).getD c 0) 0=(c:Int):=by
 obtain⟨c',h1,h2,h3⟩:=(A5M p).at_ _ (B2T hc)
 rw[A1R] at h1;rcases Nat.lt_trichotomy c c' with h|h|h
 · have h4:=(A5M p).ne c c' h h2
   exact absurd (h4.symm.trans (P0 _ _ h3)) (by simp)
 · rw[h1,h]
 · have h4:=(A5M p).ne c' c h hc
   exact absurd (h4.symm.trans h3) (by simp)
theorem C2c {i k:Nat} (hi:i < p.2.2.1.length) (hk:k < p.2.2.1.length):(A78 p).getD i 0=(A78 p).getD k 0↔Q6 p.2.1 p.2.2.1 (A78 p) i=Q6 p.2.1 p.2.2.1 (A78 p) k:=by
 have h:=X1 (f:=Q6 p.2.1 p.2.2.1 (A78 p)) hi hk
 rw[A5V] at h;exact h
theorem A5e {ts:List (List Int)} {ns:List A4} {cl:List Int} {i k:Nat} (h:Q6 ts ns cl i=Q6 ts ns cl k):V3 ts (ns.getD i n0)=V3 ts (ns.getD k n0)∧A0t (ns.getD i n0) cl=A0t (ns.getD k n0) cl :=
 ⟨congrArg (fun (z:C1F)=>z.2.1) h,congrArg (fun (z:C1F)=>z.2.2) h⟩
def C0j (p:A6) (i c:Nat):Prop:=i < p.2.2.1.length∧(A78 p).getD i 0=(c:Int)
theorem A0Q {x y:A4} (h:x.1=y.1):I3 x=I3 y:=by unfold I3;rw[h]
theorem P8 {cl l:List Int} {k:Nat} (hk:k < l.length):(H2 cl l).getD k 0=cl.getD (l.getD k 0).toNat 0:=by simp[H2,List.getD,hk]
theorem L5 (cl l:List Int):(H2 cl l).length=l.length:=by simp[H2]
theorem l8 (hF:C5 p=true) {i:Nat} (hi:i < p.2.2.1.length):J4 p.2.2.1.length (p.2.2.1.getD i n0).2.2.2=true∧(I3 (p.2.2.1.getD i n0)=true→(p.2.2.1.getD i n0).2.2.2.length=2):=by
 have h:=(L3 hF).2 _ (B9 (d:=n0) hi)
 exact⟨h.2.2.1,h.2.2.2⟩
theorem Y8 {n:Nat} {l:List Int} (h:J4 n l=true) {k:Nat} (hk:k < l.length):∃a:Nat,l.getD k 0=(a:Int)∧a < n:=by
 have:=I5 h (B9 (d:=(0:Int)) hk)
 exact⟨(l.getD k 0).toNat,by omega,by omega⟩
theorem A82 (hF:C5 p=true) {l m:List Int} (hl:J4 p.2.2.1.length l=true) (h:H2 (A78 p) l=m):FromR (C0j p) l m:=by
 subst h;refine⟨(L5 _ _).symm,fun k hk=>?_⟩
 obtain⟨a,ha,ha2⟩:=Y8 hl hk
 obtain⟨b,hb,_⟩:=A4h ha2
 exact⟨a,b,ha,by rw[P8 hk,ha,Int.toNat_natCast,hb],ha2,hb⟩
theorem B00 (hF:C5 p=true):PSim p (Y1 p) (C0j p) where
 inp:=rfl
 node:=fun i c h=>by
  obtain⟨hi,hc⟩:=h;obtain⟨c',hc',hc2⟩:=A4h hi
  obtain rfl:c=c':=by omega
  refine⟨hi,by rw[A7U];exact hc2,?_⟩
  rw[C0Q hc2];have hr:=B2T hc2
  obtain⟨k1,k2⟩:=A5e ((C2c hi hr).1 (by rw[hc,B6N hc2]))
  have hk:=(Q4 k1).1
  have hsw:I3 (p.2.2.1.getD ((A7Z p).getD c 0) n0)=I3 (p.2.2.1.getD i n0):=A0Q hk.symm
  obtain⟨f1,f2⟩:=l8 hF hi
  obtain⟨g1,g2⟩:=l8 hF hr
  refine⟨k1,?_⟩
  cases hs:I3 (p.2.2.1.getD i n0) with
  | false =>
    left
    rw[Z1 hs,Z1 (by rw[hsw];exact hs)] at k2
    exact A82 hF f1 k2
  | true =>
    have l1:=f2 hs
    have l2:=g2 (by rw[hsw];exact hs)
    rw[V6 hs,V6 (by rw[hsw];exact hs)] at k2
    rcases (A8i (by rw[L5];exact l1) (by rw[L5];exact l2)).1 k2 with e|⟨e1,e2⟩
    · left;exact A82 hF f1 e
    · right
      obtain⟨a,ha,ha2⟩:=Y8 f1 (k:=0) (by omega)
      obtain⟨b,hb,hb2⟩:=Y8 f1 (k:=1) (by omega)
      obtain⟨ca,hca,_⟩:=A4h ha2
      obtain⟨cb,hcb,_⟩:=A4h hb2
      rw[P8 (by omega),ha,Int.toNat_natCast,hca] at e1
      rw[P8 (by omega),hb,Int.toNat_natCast,hcb] at e2
      exact⟨rfl,l1,by show (H2 _ _).length=2;rw[L5];exact l2,a,b,cb,ca,ha,hb,e2.symm,e1.symm,⟨ha2,hca⟩,⟨hb2,hcb⟩⟩
 outs:=A82 hF (A8 hF).2.2.2.2.2.1 rfl
theorem B7C (hF:C5 p=true) {l:List Int} (hl:J4 p.2.2.1.length l=true):J4 (Y1 p).2.2.1.length (H2 (A78 p) l)=true:=A5D fun j hj=>by
 rw[L5] at hj;obtain⟨a,ha,ha2⟩:=Y8 hl hj
 obtain⟨b,hb,hb2⟩:=A4h ha2
 rw[P8 hj,ha,Int.toNat_natCast,hb,A7U];omega
theorem C3w (p:A6):(A7Z p).length≤p.2.2.1.length:=by have:=B9g p p.2.2.1.length;simpa [B4g] using this
theorem B0z (hF:C5 p=true):C5 (Y1 p)=true:=by
 have h24:=(A8 hF).1
 have hall:=(A8 hF).2.2.2.2.2.2
 have hidx:=(A8 hF).2.2.2.2.2.1
 have hF':=hF
 simp only[C5,Bool.and_eq_true,decide_eq_true_eq] at hF' ⊢
 obtain⟨⟨⟨⟨⟨h1,h2⟩,h3⟩,h4⟩,h5⟩,h6⟩:=hF'
 have hle:=C3w p
 have hml:=A7U p
 refine⟨⟨⟨⟨⟨h1,h2⟩,by omega⟩,by show (H2 _ _).length≤4;rw[L5];exact h4⟩,B7C hF hidx⟩,List.all_eq_true.2 fun nd hd=>?_⟩
 obtain⟨c,hc,rfl⟩:=List.mem_iff_getElem.1 hd
 rw[hml] at hc;have e:(Y1 p).2.2.1[c]'(by rw[hml];exact hc)=A1v (A78 p) (p.2.2.1.getD ((A7Z p).getD c 0) n0):=by rw[←C0Q hc];simp[List.getD,hml,hc]
 rw[e];obtain⟨q1,q2,q3⟩:=G1 (A4e hF (B2T hc))
 have ix:=B7C hF q2
 refine B2l (B6D q1 (L5 _ _) fun f hf=>?_) ix q3
 have:=I5 ix hf
 omega
theorem B3h (hP:C7 p=true):C7 (Y1 p)=true:=by
 have hF:=(A9 hP).1
 unfold C7;rw[B0z hF,Bool.true_and];refine decide_eq_true (B9X (B4r hP (B00 hF) fun c hc=>?_))
 rw[A7U] at hc;exact⟨_,B2T hc,B6N hc⟩
end
section
variable {p:A6}
end
open Go.RowKit
def b4 (n L:Int) (k:Nat) (fr:List Int):DM (List Int):=bnd (U4 2) fun b s=>(match b && decide (fr.getD k 0+n < L) with|true=>fr.set k (fr.getD k 0+n)|false=>fr,s)
theorem A3Q (n L:Int) (k:Nat) (fr:List Int):Cost 2 (b4 n L k fr):=(a6 2).bnd fun _=>Cost.pure _
def A6I (fr:List Int):DM (List Int):=fun s=>match decide (fr.length=2) with
 | true=>bnd (U4 2) (fun b s=>(match b with|true=>(fr.set 0 (fr.getD 1 0)).set 1 (fr.getD 0 0)|false=>fr,s)) s
 | false=>(fr,s)
theorem A6n (fr:List Int):Cost 2 (A6I fr):=Cost.ite ((a6 2).bnd fun _=>Cost.pure _) ((Cost.pure _).le (by omega))
def cpA (nd:A4) (fr:List Int):DM A4:=bnd (U4 9) fun g s=>((nd.1,match g && decide (nd.1=5) with|true=>7|false=>nd.2.1,nd.2.2.1,fr),s)
def B5c (n L:Int) (nd:A4):DM A4:=bnd (itI (b4 n L) nd.2.2.2.length nd.2.2.2) fun fr s=>bnd (A6I fr) (cpA nd) s
def U5 (ns:List A4) (i:Nat) (ms:List A4):DM (List A4):=fun s=>match decide (ms.length < 24) with
 | true=>bnd (B5c ns.length ms.length (ns.getD i n0)) (fun x s=>(ms++[x],s)) s
 | false=>(ms,s)
def A3E (p:A6):DM A6:=bnd (itI (U5 p.2.2.1) p.2.2.1.length p.2.2.1) fun ms s=>bnd (itI (b4 p.2.2.1.length ms.length) p.2.2.2.length p.2.2.2) (fun os s=>((p.1,p.2.1,ms,os),s)) s
theorem C00 {n L:Int} {k:Nat} {fr xs:List Int} {s s':T4} (h:b4 n L k fr s=(xs,s')):xs.length=fr.length:=by
 unfold b4 bnd at h;simp only[Prod.mk.injEq] at h
 rw[←h.1]
 split<;>simp
theorem B0B {n L:Int} {fr:List Int}:∀{k:Nat} {xs:List Int} {s s':T4},itI (b4 n L) k fr s=(xs,s')→xs.length=fr.length:=by
 intro k
 induction k with
 | zero=>intro xs s s' h;simp only[itI,Prod.mk.injEq] at h;rw[←h.1]
 | succ k ih =>
   intro xs s s' h
   rcases h1:itI (b4 n L) k fr s with⟨ys,s1⟩
   rw[U6 h1] at h;rw[C00 h,ih h1]
theorem B06 {n L:Int} {fr:List Int}:∀{k:Nat} {xs:List Int} {s s':T4},itI (b4 n L) k fr s=(xs,s')→∀j,k≤j→xs.getD j 0=fr.getD j 0:=by
 intro k
 induction k with
 | zero=>intro xs s s' h j _;simp only[itI,Prod.mk.injEq] at h;rw[←h.1]
 | succ k ih =>
   intro xs s s' h j hj
   rcases h1:itI (b4 n L) k fr s with⟨ys,s1⟩
   rw[U6 h1] at h;have:=ih h1 j (by omega)
   rw[←this];unfold b4 bnd at h;simp only[Prod.mk.injEq] at h
   rw[←h.1]
   split
   · rw[List.getD_eq_getElem?_getD,List.getElem?_set_ne (by omega),←List.getD_eq_getElem?_getD]
   · rfl
theorem B3p {n L:Int} {nd:A4} (h:nd.2.2.2.length≤3):Cost 10 (B5c n L nd) :=
 (((Cost.itI (A3Q n L) nd.2.2.2.length nd.2.2.2).bnd (b:=4) fun fr=>(A6n fr).bnd (b:=2) fun fr=>(a6 9).bnd fun _=>Cost.pure _)).le (by omega)
theorem B4O {ns:List A4} (h:∀nd∈ns,nd.2.2.2.length≤3) (i:Nat) (ms:List A4):Cost 10 (U5 ns i ms):=by
 refine Cost.ite ?_ ((Cost.pure _).le (by omega))
 refine((B3p ?_).bnd fun _=>Cost.pure _).le (by omega)
 by_cases hi:i < ns.length
 · exact h _ (B9 hi)
 · rw[List.getD_eq_getElem?_getD,List.getElem?_eq_none (by omega)];exact Nat.zero_le _
theorem B34 {ns ms:List A4} {i:Nat} (h:24≤ms.length) {s:T4}:U5 ns i ms s=(ms,s):=by unfold U5;rw[decide_eq_false (by omega)]
theorem B1E {ns ms ms':List A4} {i:Nat} {s s':T4} (h:itI (U5 ns) i ms s=(ms',s')) (hl:24≤ms'.length):∀k,itI (U5 ns) (i+k) ms s=(ms',s'):=by
 intro k
 induction k with
 | zero=>exact h
 | succ k ih=>rw[←Nat.add_assoc,U6 ih,B34 hl]
theorem B3Q {ns ms:List A4} (h0:ms.length≤24):∀{i:Nat} {ms':List A4} {s s':T4},itI (U5 ns) i ms s=(ms',s')→ms'.length≤24:=by
 intro i
 induction i with
 | zero=>intro ms' s s' h;simp only[itI,Prod.mk.injEq] at h;rw[←h.1];exact h0
 | succ i ih =>
   intro ms' s s' h
   rcases h1:itI (U5 ns) i ms s with⟨ys,s1⟩
   rw[U6 h1] at h;have:=ih h1
   unfold U5 at h
   split at h
   · rename_i hk
     have hk:=of_decide_eq_true hk
     unfold bnd at h;simp only[Prod.mk.injEq] at h
     rw[←h.1];simp;omega
   · simp only[Prod.mk.injEq] at h;rw[←h.1];exact this
end Go.Proofs.YtflobmmbhaofbaaGreat
