/-
  Texts of this claim, joined (part 18). No condition beyond those of the theorems.
-/
import Derived.Test.YtenjbehedcegdaaGreatQ10
import Derived.Test.YtenjbehedcegdaaGreatQ11
import Derived.Test.YtenjbehedcegdaaGreatQ17
namespace Go.Proofs.YtenjbehedcegdaaGreat
open Go.RowKit
set_option linter.unusedSimpArgs false
set_option linter.unusedVariables false
abbrev xN (x:A1):Int:=x.2.2.2.1
abbrev xF (x:A1):List Int:=x.2.2.2.2.1
abbrev xT (x:A1):Int:=x.2.2.2.2.2
def H2 (x:A1):B1:=(x.1,x.2.1,x.2.2.1,xF x)
def A12 (regs tb:Int) (x:A1):Bool:=I6 (xN x) 0 23 && (N2 regs (xF x) && (match decide (x.1=18) with
 | true=>decide ((xF x).length=1) && (decide (x.2.1=0) && (decide (x.2.2.1=0) && decide (xT x=0)))
 | false => I6 (xT x) 0 (regs - 1) && (match decide (x.1 = 6) with
   | true=>I6 x.2.1 1 16 && (decide (x.2.2.1=0) && decide ((xF x).length=0))
   | false=>O7 (H2 x) tb)))
/-! Nodes are different, and each delay has one store B8w it. -/
abbrev A68:=List Int × List Int
def Y7 (x:A1) (s:A68):Option A68:=match decide (x.1=18) with
 | true => match s.2.contains (xN x) with
   | true=>some (s.1,s.2.filter fun y=>!decide (y=xN x))
   | false=>none
 | false => match s.1.contains (xN x) with
   | true=>none
   | false=>some (s.1++[xN x],match decide (x.1=6) with|true=>s.2++[xN x]|false=>s.2)
def R7 (code:List A1):Nat→Option A68
 | 0=>some ([],[])
 | k+1=>(R7 code k).bind (Y7 (code.getD k x0))
def b9 (code:List A1):Bool:=match R7 code code.length with
 | some s=>decide (s.2.length=0)
 | none=>false
/-! Registers are written before they are read. -/
def A2N (x:A1) (s:List Int):Option (List Int):=match (xF x).all (fun f=>s.contains f) with
 | true => match decide (x.1 = 18) with
   | true=>some s
   | false=>some (s++[xT x])
 | false=>none
def A2M (code:List A1):Nat→Option (List Int)
 | 0=>some []
 | k+1=>(A2M code k).bind (A2N (code.getD k x0))
def A2r (code:List A1) (os:List Int):Bool:=match A2M code code.length with
 | some s=>os.all fun f=>s.contains f
 | none=>false
def O0 (g:G0):Bool:=I6 g.1 0 4 && (I6 g.2.1 0 24 && (Y6 g.2.2.1 && (decide (g.2.2.2.1.length≤48) && (decide (g.2.2.2.2.length≤4) && (g.2.2.2.1.all (fun x=>A12 g.2.1 g.2.2.1.length x && !(decide (x.1=1) && decide (g.1≤x.2.1))) && (b9 g.2.2.2.1 && A2r g.2.2.2.1 g.2.2.2.2))))))
structure ProgOk (g:G0):Prop where
 i0:0≤g.1
 i4:g.1≤4
 r0:0≤g.2.1
 r24:g.2.1≤24
 ts:Y6 g.2.2.1=true
 cl:g.2.2.2.1.length≤48
 ol:g.2.2.2.2.length≤4
 ins:∀k,k < g.2.2.2.1.length→A12 g.2.1 g.2.2.1.length (g.2.2.2.1.getD k x0)=true∧((g.2.2.2.1.getD k x0).1=1→(g.2.2.2.1.getD k x0).2.1 < g.1)
 pr:b9 g.2.2.2.1=true
 wr:A2r g.2.2.2.1 g.2.2.2.2=true
theorem A0R {g:G0} (h:O0 g=true):ProgOk g:=by
 simp only[O0,Bool.and_eq_true,decide_eq_true_eq] at h
 obtain⟨h1,h2,h3,h4,h5,h6,h7,h8⟩:=h;obtain⟨a1,a2⟩:=B4.1 h1
 obtain⟨b1,b2⟩:=B4.1 h2
 refine⟨a1,a2,b1,b2,h3,h4,h5,fun k hk=>?_,h7,h8⟩
 have:=List.all_eq_true.1 h6 _ (C6 (d:=x0) hk)
 simp only[Bool.and_eq_true,Bool.not_eq_true',Bool.and_eq_false_iff,decide_eq_false_iff_not] at this
 exact⟨this.1,fun e=>by rcases this.2 with h|h;exact absurd e h;omega⟩
theorem G7 {r tb:Int} {x:A1} (h:A12 r tb x=true):(0≤xN x∧xN x≤23)∧N2 r (xF x)=true∧(x.1=18→(xF x).length=1)∧(¬x.1=18→0≤xT x∧xT x < r)∧(x.1=6→1≤x.2.1∧x.2.1≤16)∧(¬x.1=18→¬x.1=6→O7 (H2 x) tb=true):=by
 unfold A12 at h;simp only[Bool.and_eq_true] at h
 obtain⟨h1,h2,h3⟩:=h;refine⟨B4.1 h1,h2,fun e=>?_,fun e=>?_,fun e=>?_,fun e e6=>?_⟩
 · rw[decide_eq_true e] at h3;simp only[Bool.and_eq_true,decide_eq_true_eq] at h3;exact h3.1
 · rw[decide_eq_false e] at h3;simp only[Bool.and_eq_true] at h3;have:=B4.1 h3.1;omega
 · rw[decide_eq_false (show ¬x.1=18 by omega)] at h3;simp only[Bool.and_eq_true] at h3;rw[decide_eq_true e] at h3;simp only[Bool.and_eq_true] at h3;exact B4.1 h3.2.1
 · rw[decide_eq_false e] at h3;simp only[Bool.and_eq_true] at h3;rw[decide_eq_false e6] at h3;exact h3.2
structure PairOk (code:List A1) (k:Nat) (s:A68):Prop where
 seen:∀N,N∈s.1↔∃q,q < k∧¬(code.getD q x0).1=18∧xN (code.getD q x0)=N
 opn:∀N∈s.2,∃q,q < k∧(code.getD q x0).1=6∧xN (code.getD q x0)=N
 uniq:∀q q',q < k→q' < k→¬(code.getD q x0).1=18→¬(code.getD q' x0).1=18→xN (code.getD q x0)=xN (code.getD q' x0)→q=q'
 sto:∀t,t < k→(code.getD t x0).1=18→∃q,q < t∧(code.getD q x0).1=6∧xN (code.getD q x0)=xN (code.getD t x0)
theorem B5z {code:List A1}:∀(k:Nat) {s:A68},R7 code k=some s→PairOk code k s:=by
 intro k
 induction k with
 | zero =>
   intro s h
   cases h
   exact⟨fun N=>⟨(fun h=>by cases h),fun ⟨q,h,_⟩=>by omega⟩,(fun N h=>by cases h),(fun q q' h=>by omega),fun t h=>by omega⟩
 | succ k ih =>
   intro s h
   simp only[R7] at h
   cases e:R7 code k with
   | none=>rw[e] at h;cases h
   | some s0 =>
     rw[e] at h;have i:=ih e
     obtain⟨x,hx⟩:∃x,code.getD k x0=x:=⟨_,rfl⟩
     rw[hx] at h
     change Y7 x s0=some s at h
     unfold Y7 at h
     by_cases c:x.1=18
     · rw[decide_eq_true c] at h;simp only at h
       cases c2:s0.2.contains (xN x) with
       | false=>rw[c2] at h;cases h
       | true =>
         rw[c2] at h;cases h
         have hm:xN x∈s0.2:=by simpa using c2
         refine⟨fun N=>?_,fun N hN=>?_,fun q q' hq hq' n1 n2 en=>?_,fun t ht ht18=>?_⟩
         · rw[i.seen]
           constructor
           · rintro⟨q,h1,h2⟩;exact⟨q,by omega,h2⟩
           · rintro⟨q,h1,h2,h3⟩
             refine⟨q,?_,h2,h3⟩
             have:q≠k:=fun e=>by subst e;rw[hx] at h2;exact h2 c
             omega
         · obtain⟨q,h1,h2⟩:=i.opn N (List.mem_filter.1 hN).1
           exact⟨q,by omega,h2⟩
         · have g1:q≠k:=fun e=>by subst e;rw[hx] at n1;exact n1 c
           have g2:q'≠k:=fun e=>by subst e;rw[hx] at n2;exact n2 c
           exact i.uniq q q' (by omega) (by omega) n1 n2 en
         · by_cases et:t=k
           · subst et;obtain⟨q,h1,h2,h3⟩:=i.opn _ hm
             exact⟨q,h1,h2,by rw[hx];exact h3⟩
           · exact i.sto t (by omega) ht18
     · rw[decide_eq_false c] at h;simp only at h
       cases c2:s0.1.contains (xN x) with
       | true=>rw[c2] at h;cases h
       | false =>
         rw[c2] at h;cases h
         have hm:¬xN x∈s0.1:=by simpa using c2
         have hnew:∀q,q < k→¬(code.getD q x0).1=18→¬xN (code.getD q x0)=xN x:=fun q h1 h2 h3=>hm ((i.seen _).2 ⟨q,h1,h2,h3⟩)
         refine⟨fun N=>?_,fun N hN=>?_,fun q q' hq hq' n1 n2 en=>?_,fun t ht ht18=>?_⟩
         · rw[List.mem_append,i.seen,List.mem_singleton]
           constructor
           · rintro (⟨q,h1,h2⟩|rfl)
             · exact⟨q,by omega,h2⟩
             · exact⟨k,by omega,by rw[hx];exact c,by rw[hx]⟩
           · rintro⟨q,h1,h2,h3⟩
             by_cases eq:q=k
             · subst eq;right;rw[hx] at h3;exact h3.symm
             · left;exact⟨q,by omega,h2,h3⟩
         · by_cases c6:x.1=6
           · rw[decide_eq_true c6] at hN;simp only[List.mem_append,List.mem_singleton] at hN
             rcases hN with hN|rfl
             · obtain⟨q,h1,h2⟩:=i.opn N hN;exact⟨q,by omega,h2⟩
             · exact⟨k,by omega,by rw[hx];exact c6,by rw[hx]⟩
           · rw[decide_eq_false c6] at hN;obtain⟨q,h1,h2⟩:=i.opn N hN;exact⟨q,by omega,h2⟩
         · by_cases g1:q=k
           · by_cases g2:q'=k
             · omega
             · subst g1;rw[hx] at en;exact absurd en.symm (hnew q' (by omega) n2)
           · by_cases g2:q'=k
             · subst g2;rw[hx] at en;exact absurd en (hnew q (by omega) n1)
             · exact i.uniq q q' (by omega) (by omega) n1 n2 en
         · by_cases et:t=k
           · subst et;rw[hx] at ht18;exact absurd ht18 c
           · exact i.sto t (by omega) ht18
theorem B7M {code:List A1} (h:b9 code=true):∃s,R7 code code.length=some s∧PairOk code code.length s:=by
 unfold b9 at h;cases e:R7 code code.length with
 | none=>rw[e] at h;cases h
 | some s=>exact⟨s,rfl,B5z _ e⟩
/-! Running. Registers, and states by node. -/
abbrev U2:=List Int × List (List Int)
def inX (fr regs:List Int) (x:A1):List Int:=match decide (x.1=1) with
 | true=>[fr.getD x.2.1.toNat 0]
 | false=>(xF x).map fun q=>regs.getD q.toNat 0
def y2 (ts:List (List Int)) (fr:List Int) (x:A1) (st:U2):U2:=match decide (x.1=18) with
 | true=>(st.1,st.2.set (xN x).toNat ((st.2.getD (xN x).toNat []).drop 1++[st.1.getD ((xF x).getD 0 0).toNat 0]))
 | false => match decide (x.1 = 6) with
   | true=>(st.1.set (xT x).toNat ((st.2.getD (xN x).toNat []).getD 0 0),st.2)
   | false=>(st.1.set (xT x).toNat (x4 x.1 x.2.1 ts (inX fr st.1 x) (st.2.getD (xN x).toNat [])),
    st.2.set (xN x).toNat (A0D x.1 (inX fr st.1 x) (st.2.getD (xN x).toNat []) (x4 x.1 x.2.1 ts (inX fr st.1 x) (st.2.getD (xN x).toNat []))))
def A1A (g:G0) (fr:List Int) (st:U2):Nat→U2
 | 0=>st
 | k+1=>y2 g.2.2.1 fr (g.2.2.2.1.getD k x0) (A1A g fr st k)
def A6i (g:G0) (fr:List Int) (st:U2):U2:=A1A g fr st g.2.2.2.1.length
def j7 (code:List A1):Nat→List (List Int)
 | 0=>List.replicate 24 []
 | k + 1 => match decide ((code.getD k x0).1 = 18) with
   | true=>j7 code k
   | false=>(j7 code k).set (xN (code.getD k x0)).toNat (I0 (H2 (code.getD k x0)))
def Q9 (g:G0) (ins:List (List Int)):Nat→U2
 | 0=>(List.replicate g.2.1.toNat 0,j7 g.2.2.2.1 g.2.2.2.1.length)
 | t+1=>A6i g (D3 ins (t:Int)) (Q9 g ins t)
def A33 (g:G0) (regs:List Int):List Int:=g.2.2.2.2.map fun r=>regs.getD r.toNat 0
structure RunOk (g:G0) (st:U2):Prop where
 rl:st.1.length=g.2.1.toNat
 rs:I9 st.1=true
 sl:st.2.length=24
 ss:∀k,k < g.2.2.2.1.length→¬(g.2.2.2.1.getD k x0).1=18→(st.2.getD (xN (g.2.2.2.1.getD k x0)).toNat []).length=(I0 (H2 (g.2.2.2.1.getD k x0))).length∧I9 (st.2.getD (xN (g.2.2.2.1.getD k x0)).toNat [])=true
theorem A2w {n:B1} (h:n.1=6):(I0 n).length=n.2.1.toNat:=by rw[A2m,if_pos h]
theorem A3F (code:List A1):∀k,(j7 code k).length=24:=by
 intro k
 induction k with
 | zero=>simp[j7]
 | succ k ih =>
   unfold j7
   split
   · exact ih
   · rw[List.length_set];exact ih
theorem A9u (n:B1) (h:smp n.2.1=true):I9 (I0 n)=true:=by
 unfold I0;have hz:∀m,I9 (List.replicate m (0:Int))=true:=fun m=>M3.2 fun y hy=>by rw[(List.mem_replicate.1 hy).2];rfl
 repeat' split
 all_goals first|exact hz _|rfl|exact M3.2 fun y hy=>by rw[List.mem_singleton.1 hy];exact h
section
variable {g:G0} (hG:ProgOk g)
include hG
theorem A7R:∃s,PairOk g.2.2.2.1 g.2.2.2.1.length s:=by obtain⟨s,_,h⟩:=B7M hG.pr;exact⟨s,h⟩
theorem A2A {q k:Nat} (hq:q < g.2.2.2.1.length) (hk:k < g.2.2.2.1.length) (h1:¬(g.2.2.2.1.getD q x0).1=18) (h2:¬(g.2.2.2.1.getD k x0).1=18) (e:(xN (g.2.2.2.1.getD q x0)).toNat=(xN (g.2.2.2.1.getD k x0)).toNat):q=k:=by
 obtain⟨s,h⟩:=A7R hG
 have a:=(G7 (hG.ins q hq).1).1
 have b:=(G7 (hG.ins k hk).1).1
 exact h.uniq q k hq hk h1 h2 (by omega)
theorem A0q {k:Nat} (hk:k < g.2.2.2.1.length) (h:(g.2.2.2.1.getD k x0).1=18):∃q,q < k∧(g.2.2.2.1.getD q x0).1=6∧xN (g.2.2.2.1.getD q x0)=xN (g.2.2.2.1.getD k x0):=by
 obtain⟨s,hp⟩:=A7R hG
 exact hp.sto k hk h
section
variable {fr:List Int} (hfl:(fr.length:Int)=g.1) (hfs:I9 fr=true) {st:U2} (h:RunOk g st) {k:Nat} (hk:k < g.2.2.2.1.length)
include hfs h hk
theorem A8c (hn:¬(g.2.2.2.1.getD k x0).1=18) (h6:¬(g.2.2.2.1.getD k x0).1=6):stepOk (H2 (g.2.2.2.1.getD k x0)) g.2.2.1 (inX fr st.1 (g.2.2.2.1.getD k x0)) (st.2.getD (xN (g.2.2.2.1.getD k x0)).toNat []):=by
 obtain⟨_,h2,_,_,_,hB⟩:=G7 (hG.ins k hk).1
 have hs:=h.ss k hk hn
 have hB:=hB hn h6
 generalize g.2.2.2.1.getD k x0=x at *
 refine⟨hB,hG.ts,?_,hs.1,?_,hs.2⟩
 · unfold inX B3W
   by_cases c:x.1=1
   · rw[decide_eq_true c,decide_eq_true (show (H2 x).1=1 from c)];rfl
   · rw[decide_eq_false c,decide_eq_false (show ¬(H2 x).1=1 from c)];simp[H2]
 · unfold inX
   by_cases c:x.1=1
   · rw[decide_eq_true c];exact M3.2 fun y hy=>by rw[List.mem_singleton.1 hy];exact Q7 hfs _
   · rw[decide_eq_false c]
     exact M3.2 fun y hy=>by
      obtain⟨q,_,rfl⟩:=List.mem_map.1 hy
      exact Q7 h.rs _
theorem B4q:RunOk g (y2 g.2.2.1 fr (g.2.2.2.1.getD k x0) st):=by
 obtain⟨h1,h2,_,h4,h5,_⟩:=G7 (hG.ins k hk).1
 unfold y2
 by_cases c:(g.2.2.2.1.getD k x0).1=18
 · rw[decide_eq_true c];refine⟨h.rl,h.rs,by simp only[List.length_set];exact h.sl,fun q hq hqn=>?_⟩
   simp only
   rw[G6 (by rw[h.sl];omega)]
   split
   · rename_i e
     obtain⟨d,hd,hd6,hdn⟩:=A0q hG hk c
     have hd18:¬(g.2.2.2.1.getD d x0).1=18:=by omega
     have eq:q=d:=A2A hG hq (by omega) hqn hd18 (by rw[hdn];exact e.symm)
     subst eq;have hs:=h.ss q hq hqn
     rw[e];have hA:=(G7 (hG.ins q hq).1).2.2.2.2.1 hd6
     have hl:=A2w (n:=H2 (g.2.2.2.1.getD q x0)) hd6
     have hl2:(H2 (g.2.2.2.1.getD q x0)).2.1=(g.2.2.2.1.getD q x0).2.1:=rfl
     rw[hl2] at hl;refine⟨?_,M3.2 fun y hy=>?_⟩
     · rw[List.length_append,List.length_drop,List.length_singleton];omega
     · rcases List.mem_append.1 hy with hy|hy
       · exact M3.1 hs.2 y (List.mem_of_mem_drop hy)
       · rw[List.mem_singleton.1 hy];exact Q7 h.rs _
   · exact h.ss q hq hqn
 · rw[decide_eq_false c];simp only
   have hs:=h.ss k hk c
   by_cases c6:(g.2.2.2.1.getD k x0).1=6
   · rw[decide_eq_true c6];exact⟨by simp only[List.length_set];exact h.rl,A6X h.rs (Q7 hs.2 _),h.sl,h.ss⟩
   · rw[decide_eq_false c6];have hst:=A8c hG hfs h hk c c6
     have ho:=A9p hst
     have hx:=A9m hst ho
     refine⟨by simp only[List.length_set];exact h.rl,A6X h.rs ho,by simp only[List.length_set];exact h.sl,fun q hq hqn=>?_⟩
     simp only
     rw[G6 (by rw[h.sl];omega)]
     split
     · rename_i e
       have eq:q=k:=A2A hG hq hk hqn c e.symm
       subst eq;exact hx
     · exact h.ss q hq hqn
end
theorem A58 {fr:List Int} (hfs:I9 fr=true) {st:U2} (h:RunOk g st):∀k,k≤g.2.2.2.1.length→RunOk g (A1A g fr st k):=by
 intro k
 induction k with
 | zero=>intro _;exact h
 | succ k ih=>intro hk;exact B4q hG hfs (ih (by omega)) (by omega)
theorem B2m:∀k,k≤g.2.2.2.1.length→∀q,q < k→¬(g.2.2.2.1.getD q x0).1=18→(j7 g.2.2.2.1 k).getD (xN (g.2.2.2.1.getD q x0)).toNat []=I0 (H2 (g.2.2.2.1.getD q x0)):=by
 intro k
 induction k with
 | zero=>intro _ q hq;omega
 | succ k ih =>
   intro hk q hq hn
   unfold j7
   by_cases c:(g.2.2.2.1.getD k x0).1=18
   · rw[decide_eq_true c];have:q≠k:=fun e=>by subst e;exact hn c
     exact ih (by omega) q (by omega) hn
   · rw[decide_eq_false c];simp only
     have hb:=(G7 (hG.ins k (by omega)).1).1
     rw[G6 (by rw[A3F];omega)]
     split
     · rename_i e
       have:q=k:=A2A hG (by omega) (by omega) hn c e.symm
       subst this;rfl
     · rename_i e
       have:q≠k:=fun h=>e (by rw[h])
       exact ih (by omega) q (by omega) hn
theorem B7a {ins:List (List Int)} (hin:∀t:Nat,I9 (D3 ins (t:Int))=true):∀t,RunOk g (Q9 g ins t):=by
 intro t
 induction t with
 | zero =>
   refine⟨by simp[Q9],?_,A3F _ _,fun k hk hn=>?_⟩
   · exact M3.2 fun y hy=>by rw[(List.mem_replicate.1 hy).2];rfl
   · have e:=B2m hG _ (Nat.le_refl _) k hk hn
     show ((j7 g.2.2.2.1 g.2.2.2.1.length).getD _ []).length=_∧I9 ((j7 g.2.2.2.1 g.2.2.2.1.length).getD _ [])=true
     rw[e];refine⟨rfl,A9u _ ?_⟩
     obtain⟨_,_,_,_,h5,h6⟩:=G7 (hG.ins k hk).1
     by_cases c6:(g.2.2.2.1.getD k x0).1=6
     · have:=h5 c6;exact y6.2 ⟨by show _≤(g.2.2.2.1.getD k x0).2.1;omega,by show (g.2.2.2.1.getD k x0).2.1≤_;omega⟩
     · exact(Y2 (h6 hn c6)).1
 | succ t ih=>exact A58 hG (hin t) ih _ (Nat.le_refl _)
end
end Go.Proofs.YtenjbehedcegdaaGreat
