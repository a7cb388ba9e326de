/-
  Texts of this claim, joined (part 16). No condition beyond those of the theorems.
-/
import Derived.Test.YtenjbehedcegdaaR08
import Derived.Test.YtenjbehedcegdaaR15
namespace Go.Proofs.Ytenjbehedcegdaa
open Go.RowKit
set_option linter.unusedSimpArgs false
set_option linter.unusedVariables false
abbrev xN (x:InstrD):Int:=x.2.2.2.1
abbrev xF (x:InstrD):List Int:=x.2.2.2.2.1
abbrev xT (x:InstrD):Int:=x.2.2.2.2.2
def nodeX (x:InstrD):NodeD:=(x.1,x.2.1,x.2.2.1,xF x)
def insB (regs tb:Int) (x:InstrD):Bool:=inR (xN x) 0 23 && (idxs regs (xF x) && (match decide (x.1=18) with
 | true=>decide ((xF x).length=1) && (decide (x.2.1=0) && (decide (x.2.2.1=0) && decide (xT x=0)))
 | false => inR (xT x) 0 (regs - 1) && (match decide (x.1 = 6) with
   | true=>inR x.2.1 1 16 && (decide (x.2.2.1=0) && decide ((xF x).length=0))
   | false=>nodeB (nodeX x) tb)))
/-! Nodes are different, and each delay has one store behind it. -/
abbrev PairD:=List Int × List Int
def pairS (x:InstrD) (s:PairD):Option PairD:=match decide (x.1=18) with
 | true => match s.2.contains (xN x) with
   | true=>some (s.1,s.2.filter fun y=>!decide (y=xN x))
   | false=>none
 | false => match s.1.contains (xN x) with
   | true=>none
   | false=>some (s.1++[xN x],match decide (x.1=6) with|true=>s.2++[xN x]|false=>s.2)
def pairK (code:List InstrD):Nat→Option PairD
 | 0=>some ([],[])
 | k+1=>(pairK code k).bind (pairS (code.getD k x0))
def pairB (code:List InstrD):Bool:=match pairK code code.length with
 | some s=>decide (s.2.length=0)
 | none=>false
/-! Registers are written before they are read. -/
def wrtS (x:InstrD) (s:List Int):Option (List Int):=match (xF x).all (fun f=>s.contains f) with
 | true => match decide (x.1 = 18) with
   | true=>some s
   | false=>some (s++[xT x])
 | false=>none
def wrtK (code:List InstrD):Nat→Option (List Int)
 | 0=>some []
 | k+1=>(wrtK code k).bind (wrtS (code.getD k x0))
def wrtB (code:List InstrD) (os:List Int):Bool:=match wrtK code code.length with
 | some s=>os.all fun f=>s.contains f
 | none=>false
def progB (g:ProgD):Bool:=inR g.1 0 4 && (inR g.2.1 0 24 && (tabsB g.2.2.1 && (decide (g.2.2.2.1.length≤48) && (decide (g.2.2.2.2.length≤4) && (g.2.2.2.1.all (fun x=>insB g.2.1 g.2.2.1.length x && !(decide (x.1=1) && decide (g.1≤x.2.1))) && (pairB g.2.2.2.1 && wrtB g.2.2.2.1 g.2.2.2.2))))))
structure ProgOk (g:ProgD):Prop where
 i0:0≤g.1
 i4:g.1≤4
 r0:0≤g.2.1
 r24:g.2.1≤24
 ts:tabsB g.2.2.1=true
 cl:g.2.2.2.1.length≤48
 ol:g.2.2.2.2.length≤4
 ins:∀k,k < g.2.2.2.1.length→insB g.2.1 g.2.2.1.length (g.2.2.2.1.getD k x0)=true∧((g.2.2.2.1.getD k x0).1=1→(g.2.2.2.1.getD k x0).2.1 < g.1)
 pr:pairB g.2.2.2.1=true
 wr:wrtB g.2.2.2.1 g.2.2.2.2=true
theorem progB_ok {g:ProgD} (h:progB g=true):ProgOk g:=by
 simp only[progB,Bool.and_eq_true,decide_eq_true_eq] at h
 obtain⟨h1,h2,h3,h4,h5,h6,h7,h8⟩:=h
 obtain⟨a1,a2⟩:=inR_iff.1 h1
 obtain⟨b1,b2⟩:=inR_iff.1 h2
 refine⟨a1,a2,b1,b2,h3,h4,h5,fun k hk=>?_,h7,h8⟩
 have:=List.all_eq_true.1 h6 _ (getD_mem (d:=x0) hk)
 simp only[Bool.and_eq_true,Bool.not_eq_true',Bool.and_eq_false_iff,decide_eq_false_iff_not] at this
 exact⟨this.1,fun e=>by rcases this.2 with h|h;exact absurd e h;omega⟩
theorem ins_parts {r tb:Int} {x:InstrD} (h:insB r tb x=true):(0≤xN x∧xN x≤23)∧idxs r (xF x)=true∧(x.1=18→(xF x).length=1)∧(¬x.1=18→0≤xT x∧xT x < r)∧(x.1=6→1≤x.2.1∧x.2.1≤16)∧(¬x.1=18→¬x.1=6→nodeB (nodeX x) tb=true):=by
 unfold insB at h
 simp only[Bool.and_eq_true] at h
 obtain⟨h1,h2,h3⟩:=h
 refine⟨inR_iff.1 h1,h2,fun e=>?_,fun e=>?_,fun e=>?_,fun e e6=>?_⟩
 · rw[decide_eq_true e] at h3;simp only[Bool.and_eq_true,decide_eq_true_eq] at h3;exact h3.1
 · rw[decide_eq_false e] at h3;simp only[Bool.and_eq_true] at h3;have:=inR_iff.1 h3.1;omega
 · rw[decide_eq_false (show ¬x.1=18 by omega)] at h3;simp only[Bool.and_eq_true] at h3;rw[decide_eq_true e] at h3;simp only[Bool.and_eq_true] at h3;exact inR_iff.1 h3.2.1
 · rw[decide_eq_false e] at h3;simp only[Bool.and_eq_true] at h3;rw[decide_eq_false e6] at h3;exact h3.2
structure PairOk (code:List InstrD) (k:Nat) (s:PairD):Prop where
 seen:∀N,N∈s.1↔∃q,q < k∧¬(code.getD q x0).1=18∧xN (code.getD q x0)=N
 opn:∀N∈s.2,∃q,q < k∧(code.getD q x0).1=6∧xN (code.getD q x0)=N
 uniq:∀q q',q < k→q' < k→¬(code.getD q x0).1=18→¬(code.getD q' x0).1=18→xN (code.getD q x0)=xN (code.getD q' x0)→q=q'
 sto:∀t,t < k→(code.getD t x0).1=18→∃q,q < t∧(code.getD q x0).1=6∧xN (code.getD q x0)=xN (code.getD t x0)
theorem pairK_ok {code:List InstrD}:∀(k:Nat) {s:PairD},pairK code k=some s→PairOk code k s:=by
 intro k
 induction k with
 | zero =>
   intro s h
   cases h
   exact⟨fun N=>⟨(fun h=>by cases h),fun ⟨q,h,_⟩=>by omega⟩,(fun N h=>by cases h),(fun q q' h=>by omega),fun t h=>by omega⟩
 | succ k ih =>
   intro s h
   simp only[pairK] at h
   cases e:pairK code k with
   | none=>rw[e] at h;cases h
   | some s0 =>
     rw[e] at h
     have i:=ih e
     obtain⟨x,hx⟩:∃x,code.getD k x0=x:=⟨_,rfl⟩
     rw[hx] at h
     change pairS x s0=some s at h
     unfold pairS at h
     by_cases c:x.1=18
     · rw[decide_eq_true c] at h
       simp only at h
       cases c2:s0.2.contains (xN x) with
       | false=>rw[c2] at h;cases h
       | true =>
         rw[c2] at h
         cases h
         have hm:xN x∈s0.2:=by simpa using c2
         refine⟨fun N=>?_,fun N hN=>?_,fun q q' hq hq' n1 n2 en=>?_,fun t ht ht18=>?_⟩
         · rw[i.seen]
           constructor
           · rintro⟨q,h1,h2⟩;exact⟨q,by omega,h2⟩
           · rintro⟨q,h1,h2,h3⟩
             refine⟨q,?_,h2,h3⟩
             have:q≠k:=fun e=>by subst e;rw[hx] at h2;exact h2 c
             omega
         · obtain⟨q,h1,h2⟩:=i.opn N (List.mem_filter.1 hN).1
           exact⟨q,by omega,h2⟩
         · have g1:q≠k:=fun e=>by subst e;rw[hx] at n1;exact n1 c
           have g2:q'≠k:=fun e=>by subst e;rw[hx] at n2;exact n2 c
           exact i.uniq q q' (by omega) (by omega) n1 n2 en
         · by_cases et:t=k
           · subst et
             obtain⟨q,h1,h2,h3⟩:=i.opn _ hm
             exact⟨q,h1,h2,by rw[hx];exact h3⟩
           · exact i.sto t (by omega) ht18
     · rw[decide_eq_false c] at h
       simp only at h
       cases c2:s0.1.contains (xN x) with
       | true=>rw[c2] at h;cases h
       | false =>
         rw[c2] at h
         cases h
         have hm:¬xN x∈s0.1:=by simpa using c2
         have hnew:∀q,q < k→¬(code.getD q x0).1=18→¬xN (code.getD q x0)=xN x:=fun q h1 h2 h3=>hm ((i.seen _).2 ⟨q,h1,h2,h3⟩)
         refine⟨fun N=>?_,fun N hN=>?_,fun q q' hq hq' n1 n2 en=>?_,fun t ht ht18=>?_⟩
         · rw[List.mem_append,i.seen,List.mem_singleton]
           constructor
           · rintro (⟨q,h1,h2⟩|rfl)
             · exact⟨q,by omega,h2⟩
             · exact⟨k,by omega,by rw[hx];exact c,by rw[hx]⟩
           · rintro⟨q,h1,h2,h3⟩
             by_cases eq:q=k
             · subst eq;right;rw[hx] at h3;exact h3.symm
             · left;exact⟨q,by omega,h2,h3⟩
         · by_cases c6:x.1=6
           · rw[decide_eq_true c6] at hN
             simp only[List.mem_append,List.mem_singleton] at hN
             rcases hN with hN|rfl
             · obtain⟨q,h1,h2⟩:=i.opn N hN;exact⟨q,by omega,h2⟩
             · exact⟨k,by omega,by rw[hx];exact c6,by rw[hx]⟩
           · rw[decide_eq_false c6] at hN
             obtain⟨q,h1,h2⟩:=i.opn N hN;exact⟨q,by omega,h2⟩
         · by_cases g1:q=k
           · by_cases g2:q'=k
             · omega
             · subst g1;rw[hx] at en;exact absurd en.symm (hnew q' (by omega) n2)
           · by_cases g2:q'=k
             · subst g2;rw[hx] at en;exact absurd en (hnew q (by omega) n1)
             · exact i.uniq q q' (by omega) (by omega) n1 n2 en
         · by_cases et:t=k
           · subst et;rw[hx] at ht18;exact absurd ht18 c
           · exact i.sto t (by omega) ht18
theorem pair_ok {code:List InstrD} (h:pairB code=true):∃s,pairK code code.length=some s∧PairOk code code.length s:=by
 unfold pairB at h
 cases e:pairK code code.length with
 | none=>rw[e] at h;cases h
 | some s=>exact⟨s,rfl,pairK_ok _ e⟩
/-! Running. Registers, and states by node. -/
abbrev RunSt:=List Int × List (List Int)
def inX (fr regs:List Int) (x:InstrD):List Int:=match decide (x.1=1) with
 | true=>[fr.getD x.2.1.toNat 0]
 | false=>(xF x).map fun q=>regs.getD q.toNat 0
def stpX (ts:List (List Int)) (fr:List Int) (x:InstrD) (st:RunSt):RunSt:=match decide (x.1=18) with
 | true=>(st.1,st.2.set (xN x).toNat ((st.2.getD (xN x).toNat []).drop 1++[st.1.getD ((xF x).getD 0 0).toNat 0]))
 | false => match decide (x.1 = 6) with
   | true=>(st.1.set (xT x).toNat ((st.2.getD (xN x).toNat []).getD 0 0),st.2)
   | false=>(st.1.set (xT x).toNat (outV x.1 x.2.1 ts (inX fr st.1 x) (st.2.getD (xN x).toNat [])),
    st.2.set (xN x).toNat (nextV x.1 (inX fr st.1 x) (st.2.getD (xN x).toNat []) (outV x.1 x.2.1 ts (inX fr st.1 x) (st.2.getD (xN x).toNat []))))
def runK (g:ProgD) (fr:List Int) (st:RunSt):Nat→RunSt
 | 0=>st
 | k+1=>stpX g.2.2.1 fr (g.2.2.2.1.getD k x0) (runK g fr st k)
def runF (g:ProgD) (fr:List Int) (st:RunSt):RunSt:=runK g fr st g.2.2.2.1.length
def strK (code:List InstrD):Nat→List (List Int)
 | 0=>List.replicate 24 []
 | k + 1 => match decide ((code.getD k x0).1 = 18) with
   | true=>strK code k
   | false=>(strK code k).set (xN (code.getD k x0)).toNat (startV (nodeX (code.getD k x0)))
def runG (g:ProgD) (ins:List (List Int)):Nat→RunSt
 | 0=>(List.replicate g.2.1.toNat 0,strK g.2.2.2.1 g.2.2.2.1.length)
 | t+1=>runF g (frameAt ins (t:Int)) (runG g ins t)
def outX (g:ProgD) (regs:List Int):List Int:=g.2.2.2.2.map fun r=>regs.getD r.toNat 0
end Go.Proofs.Ytenjbehedcegdaa
