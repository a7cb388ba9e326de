/-
  Texts of this claim, joined (part 15). No condition beyond those of the theorems.
-/
import Derived.Test.YtenjbehedcegdaaDoorP08
import Derived.Test.YtenjbehedcegdaaDoorP14
namespace Go.Proofs.YtenjbehedcegdaaDoor
open Go.RowKit
set_option linter.unusedSimpArgs false
set_option linter.unusedVariables false
abbrev xN (x:InstrD):Int:=x.2.2.2.1
abbrev xF (x:InstrD):List Int:=x.2.2.2.2.1
abbrev xT (x:InstrD):Int:=x.2.2.2.2.2
def nodeX (x:InstrD):NodeD:=(x.1,x.2.1,x.2.2.1,xF x)
def insB (regs tb:Int) (x:InstrD):Bool:=inR (xN x) 0 23 && (idxs regs (xF x) && (match decide (x.1=18) with
 | true=>decide ((xF x).length=1) && (decide (x.2.1=0) && (decide (x.2.2.1=0) && decide (xT x=0)))
 | false => inR (xT x) 0 (regs - 1) && (match decide (x.1 = 6) with
   | true=>inR x.2.1 1 16 && (decide (x.2.2.1=0) && decide ((xF x).length=0))
   | false=>nodeB (nodeX x) tb)))
/-! Nodes are different, and each delay has one store behind it. -/
abbrev PairD:=List Int × List Int
def pairS (x:InstrD) (s:PairD):Option PairD:=match decide (x.1=18) with
 | true => match s.2.contains (xN x) with
   | true=>some (s.1,s.2.filter fun y=>!decide (y=xN x))
   | false=>none
 | false => match s.1.contains (xN x) with
   | true=>none
   | false=>some (s.1++[xN x],match decide (x.1=6) with|true=>s.2++[xN x]|false=>s.2)
def pairK (code:List InstrD):Nat→Option PairD
 | 0=>some ([],[])
 | k+1=>(pairK code k).bind (pairS (code.getD k x0))
def pairB (code:List InstrD):Bool:=match pairK code code.length with
 | some s=>decide (s.2.length=0)
 | none=>false
/-! Registers are written before they are read. -/
def wrtS (x:InstrD) (s:List Int):Option (List Int):=match (xF x).all (fun f=>s.contains f) with
 | true => match decide (x.1 = 18) with
   | true=>some s
   | false=>some (s++[xT x])
 | false=>none
def wrtK (code:List InstrD):Nat→Option (List Int)
 | 0=>some []
 | k+1=>(wrtK code k).bind (wrtS (code.getD k x0))
def wrtB (code:List InstrD) (os:List Int):Bool:=match wrtK code code.length with
 | some s=>os.all fun f=>s.contains f
 | none=>false
def progB (g:ProgD):Bool:=inR g.1 0 4 && (inR g.2.1 0 24 && (tabsB g.2.2.1 && (decide (g.2.2.2.1.length≤48) && (decide (g.2.2.2.2.length≤4) && (g.2.2.2.1.all (fun x=>insB g.2.1 g.2.2.1.length x && !(decide (x.1=1) && decide (g.1≤x.2.1))) && (pairB g.2.2.2.1 && wrtB g.2.2.2.1 g.2.2.2.2))))))
structure ProgOk (g:ProgD):Prop where
 i0:0≤g.1
 i4:g.1≤4
 r0:0≤g.2.1
 r24:g.2.1≤24
 ts:tabsB g.2.2.1=true
 cl:g.2.2.2.1.length≤48
 ol:g.2.2.2.2.length≤4
 ins:∀k,k < g.2.2.2.1.length→insB g.2.1 g.2.2.1.length (g.2.2.2.1.getD k x0)=true∧((g.2.2.2.1.getD k x0).1=1→(g.2.2.2.1.getD k x0).2.1 < g.1)
 pr:pairB g.2.2.2.1=true
 wr:wrtB g.2.2.2.1 g.2.2.2.2=true
theorem progB_ok {g:ProgD} (h:progB g=true):ProgOk g:=by
 simp only[progB,Bool.and_eq_true,decide_eq_true_eq] at h
 obtain⟨h1,h2,h3,h4,h5,h6,h7,h8⟩:=h
 obtain⟨a1,a2⟩:=inR_iff.1 h1
 obtain⟨b1,b2⟩:=inR_iff.1 h2
 refine⟨a1,a2,b1,b2,h3,h4,h5,fun k hk=>?_,h7,h8⟩
 have:=List.all_eq_true.1 h6 _ (getD_mem (d:=x0) hk)
 simp only[Bool.and_eq_true,Bool.not_eq_true',Bool.and_eq_false_iff,decide_eq_false_iff_not] at this
 exact⟨this.1,fun e=>by rcases this.2 with h|h;exact absurd e h;omega⟩
theorem ins_parts {r tb:Int} {x:InstrD} (h:insB r tb x=true):(0≤xN x∧xN x≤23)∧idxs r (xF x)=true∧(x.1=18→(xF x).length=1)∧(¬x.1=18→0≤xT x∧xT x < r)∧(x.1=6→1≤x.2.1∧x.2.1≤16)∧(¬x.1=18→¬x.1=6→nodeB (nodeX x) tb=true):=by
 unfold insB at h
 simp only[Bool.and_eq_true] at h
 obtain⟨h1,h2,h3⟩:=h
 refine⟨inR_iff.1 h1,h2,fun e=>?_,fun e=>?_,fun e=>?_,fun e e6=>?_⟩
 · rw[decide_eq_true e] at h3;simp only[Bool.and_eq_true,decide_eq_true_eq] at h3;exact h3.1
 · rw[decide_eq_false e] at h3;simp only[Bool.and_eq_true] at h3;have:=inR_iff.1 h3.1;omega
 · rw[decide_eq_false (show ¬x.1=18 by omega)] at h3;simp only[Bool.and_eq_true] at h3;rw[decide_eq_true e] at h3;simp only[Bool.and_eq_true] at h3;exact inR_iff.1 h3.2.1
 · rw[decide_eq_false e] at h3;simp only[Bool.and_eq_true] at h3;rw[decide_eq_false e6] at h3;exact h3.2
structure PairOk (code:List InstrD) (k:Nat) (s:PairD):Prop where
 seen:∀N,N∈s.1↔∃q,q < k∧¬(code.getD q x0).1=18∧xN (code.getD q x0)=N
 opn:∀N∈s.2,∃q,q < k∧(code.getD q x0).1=6∧xN (code.getD q x0)=N
 uniq:∀q q',q < k→q' < k→¬(code.getD q x0).1=18→¬(code.getD q' x0).1=18→xN (code.getD q x0)=xN (code.getD q' x0)→q=q'
 sto:∀t,t < k→(code.getD t x0).1=18→∃q,q < t∧(code.getD q x0).1=6∧xN (code.getD q x0)=xN (code.getD t x0)
/-! Running. Registers, and states by node. -/
abbrev RunSt:=List Int × List (List Int)
end Go.Proofs.YtenjbehedcegdaaDoor
