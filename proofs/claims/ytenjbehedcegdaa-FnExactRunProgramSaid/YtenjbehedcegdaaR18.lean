/-
  Texts of this claim, joined (part 18). No condition beyond those of the theorems.
-/
import Derived.Test.YtenjbehedcegdaaR17
namespace Go.Proofs.Ytenjbehedcegdaa
open Go.RowKit
set_option linter.unusedSimpArgs false
set_option linter.unusedVariables false
structure CInv (ns:List NodeD) (done:List Int) (c:List InstrD) (s:List Int):Prop where
 each:∀t,t < c.length→(∃i,i < ns.length∧c.getD t x0=instrOf (ns.getD i n0) i∧¬(ns.getD i n0).1=18)∨∃d,d < ns.length∧(ns.getD d n0).1=6∧c.getD t x0=storeOf (ns.getD d n0) d
 frm:∀t,t < c.length→∀q∈xF (c.getD t x0),∃u,u < t∧¬(c.getD u x0).1=18∧xN (c.getD u x0)=q
 dly:∀t,t < c.length→(c.getD t x0).1=18→∃u,u < t∧¬(c.getD u x0).1=18∧xN (c.getD u x0)=xN (c.getD t x0)
 dn:∀q∈done,∃u,u < c.length∧¬(c.getD u x0).1=18∧xN (c.getD u x0)=q
 sto:∀t,t < c.length→(c.getD t x0).1=18→xN (c.getD t x0)∈s
 has:∀q∈s,∃t,t < c.length∧(c.getD t x0).1=18∧xN (c.getD t x0)=q
 once:∀t t',t < c.length→t' < c.length→(c.getD t x0).1=18→(c.getD t' x0).1=18→xN (c.getD t x0)=xN (c.getD t' x0)→t=t'
section
variable {ns:List NodeD} {done:List Int} {c:List InstrD} {s:List Int} (h:CInv ns done c s)
theorem app_lt {x:InstrD} {t:Nat} (ht:t < c.length):(c++[x]).getD t x0=c.getD t x0:=by
 rw[List.getD_eq_getElem?_getD,List.getElem?_append_left ht,←List.getD_eq_getElem?_getD]
theorem app_eq {x:InstrD}:(c++[x]).getD c.length x0=x:=by
 rw[List.getD_eq_getElem?_getD,List.getElem?_append_right (Nat.le_refl _),Nat.sub_self];rfl
theorem app_case {x:InstrD} {t:Nat} (ht:t < (c++[x]).length):(t < c.length∧(c++[x]).getD t x0=c.getD t x0)∨(t=c.length∧(c++[x]).getD t x0=x):=by
 rw[List.length_append,List.length_singleton] at ht
 rcases Nat.lt_succ_iff_lt_or_eq.1 ht with h|h
 · exact .inl ⟨h,app_lt h⟩
 · subst h;exact .inr ⟨rfl,app_eq⟩
include h
theorem CInv.store {d:Nat} (hd:d < ns.length) (hl:(ns.getD d n0).1=6→(ns.getD d n0).2.2.2.length=1) (hb:putB ns done s d=true):CInv ns done (c++[storeOf (ns.getD d n0) d]) (s++[(d:Int)]):=by
 simp only[putB,Bool.and_eq_true,decide_eq_true_eq,Bool.not_eq_true',List.contains_eq_mem,decide_eq_false_iff_not] at hb
 obtain⟨b1,b2,b3,b4⟩:=hb
 have hx18:(storeOf (ns.getD d n0) d).1=18:=rfl
 have up:∀{q:Int} {m:Nat},m≤c.length→(∃u,u < m∧¬(c.getD u x0).1=18∧xN (c.getD u x0)=q)→∃u,u < m∧¬((c++[storeOf (ns.getD d n0) d]).getD u x0).1=18∧xN ((c++[storeOf (ns.getD d n0) d]).getD u x0)=q:=fun hm ⟨u,h1,h2,h3⟩=>⟨u,h1,by rw[app_lt (by omega)];exact h2,by rw[app_lt (by omega)];exact h3⟩
 refine⟨fun t ht=>?_,fun t ht q hq=>?_,fun t ht h18=>?_,fun q hq=>?_,fun t ht h18=>?_,fun q hq=>?_,fun t t' ht ht' h1 h2 e=>?_⟩
 · rcases app_case ht with⟨h1,e⟩|⟨h1,e⟩
   · rw[e];exact h.each t h1
   · rw[e];exact .inr ⟨d,hd,b1,rfl⟩
 · rcases app_case ht with⟨h1,e⟩|⟨h1,e⟩
   · rw[e] at hq;exact up (by omega) (h.frm t h1 q hq)
   · rw[e] at hq
     rw[h1]
     have hq':q∈(ns.getD d n0).2.2.2:=hq
     rw[←one_of (hl b1)] at hq'
     rw[List.mem_singleton.1 hq']
     exact up (Nat.le_refl _) (h.dn _ b4)
 · rcases app_case ht with⟨h1,e⟩|⟨h1,e⟩
   · rw[e] at h18 ⊢;exact up (by omega) (h.dly t h1 h18)
   · rw[e,h1];exact up (Nat.le_refl _) (h.dn _ b3)
 · obtain⟨u,h1,h2,h3⟩:=up (Nat.le_refl _) (h.dn q hq)
   exact⟨u,by rw[List.length_append];omega,h2,h3⟩
 · rcases app_case ht with⟨h1,e⟩|⟨h1,e⟩
   · rw[e] at h18 ⊢;exact List.mem_append_left _ (h.sto t h1 h18)
   · rw[e];exact List.mem_append_right _ (List.mem_singleton.2 rfl)
 · rcases List.mem_append.1 hq with hq|hq
   · obtain⟨t,h1,h2,h3⟩:=h.has q hq
     exact⟨t,by rw[List.length_append];omega,by rw[app_lt h1];exact h2,by rw[app_lt h1];exact h3⟩
   · rw[List.mem_singleton.1 hq]
     exact⟨c.length,by rw[List.length_append,List.length_singleton];omega,by rw[app_eq];rfl,by rw[app_eq];rfl⟩
 · have hno:∀u,u < c.length→(c.getD u x0).1=18→¬xN (c.getD u x0)=(d:Int):=fun u h1 h2 h3=>b2 (h3 ▸ h.sto u h1 h2)
   rcases app_case ht with⟨g1,e1⟩|⟨g1,e1⟩
   · rcases app_case ht' with⟨g2,e2⟩|⟨g2,e2⟩
     · rw[e1] at h1 e;rw[e2] at h2 e;exact h.once t t' g1 g2 h1 h2 e
     · rw[e1] at h1 e;rw[e2] at e;exact absurd e (hno t g1 h1)
   · rcases app_case ht' with⟨g2,e2⟩|⟨g2,e2⟩
     · rw[e2] at h2 e;rw[e1] at e;exact absurd e.symm (hno t' g2 h2)
     · omega
end
structure CodeAll (ns:List NodeD) (c:List InstrD):Prop where
 each:∀t,t < c.length→(∃i,i < ns.length∧c.getD t x0=instrOf (ns.getD i n0) i∧¬(ns.getD i n0).1=18)∨∃d,d < ns.length∧(ns.getD d n0).1=6∧c.getD t x0=storeOf (ns.getD d n0) d
 frm:∀t,t < c.length→∀q∈xF (c.getD t x0),∃u,u < t∧¬(c.getD u x0).1=18∧xN (c.getD u x0)=q
 dly:∀t,t < c.length→(c.getD t x0).1=18→∃u,u < t∧¬(c.getD u x0).1=18∧xN (c.getD u x0)=xN (c.getD t x0)
 all:∀i:Nat,i < ns.length→∃u,u < c.length∧¬(c.getD u x0).1=18∧xN (c.getD u x0)=(i:Int)
 sto:∀d:Nat,d < ns.length→(ns.getD d n0).1=6→∃t,t < c.length∧(c.getD t x0).1=18∧xN (c.getD t x0)=(d:Int)
 once:∀t t',t < c.length→t' < c.length→(c.getD t x0).1=18→(c.getD t' x0).1=18→xN (c.getD t x0)=xN (c.getD t' x0)→t=t'
def lastOf (p:PatchD):List Int:=lastP p.2.2.1.length (codeL p.2.2.1) p.2.2.2
def AK (p:PatchD) (t:Nat):AllocSt:=allocK (lastOf p) (codeL p.2.2.1) p.2.2.1.length t
abbrev cN (p:PatchD):Nat:=(codeL p.2.2.1).length
abbrev cX (p:PatchD) (t:Nat):InstrD:=(codeL p.2.2.1).getD t x0
/-! Last reads. -/
section
variable {p:PatchD} (hP:patchB p=true)
include hP
/-! A frame. -/
structure SimJ (p:PatchD) (s:List (List Int)) (fr v:List Int) (t:Nat) (st:RunSt):Prop where
 rl:st.1.length=(AK p (cN p)).1.length
 rv:∀r,r < (AK p t).1.length→st.1.getD r 0=v.getD ((AK p t).1.getD r 0).toNat 0
 sl:st.2.length=24
 old:∀i:Nat,i < p.2.2.1.length→(∀u,u < t→¬(cX p u).1=6→¬xN (cX p u)=(i:Int))→st.2.getD i []=s.getD i []
 new:∀u,u < t→¬(cX p u).1=6→st.2.getD (xN (cX p u)).toNat []=nextP p s fr v (v.getD (xN (cX p u)).toNat 0) (xN (cX p u)).toNat
section
variable {s:List (List Int)} {fr v:List Int} (hv:∀i:Nat,i < p.2.2.1.length→v.getD i 0=outP p s fr v i) {t:Nat} (ht:t < cN p) {st:RunSt} (h:SimJ p s fr v t st)
omit hv in
include ht h in
omit hv in
include ht h in
include hv ht h
end
end
section
variable {p:PatchD} (hP:patchB p=true)
include hP
end
section
variable {p:PatchD} (hP:patchB p=true)
include hP
end
def runO (g:ProgD) (ins:List (List Int)):Nat→List (List Int)
 | 0=>List.replicate g.2.2.2.2.length []
 | k+1=>addOut (runO g ins k) (outX g (runG g ins (k+1)).1)
def runR (g:ProgD) (ins:List (List Int)) (n:Int):List (List Int) × Int:=match progB g with
 | true => match decide ((ins.length : Int) = g.1) && ins.all l03B && inR n 0 4000 with
   | true=>(runO g ins n.toNat,0)
   | false=>([],2)
 | false=>([],1)
end Go.Proofs.Ytenjbehedcegdaa
