/-
  Texts of this claim, joined (part 22). No condition beyond those of the theorems.
-/
import Derived.Test.YtenjbehedcegdaaGreatQ21
namespace Go.Proofs.YtenjbehedcegdaaGreat
open Go.RowKit
set_option linter.unusedSimpArgs false
set_option linter.unusedVariables false
/-! The program's test of stores: what is computed and what is stored, by node. -/
abbrev B3O:=List Int × List Bool
def A1D (x:A1) (s:B3O):Option B3O:=match decide (x.1=18) with
 | true => match decide (s.1.getD (xN x).toNat 0 = 6) && !s.2.getD (xN x).toNat false with
   | true=>some (s.1,s.2.set (xN x).toNat true)
   | false=>none
 | false => match decide (s.1.getD (xN x).toNat 0 = 0) with
   | true=>some (s.1.set (xN x).toNat x.1,s.2)
   | false=>none
def A0o (code:List A1):Nat→Option B3O
 | 0=>some (List.replicate 24 0,List.replicate 24 false)
 | k+1=>(A0o code k).bind (A1D (code.getD k x0))
def B4R (s:B3O):Bool:=(List.range 24).all fun i=>!(decide (s.1.getD i 0=6) && !s.2.getD i false)
def A47 (code:List A1):Bool:=match A0o code code.length with
 | some s=>B4R s
 | none=>false
structure HasR (s:B3O) (q:A68):Prop where
 l1:s.1.length=24
 l2:s.2.length=24
 sn:∀i:Nat,i < 24→((i:Int)∈q.1↔¬s.1.getD i 0=0)
 op:∀i:Nat,i < 24→((i:Int)∈q.2↔s.1.getD i 0=6∧s.2.getD i false=false)
 st:∀i:Nat,i < 24→s.1.getD i 0=0→s.2.getD i false=false
 rg:∀N∈q.2,0≤N∧N≤23
theorem B4t {x:A1} {s:B3O} {q:A68} (h:HasR s q) (hx:0≤xN x∧xN x≤23) (hk:¬x.1=0):(A1D x s=none∧Y7 x q=none)∨∃s' q',A1D x s=some s'∧Y7 x q=some q'∧HasR s' q':=by
 obtain⟨h0,h23⟩:=hx;have hN:((xN x).toNat:Int)=xN x:=Int.toNat_of_nonneg h0
 have hlt:(xN x).toNat < 24:=by omega
 have hl1:=h.l1
 have hl2:=h.l2
 unfold A1D Y7
 by_cases c:x.1=18
 · rw[decide_eq_true c];simp only
   have ho:=h.op _ hlt
   rw[hN] at ho
   by_cases c2:s.1.getD (xN x).toNat 0=6∧s.2.getD (xN x).toNat false=false
   · right
     rw[decide_eq_true c2.1,c2.2,List.contains_iff_mem.2 (ho.2 c2)]
     refine⟨_,_,rfl,rfl,h.l1,by simp only[List.length_set];exact h.l2,h.sn,fun i hi=>?_,fun i hi e=>?_,fun N hN=>h.rg N (List.mem_filter.1 hN).1⟩
     · simp only[List.mem_filter,Bool.not_eq_true',decide_eq_false_iff_not];rw[h.op i hi,G6 (by omega)]
       by_cases e:(xN x).toNat=i
       · rw[if_pos e];exact⟨fun g=>absurd (show (i:Int)=xN x by omega) g.2,fun g=>by cases g.2⟩
       · rw[if_neg e];exact⟨fun g=>g.1,fun g=>⟨g,by omega⟩⟩
     · simp only at e ⊢
       rw[G6 (by omega)]
       have:¬(xN x).toNat=i:=fun g=>by subst g;omega
       rw[if_neg this];exact h.st i hi e
   · left
     have e1:(decide (s.1.getD (xN x).toNat 0=6) && !s.2.getD (xN x).toNat false)=false:=by
      cases g:(decide (s.1.getD (xN x).toNat 0=6) && !s.2.getD (xN x).toNat false) with
      | false=>rfl
      | true=>simp only[Bool.and_eq_true,decide_eq_true_eq,Bool.not_eq_true'] at g;exact absurd g c2
     have e2:q.2.contains (xN x)=false:=by
      cases g:q.2.contains (xN x) with
      | false=>rfl
      | true=>exact absurd (ho.1 (List.contains_iff_mem.1 g)) c2
     rw[e1,e2];exact⟨rfl,rfl⟩
 · rw[decide_eq_false c];simp only
   have hs:=h.sn _ hlt
   rw[hN] at hs
   by_cases c2:s.1.getD (xN x).toNat 0=0
   · right
     have e2:q.1.contains (xN x)=false:=by
      cases g:q.1.contains (xN x) with
      | false=>rfl
      | true=>exact absurd c2 (hs.1 (List.contains_iff_mem.1 g))
     rw[decide_eq_true c2,e2]
     have hsn:∀i:Nat,i < 24→((i:Int)∈q.1++[xN x]↔¬(s.1.set (xN x).toNat x.1).getD i 0=0):=fun i hi=>by
      rw[List.mem_append,List.mem_singleton,h.sn i hi,G6 (by omega)]
      by_cases e:(xN x).toNat=i
      · rw[if_pos e];exact⟨fun _=>hk,fun _=>.inr (by omega)⟩
      · rw[if_neg e];exact⟨fun g=>g.elim id (fun g=>absurd (show (xN x).toNat=i by omega) e),fun g=>.inl g⟩
     have hst:∀i:Nat,i < 24→(s.1.set (xN x).toNat x.1).getD i 0=0→s.2.getD i false=false:=fun i hi e=>by
      rw[G6 (by omega)] at e
      split at e
      · exact absurd e hk
      · exact h.st i hi e
     by_cases c6:x.1=6
     · rw[decide_eq_true c6];refine⟨_,_,rfl,rfl,by simp only[List.length_set];exact h.l1,h.l2,hsn,fun i hi=>?_,hst,fun N hM=>?_⟩
       · simp only[List.mem_append,List.mem_singleton];rw[h.op i hi,G6 (by omega)]
         by_cases e:(xN x).toNat=i
         · rw[if_pos e];exact⟨fun _=>⟨c6,h.st i hi (by rw[←e];exact c2)⟩,fun _=>.inr (by omega)⟩
         · rw[if_neg e];exact⟨fun g=>g.elim id (fun g=>absurd (show (xN x).toNat=i by omega) e),fun g=>.inl g⟩
       · rcases List.mem_append.1 hM with g|g
         · exact h.rg N g
         · rw[List.mem_singleton.1 g];exact⟨h0,h23⟩
     · rw[decide_eq_false c6];refine⟨_,_,rfl,rfl,by simp only[List.length_set];exact h.l1,h.l2,hsn,fun i hi=>?_,hst,h.rg⟩
       simp only
       rw[h.op i hi,G6 (by omega)]
       by_cases e:(xN x).toNat=i
       · rw[if_pos e];refine⟨fun g=>absurd g.1 ?_,fun g=>absurd g.1 c6⟩
         rw[←e,c2];decide
       · rw[if_neg e]
   · left
     have e2:q.1.contains (xN x)=true:=List.contains_iff_mem.2 (hs.2 c2)
     rw[decide_eq_false c2,e2];exact⟨rfl,rfl⟩
theorem B1p {α:Type} {n i:Nat} {a d:α} (h:i < n):(List.replicate n a).getD i d=a:=by simp[List.getD,h]
theorem B7b {code:List A1} (h:∀t,t < code.length→(0≤xN (code.getD t x0)∧xN (code.getD t x0)≤23)∧¬(code.getD t x0).1=0):∀k,k≤code.length→(A0o code k=none∧R7 code k=none)∨∃s q,A0o code k=some s∧R7 code k=some q∧HasR s q:=by
 intro k
 induction k with
 | zero =>
   intro _
   right
   refine⟨_,_,rfl,rfl,by simp,by simp,fun i hi=>?_,fun i hi=>?_,fun i hi _=>?_,fun N hN=>by cases hN⟩
   · rw[B1p hi];exact⟨(fun g=>by cases g),fun g=>absurd rfl g⟩
   · rw[B1p hi];exact⟨(fun g=>by cases g),fun g=>absurd g.1 (by decide)⟩
   · exact B1p hi
 | succ k ih =>
   intro hk;rcases ih (by omega) with⟨e1,e2⟩|⟨s,q,e1,e2,hr⟩
   · left;simp only[A0o,R7,e1,e2];exact⟨rfl,rfl⟩
   · obtain⟨h1,h2⟩:=h k (by omega)
     show (((A0o code k).bind (A1D (code.getD k x0))=none∧(R7 code k).bind (Y7 (code.getD k x0))=none))∨∃s' q',(A0o code k).bind (A1D (code.getD k x0))=some s'∧(R7 code k).bind (Y7 (code.getD k x0))=some q'∧HasR s' q'
     rw[e1,e2];exact B4t hr h1 h2
theorem B6c {code:List A1} (h:∀t,t < code.length→(0≤xN (code.getD t x0)∧xN (code.getD t x0)≤23)∧¬(code.getD t x0).1=0):A47 code=b9 code:=by
 unfold A47 b9;rcases B7b h _ (Nat.le_refl _) with⟨e1,e2⟩|⟨s,q,e1,e2,hr⟩
 · rw[e1,e2]
 · rw[e1,e2];simp only
   by_cases c:q.2.length=0
   · rw[decide_eq_true c];refine List.all_eq_true.2 fun i hi=>?_
     have hi:=List.mem_range.1 hi
     have hn:¬(i:Int)∈q.2:=fun g=>by rw[List.eq_nil_of_length_eq_zero c] at g;cases g
     rw[hr.op i hi] at hn;cases g:(decide (s.1.getD i 0=6) && !s.2.getD i false) with
     | false=>rfl
     | true=>simp only[Bool.and_eq_true,decide_eq_true_eq,Bool.not_eq_true'] at g;exact absurd g hn
   · rw[decide_eq_false c];cases hq:q.2 with
     | nil=>rw[hq] at c;exact absurd rfl c
     | cons N l =>
       have hm:N∈q.2:=by rw[hq];exact List.mem_cons_self
       obtain⟨r0,r1⟩:=hr.rg N hm
       obtain⟨g1,g2⟩:=(hr.op N.toNat (by omega)).1 (by rw[Int.toNat_of_nonneg r0];exact hm)
       cases g:B4R s with
       | false=>rfl
       | true =>
         have:=List.all_eq_true.1 g N.toNat (List.mem_range.2 (by omega))
         rw[decide_eq_true g1,g2] at this;cases this
theorem A3H {r tb:Int} {x:A1} (h:A12 r tb x=true):1≤x.1∧x.1≤18:=by
 by_cases c:x.1=18
 · omega
 · by_cases c6:x.1=6
   · omega
   · have:=O5 ((G7 h).2.2.2.2.2 c c6)
     have h1:1≤x.1:=this.1
     have h2:x.1≤17:=this.2.1
     omega
/-! The reference's states, by instruction. -/
def byI (code:List A1) (S:List (List Int)):List (List Int):=code.map fun x=>match decide (x.1=18) with|true=>[]|false=>S.getD (xN x).toNat []
theorem A59 {code:List A1} {S:List (List Int)}:(byI code S).length=code.length:=by simp[byI]
theorem A5a {code:List A1} {S:List (List Int)} {t:Nat} (ht:t < code.length) (h:¬(code.getD t x0).1=18):(byI code S).getD t []=S.getD (xN (code.getD t x0)).toNat []:=by
 rw[List.getD_eq_getElem?_getD] at h
 rw[List.getElem?_eq_getElem ht] at h
 unfold byI;simp only[List.getD_eq_getElem?_getD,List.getElem?_map,List.getElem?_eq_getElem ht,Option.map_some,Option.getD_some] at h ⊢
 rw[decide_eq_false h]
theorem B3C {g:G0} (hG:ProgOk g) {S:List (List Int)} (hS:S.length=24) {t:Nat} (ht:t < g.2.2.2.1.length) (h:¬(g.2.2.2.1.getD t x0).1=18) (X:List Int) :
 (byI g.2.2.2.1 S).set t X=byI g.2.2.2.1 (S.set (xN (g.2.2.2.1.getD t x0)).toNat X):=by
 have hb:=(G7 (hG.ins t ht).1).1
 refine List.ext_getElem? fun q=>?_
 by_cases hq:q < g.2.2.2.1.length
 · have eq:g.2.2.2.1.getD q x0=g.2.2.2.1[q]:=by simp[List.getD,hq]
   by_cases e:t=q
   · subst e;rw[List.getElem?_set_self (by rw[A59];exact ht)]
     unfold byI;rw[List.getElem?_map,List.getElem?_eq_getElem hq]
     simp only[Option.map_some];rw[eq] at h hb ⊢
     rw[decide_eq_false h];simp only
     rw[G6 (by omega),if_pos rfl]
   · rw[List.getElem?_set_ne e]
     unfold byI;rw[List.getElem?_map,List.getElem?_map,List.getElem?_eq_getElem hq]
     simp only[Option.map_some]
     by_cases c:g.2.2.2.1[q].1=18
     · rw[decide_eq_true c]
     · rw[decide_eq_false c];simp only
       have:¬(xN (g.2.2.2.1.getD t x0)).toNat=(xN g.2.2.2.1[q]).toNat:=fun h2=>e (A2A hG ht hq h (by rw[eq];exact c) (by rw[eq];exact h2))
       rw[G6 (by omega),if_neg this]
 · rw[List.getElem?_eq_none (by rw[List.length_set,A59];omega),List.getElem?_eq_none (by rw[A59];omega)]
def A3E (x:A1) (N:Int):Bool:=decide (x.1=6) && decide (xN x=N)
def A0O (code:List A1) (N:Int):Nat:=match code.findIdx? (fun x=>A3E x N) with|some k=>k|none=>0
theorem B9V {code:List A1} {N:Int} {k:Nat} (hk:k < code.length) (h:A3E (code.getD k x0) N=true) (hn:∀j,j < k→A3E (code.getD j x0) N=false):A0O code N=k:=by
 have:code.findIdx? (fun x=>A3E x N)=some k:=by
  rw[List.findIdx?_eq_some_iff_getElem]
  refine⟨hk,by simpa [List.getD,hk] using h,fun j hj=>?_⟩
  have:=hn j hj
  have hj':j < code.length:=by omega
  simpa [List.getD,hj'] using this
 unfold A0O;rw[this]
theorem B8x {code:List A1} {N:Int} (hn:∀j,j < code.length→A3E (code.getD j x0) N=false):A0O code N=0:=by
 have:code.findIdx? (fun x=>A3E x N)=none:=by
  rw[List.findIdx?_eq_none_iff]
  intro x hx
  obtain⟨j,hj,rfl⟩:=List.mem_iff_getElem.1 hx
  have:=hn j hj
  simpa [List.getD,hj] using this
 unfold A0O;rw[this]
theorem B2Y {code:List A1} {N:Int} {q:Nat} (hq:q < code.length) (h:A3E (code.getD q x0) N=true):A0O code N < code.length∧(code.getD (A0O code N) x0).1=6∧xN (code.getD (A0O code N) x0)=N:=by
 cases e:code.findIdx? (fun x=>A3E x N) with
 | none =>
   rw[List.findIdx?_eq_none_iff] at e
   have:=e _ (C6 (d:=x0) hq)
   rw[h] at this;cases this
 | some k =>
   have hd:A0O code N=k:=by unfold A0O;rw[e]
   rw[hd];rw[List.findIdx?_eq_some_iff_getElem] at e
   obtain⟨hk,hp,_⟩:=e;have hp:A3E (code.getD k x0) N=true:=by simpa [List.getD,hk] using hp
   simp only[A3E,Bool.and_eq_true,decide_eq_true_eq] at hp
   exact⟨hk,hp.1,hp.2⟩
theorem B4I {g:G0} (hG:ProgOk g) {S:List (List Int)} (hS:S.length=24) {t:Nat} (ht:t < g.2.2.2.1.length) (h:(g.2.2.2.1.getD t x0).1=18) :
 A0O g.2.2.2.1 (xN (g.2.2.2.1.getD t x0)) < g.2.2.2.1.length∧(byI g.2.2.2.1 S).getD (A0O g.2.2.2.1 (xN (g.2.2.2.1.getD t x0))) []=S.getD (xN (g.2.2.2.1.getD t x0)).toNat [] ∧
 ∀X,(byI g.2.2.2.1 S).set (A0O g.2.2.2.1 (xN (g.2.2.2.1.getD t x0))) X=byI g.2.2.2.1 (S.set (xN (g.2.2.2.1.getD t x0)).toNat X):=by
 obtain⟨q,h1,h2,h3⟩:=A0q hG ht h
 obtain⟨g1,g2,g3⟩:=B2Y (code:=g.2.2.2.1) (N:=xN (g.2.2.2.1.getD t x0)) (q:=q) (by omega) (by unfold A3E;rw[decide_eq_true h2,decide_eq_true h3];rfl)
 generalize A0O g.2.2.2.1 (xN (g.2.2.2.1.getD t x0))=k at *
 have hk:¬(g.2.2.2.1.getD k x0).1=18:=by omega
 refine⟨g1,?_,fun X=>?_⟩
 · rw[A5a g1 hk,g3]
 · rw[B3C hG hS g1 hk X,g3]
end Go.Proofs.YtenjbehedcegdaaGreat
