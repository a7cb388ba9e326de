/-
  Texts of this claim, joined (part 44). No condition beyond those of the theorems.
-/
import Derived.Test.YtenjbehedcegdaaR02
import Derived.Test.YtenjbehedcegdaaRows
namespace Go.Proofs.Ytenjbehedcegdaa
open Go.RowKit
def InR (xs:List Int):Prop:=∀x∈xs,-9223372036854775808≤x∧x≤9223372036854775807
theorem InR.getD {xs:List Int} (h:InR xs) (i:Nat):-9223372036854775808≤xs.getD i 0∧xs.getD i 0≤9223372036854775807:=by
 by_cases hi:i < xs.length
 · have e:xs.getD i 0=xs[i]:=by simp[List.getD,hi]
   rw[e];exact h _ (List.getElem_mem hi)
 · have e:xs.getD i 0=0:=by simp[List.getD,List.getElem?_eq_none (Nat.le_of_not_lt hi)]
   rw[e];omega
def Nums (k:IntKind) (w:World) (v:Value) (xs:List Int):Prop :=
 xs.length≤9223372036854775807∧∃a cap,v=.slice a xs.length cap∧(0 < xs.length→∃b off,a=some ⟨b,off,none⟩∧∀i,i < xs.length→w.cell? ⟨b,off+i,none⟩=some (.int k (xs.getD i 0)))
theorem Nums.below {k:IntKind} {w w':World} {v:Value} {xs:List Int} (h:Nums k w v xs) (hb:Below w.heap.size w w'):Nums k w' v xs:=by
 obtain⟨hl,a,cap,hv,hc⟩:=h
 refine⟨hl,a,cap,hv,fun h0=>?_⟩
 obtain⟨b,off,ha,hcell⟩:=hc h0
 refine⟨b,off,ha,fun i hi=>?_⟩
 have h1:=hcell i hi
 have:=World.block_lt_of_cell? w _ h1
 exact(hb.cell (p:=⟨b,off+i,none⟩) this).trans h1
theorem Nums.nil (k:IntKind) (w:World):Nums k w (.slice none 0 0) []:=⟨by simp,none,0,rfl,fun h=>by simp at h⟩
def Own (w:World) (base:Nat) (v:Value) (xs:List Int):Prop:=w.ownsRow base 2 1 v xs.length (xs.map (Value.int .i64))
theorem Own.len {w:World} {base:Nat} {v:Value} {xs:List Int} (h:Own w base v xs):xs.length≤9223372036854775807:=by
 rcases h.2 with⟨_,h⟩|⟨g,cap,cur,_,_,_,hn,hm,_⟩
 · rw[h];omega
 · unfold maxLen at hm;omega
theorem Own.mono {w:World} {base base':Nat} {v:Value} {xs:List Int} (h:Own w base v xs) (hb:base'≤base):Own w base' v xs:=by
 refine⟨h.1,?_⟩
 rcases h.2 with h|⟨g,cap,cur,hv,hg,r⟩
 · exact .inl h
 · exact .inr ⟨g,cap,cur,hv,by omega,r⟩
theorem Own.below {w w':World} {base:Nat} {v:Value} {xs:List Int} (h:Own w base v xs) (hb:Below w.heap.size w w'):Own w' base v xs:=by
 refine⟨h.1,?_⟩
 rcases h.2 with h|⟨g,cap,cur,hv,hg,hgg,r⟩
 · exact .inl h
 · refine .inr ⟨g,cap,cur,hv,hg,?_,r⟩
   rw[hb.block g (Array.getElem?_eq_some_iff.1 hgg).1];exact hgg
theorem Own.shape {w:World} {base:Nat} {v:Value} {xs:List Int} (h:Own w base v xs) :
 (v=.slice none 0 0∧xs=[])∨∃g cap,v=.slice (some ⟨g,0,none⟩) xs.length cap∧base≤g∧g < w.heap.size:=by
 rcases h.2 with⟨rfl,h0⟩|⟨g,cap,cur,hv,hb,hg,hn,hm,hs,ht⟩
 · exact .inl ⟨rfl,List.eq_nil_of_length_eq_zero h0⟩
 · exact .inr ⟨g,cap,hv,hb,(Array.getElem?_eq_some_iff.1 hg).1⟩
section
variable {w:World} {base g n cap:Nat} {xs:List Int}
theorem Own.lenEq (h:Own w base (.slice (some ⟨g,0,none⟩) n cap) xs):n=xs.length:=by
 rcases h.2 with⟨h',_⟩|⟨g',cap',cur,h',_⟩
 · simp at h'
 · simp at h';omega
theorem Own.cell (h:Own w base (.slice (some ⟨g,0,none⟩) n cap) xs) (j:Nat) (hj:j < xs.length):w.cell? ⟨g,j,none⟩=some (.int .i64 (xs.getD j 0)):=by
 have e:=h.lenEq;subst e
 have h':=h;unfold Own at h'
 rw[h'.cellAt j (by omega)]
 simp[List.getD,hj]
theorem Own.set (h:Own w base (.slice (some ⟨g,0,none⟩) n cap) xs) (j:Nat) (u:Int) :
 Own (w.setCell ⟨g,j,none⟩ (.int .i64 u)) base (.slice (some ⟨g,0,none⟩) n cap) (xs.set j u):=by
 have e:=h.lenEq;subst e
 have:=(World.ownsRow.stored (h:w.ownsRow ..) j (.int .i64 u)).1
 unfold Own
 rw[List.length_set,List.map_set]
 exact this
end
def seqI (m:Int) (n:Nat):List Int:=(List.range n).map fun (i:Nat)=>m+(i:Int)
@[simp] theorem seqI_length (m:Int) (n:Nat):(seqI m n).length=n:=by simp[seqI]
theorem Own.kept {w w':World} {base:Nat} {v:Value} {xs:List Int} {r:Option Nat} (h:Own w base v xs) (hg:w.grownBy w' r) (hne:∀g,r=some g→g < base):Own w' base v xs:=by
 refine World.ownsRow.kept h hg ?_
 rcases h.shape with⟨rfl,_⟩|⟨g,cap,hv,h1,h2⟩
 · exact .inl rfl
 · right
   rw[hv]
   intro e
   have:=hne g (by rw[←e];rfl)
   omega
theorem Own.keep {w w':World} {base:Nat} {v:Value} {xs:List Int} {r:Option Nat} (h:Own w base v xs) (hg:w.grownBy w' r) (hne:∀g,v.ownBlock=some g→r≠some g):Own w' base v xs:=by
 refine World.ownsRow.kept h hg ?_
 cases hv:v.ownBlock with
 | none=>exact .inl rfl
 | some g=>right;intro e;exact hne g hv e.symm
theorem Own.nil (w:World) (base:Nat):Own w base (.slice none 0 0) []:=World.ownsRow_nil _ _ _ _
def Box (w:World) (b:Nat) (vs:List Value):Prop:=b < w.heap.size∧∀i v,vs[i]?=some v→w.cell? ⟨b,i,none⟩=some v
theorem Box.at {w:World} {b:Nat} {vs:List Value} (h:Box w b vs) (i:Nat) {v:Value} (hv:vs[i]?=some v):w.cell? ⟨b,i,none⟩=some v:=h.2 i v hv
theorem Box.below {w w':World} {b:Nat} {vs:List Value} (h:Box w b vs) (hb:Below w.heap.size w w'):Box w' b vs :=
 ⟨Nat.lt_of_lt_of_le h.1 hb.size,fun i v hv=>(hb.cell (p:=⟨b,i,none⟩) h.1).trans (h.2 i v hv)⟩
theorem Box.new (w:World) (vs:List Value) (t:TypeId):Box (w.alloc (.cells vs.toArray t)) w.heap.size vs :=
 ⟨by simp,fun i v hv=>by simp[go_sem,hv]⟩
theorem Box.alloc {w:World} {b:Nat} {vs:List Value} (h:Box w b vs) (o:Obj):Box (w.alloc o) b vs:=h.below ((Below.refl _ _).alloc (Nat.le_refl _) _)
end Go.Proofs.Ytenjbehedcegdaa
