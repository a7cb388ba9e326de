/-
  Texts of this claim, joined (part 27). No condition beyond those of the theorems.
-/
import Derived.Test.YtenjbehedcegdaaGreatQ02
import Derived.Test.YtenjbehedcegdaaGreatRows
import Derived.Test.YtenjbehedcegdaaGreatQ03
namespace Go.Proofs.YtenjbehedcegdaaGreat
open Go.RowKit
def InR (xs:List Int):Prop:=∀x∈xs,-9223372036854775808≤x∧x≤9223372036854775807
theorem InR.getD {xs:List Int} (h:InR xs) (i:Nat):-9223372036854775808≤xs.getD i 0∧xs.getD i 0≤9223372036854775807:=by
 by_cases hi:i < xs.length
 · have e:xs.getD i 0=xs[i]:=by simp[List.getD,hi]
   rw[e];exact h _ (List.getElem_mem hi)
 · have e:xs.getD i 0=0:=by simp[List.getD,List.getElem?_eq_none (Nat.le_of_not_lt hi)]
   rw[e];omega
def Nums (k:IntKind) (w:World) (v:Value) (xs:List Int):Prop :=
 xs.length≤9223372036854775807∧∃a cap,v=.slice a xs.length cap∧(0 < xs.length→∃b off,a=some ⟨b,off,none⟩∧∀i,i < xs.length→w.cell? ⟨b,off+i,none⟩=some (.int k (xs.getD i 0)))
theorem Nums.below {k:IntKind} {w w':World} {v:Value} {xs:List Int} (h:Nums k w v xs) (hb:Below w.heap.size w w'):Nums k w' v xs:=by
 obtain⟨hl,a,cap,hv,hc⟩:=h;refine⟨hl,a,cap,hv,fun h0=>?_⟩
 obtain⟨b,off,ha,hcell⟩:=hc h0
 refine⟨b,off,ha,fun i hi=>?_⟩
 have h1:=hcell i hi
 have:=World.block_lt_of_cell? w _ h1
 exact(hb.cell (p:=⟨b,off+i,none⟩) this).trans h1
theorem Nums.nil (k:IntKind) (w:World):Nums k w (.slice none 0 0) []:=⟨by simp,none,0,rfl,fun h=>by simp at h⟩
def Own (w:World) (base:Nat) (v:Value) (xs:List Int):Prop:=w.ownsRow base 2 1 v xs.length (xs.map (Value.int .i64))
theorem Own.len {w:World} {base:Nat} {v:Value} {xs:List Int} (h:Own w base v xs):xs.length≤9223372036854775807:=by
 rcases h.2 with⟨_,h⟩|⟨g,cap,cur,_,_,_,hn,hm,_⟩
 · rw[h];omega
 · unfold maxLen at hm;omega
theorem Own.mono {w:World} {base base':Nat} {v:Value} {xs:List Int} (h:Own w base v xs) (hb:base'≤base):Own w base' v xs:=by
 refine⟨h.1,?_⟩
 rcases h.2 with h|⟨g,cap,cur,hv,hg,r⟩
 · exact .inl h
 · exact .inr ⟨g,cap,cur,hv,by omega,r⟩
theorem Own.below {w w':World} {base:Nat} {v:Value} {xs:List Int} (h:Own w base v xs) (hb:Below w.heap.size w w'):Own w' base v xs:=by
 refine⟨h.1,?_⟩
 rcases h.2 with h|⟨g,cap,cur,hv,hg,hgg,r⟩
 · exact .inl h
 · refine .inr ⟨g,cap,cur,hv,hg,?_,r⟩
   rw[hb.block g (Array.getElem?_eq_some_iff.1 hgg).1];exact hgg
theorem Own.shape {w:World} {base:Nat} {v:Value} {xs:List Int} (h:Own w base v xs) :
 (v=.slice none 0 0∧xs=[])∨∃g cap,v=.slice (some ⟨g,0,none⟩) xs.length cap∧base≤g∧g < w.heap.size:=by
 rcases h.2 with⟨rfl,h0⟩|⟨g,cap,cur,hv,hb,hg,hn,hm,hs,ht⟩
 · exact .inl ⟨rfl,List.eq_nil_of_length_eq_zero h0⟩
 · exact .inr ⟨g,cap,hv,hb,(Array.getElem?_eq_some_iff.1 hg).1⟩
section
variable {w:World} {base g n cap:Nat} {xs:List Int}
theorem Own.lenEq (h:Own w base (.slice (some ⟨g,0,none⟩) n cap) xs):n=xs.length:=by
 rcases h.2 with⟨h',_⟩|⟨g',cap',cur,h',_⟩
 · simp at h'
 · simp at h';omega
theorem Own.cell (h:Own w base (.slice (some ⟨g,0,none⟩) n cap) xs) (j:Nat) (hj:j < xs.length):w.cell? ⟨g,j,none⟩=some (.int .i64 (xs.getD j 0)):=by
 have e:=h.lenEq;subst e
 have h':=h;unfold Own at h'
 rw[h'.cellAt j (by omega)]
 simp[List.getD,hj]
theorem Own.set (h:Own w base (.slice (some ⟨g,0,none⟩) n cap) xs) (j:Nat) (u:Int) :
 Own (w.setCell ⟨g,j,none⟩ (.int .i64 u)) base (.slice (some ⟨g,0,none⟩) n cap) (xs.set j u):=by
 have e:=h.lenEq;subst e
 have:=(World.ownsRow.stored (h:w.ownsRow ..) j (.int .i64 u)).1
 unfold Own;rw[List.length_set,List.map_set];exact this
end
def C08 (m:Int) (n:Nat):List Int:=(List.range n).map fun (i:Nat)=>m+(i:Int)
@[simp] theorem seqI_length (m:Int) (n:Nat):(C08 m n).length=n:=by simp[C08]
theorem Own.kept {w w':World} {base:Nat} {v:Value} {xs:List Int} {r:Option Nat} (h:Own w base v xs) (hg:w.grownBy w' r) (hne:∀g,r=some g→g < base):Own w' base v xs:=by
 refine World.ownsRow.kept h hg ?_
 rcases h.shape with⟨rfl,_⟩|⟨g,cap,hv,h1,h2⟩
 · exact .inl rfl
 · right
   rw[hv];intro e;have:=hne g (by rw[←e];rfl)
   omega
theorem Own.keep {w w':World} {base:Nat} {v:Value} {xs:List Int} {r:Option Nat} (h:Own w base v xs) (hg:w.grownBy w' r) (hne:∀g,v.ownBlock=some g→r≠some g):Own w' base v xs:=by
 refine World.ownsRow.kept h hg ?_
 cases hv:v.ownBlock with
 | none=>exact .inl rfl
 | some g=>right;intro e;exact hne g hv e.symm
theorem Own.nil (w:World) (base:Nat):Own w base (.slice none 0 0) []:=World.ownsRow_nil _ _ _ _
def Box (w:World) (b:Nat) (vs:List Value):Prop:=b < w.heap.size∧∀i v,vs[i]?=some v→w.cell? ⟨b,i,none⟩=some v
theorem Box.at {w:World} {b:Nat} {vs:List Value} (h:Box w b vs) (i:Nat) {v:Value} (hv:vs[i]?=some v):w.cell? ⟨b,i,none⟩=some v:=h.2 i v hv
theorem Box.below {w w':World} {b:Nat} {vs:List Value} (h:Box w b vs) (hb:Below w.heap.size w w'):Box w' b vs :=
 ⟨Nat.lt_of_lt_of_le h.1 hb.size,fun i v hv=>(hb.cell (p:=⟨b,i,none⟩) h.1).trans (h.2 i v hv)⟩
theorem Box.new (w:World) (vs:List Value) (t:TypeId):Box (w.alloc (.cells vs.toArray t)) w.heap.size vs :=
 ⟨by simp,fun i v hv=>by simp[go_sem,hv]⟩
theorem Box.alloc {w:World} {b:Nat} {vs:List Value} (h:Box w b vs) (o:Obj):Box (w.alloc o) b vs:=h.below ((Below.refl _ _).alloc (Nat.le_refl _) _)
def Pairs (w:World) (v:Value) (ps:List (Int × Int)):Prop :=
 ps.length≤9223372036854775807∧∃a cap,v=.slice a ps.length cap∧(0 < ps.length→∃b off,a=some ⟨b,off,none⟩ ∧
  ∀i,i < ps.length→w.cell? ⟨b,off+i * 2,none⟩=some (.int .i64 (ps.getD i (0,0)).1)∧w.cell? ⟨b,off+i * 2+1,none⟩=some (.int .i64 (ps.getD i (0,0)).2))
theorem Pairs.below {w w':World} {v:Value} {ps:List (Int × Int)} (h:Pairs w v ps) (hb:Below w.heap.size w w'):Pairs w' v ps:=by
 obtain⟨hl,a,cap,hv,hc⟩:=h;refine⟨hl,a,cap,hv,fun h0=>?_⟩
 obtain⟨b,off,ha,hcell⟩:=hc h0
 refine⟨b,off,ha,fun i hi=>?_⟩
 obtain⟨h1,h2⟩:=hcell i hi
 have:=World.block_lt_of_cell? w _ h1
 exact⟨(hb.cell (p:=⟨b,off+i * 2,none⟩) this).trans h1,(hb.cell (p:=⟨b,off+i * 2+1,none⟩) this).trans h2⟩
theorem Pairs.nil (w:World):Pairs w (.slice none 0 0) []:=⟨by simp,none,0,rfl,fun h=>by simp at h⟩
def InRP (ps:List (Int × Int)):Prop:=∀p∈ps,(-9223372036854775808≤p.1∧p.1≤9223372036854775807)∧-9223372036854775808≤p.2∧p.2≤9223372036854775807
theorem InRP.getD {ps:List (Int × Int)} (h:InRP ps) {i:Nat} (hi:i < ps.length) :
 (-9223372036854775808≤(ps.getD i (0,0)).1∧(ps.getD i (0,0)).1≤9223372036854775807)∧-9223372036854775808≤(ps.getD i (0,0)).2∧(ps.getD i (0,0)).2≤9223372036854775807:=by
 have e:ps.getD i (0,0)=ps[i]:=by simp[List.getD,hi]
 rw[e];exact h _ (List.getElem_mem hi)
def t9 (ps:List (Int × Int)):List Value:=ps.flatMap fun p=>[.int .i64 p.1,.int .i64 p.2]
@[simp] theorem flatP_length (ps:List (Int × Int)):(t9 ps).length=ps.length * 2:=by
 induction ps with
 | nil=>rfl
 | cons p ps ih=>simp only[t9,List.flatMap_cons,List.length_append,List.length_cons,List.length_nil] at *;omega
theorem B3t (ps:List (Int × Int)) (i:Nat) (h:i < ps.length):(t9 ps)[i * 2]?=some (.int .i64 (ps.getD i (0,0)).1)∧(t9 ps)[i * 2+1]?=some (.int .i64 (ps.getD i (0,0)).2):=by
 induction ps generalizing i with
 | nil=>simp at h
 | cons p ps ih =>
   cases i with
   | zero=>simp[t9]
   | succ i =>
     have:=ih i (by simpa using h)
     have e:t9 (p::ps)=.int .i64 p.1::.int .i64 p.2::t9 ps:=by simp[t9]
     rw[e,show (i+1) * 2=i * 2+1+1 by omega]
     simpa using this
theorem B4e (ps:List (Int × Int)) (i:Nat) (p:Int × Int):((t9 ps).set (i * 2) (.int .i64 p.1)).set (i * 2+1) (.int .i64 p.2)=t9 (ps.set i p):=by
 induction ps generalizing i with
 | nil=>simp[t9]
 | cons q ps ih =>
   have e:∀(p:Int × Int) (ps:List (Int × Int)),t9 (p::ps)=.int .i64 p.1::.int .i64 p.2::t9 ps:=fun p ps=>by simp[t9]
   cases i with
   | zero=>simp[e]
   | succ i =>
     rw[show (i+1) * 2=i * 2+1+1 by omega,e]
     simp only[List.set_cons_succ,e,ih]
def OwnP (e:TypeId) (w:World) (base:Nat) (v:Value) (ps:List (Int × Int)):Prop:=w.ownsRow base e 2 v ps.length (t9 ps)
section
variable {e:TypeId} {w w':World} {base:Nat} {v:Value} {ps:List (Int × Int)}
theorem OwnP.shape (h:OwnP e w base v ps):(v=.slice none 0 0∧ps=[])∨∃g cap,v=.slice (some ⟨g,0,none⟩) ps.length cap∧base≤g∧g < w.heap.size:=by
 rcases h.2 with⟨rfl,h0⟩|⟨g,cap,cur,hv,hb,hg,hn,hm,hs,ht⟩
 · exact .inl ⟨rfl,List.eq_nil_of_length_eq_zero h0⟩
 · exact .inr ⟨g,cap,hv,hb,(Array.getElem?_eq_some_iff.1 hg).1⟩
theorem OwnP.mono {base':Nat} (h:OwnP e w base v ps) (hb:base'≤base):OwnP e w base' v ps:=by
 refine⟨h.1,?_⟩
 rcases h.2 with h|⟨g,cap,cur,hv,hg,r⟩
 · exact .inl h
 · exact .inr ⟨g,cap,cur,hv,by omega,r⟩
theorem OwnP.below (h:OwnP e w base v ps) (hb:Below w.heap.size w w'):OwnP e w' base v ps:=by
 refine⟨h.1,?_⟩
 rcases h.2 with h|⟨g,cap,cur,hv,hg,hgg,r⟩
 · exact .inl h
 · refine .inr ⟨g,cap,cur,hv,hg,?_,r⟩
   rw[hb.block g (Array.getElem?_eq_some_iff.1 hgg).1];exact hgg
theorem OwnP.keep {r:Option Nat} (h:OwnP e w base v ps) (hg:w.grownBy w' r) (hne:∀g,v.ownBlock=some g→r≠some g):OwnP e w' base v ps:=by
 refine World.ownsRow.kept h hg ?_
 cases hv:v.ownBlock with
 | none=>exact .inl rfl
 | some g=>right;intro e;exact hne g hv e.symm
theorem OwnP.nil (e:TypeId) (w:World) (base:Nat):OwnP e w base (.slice none 0 0) []:=World.ownsRow_nil _ _ _ _
variable {g n cap:Nat}
theorem OwnP.lenEq (h:OwnP e w base (.slice (some ⟨g,0,none⟩) n cap) ps):n=ps.length:=by
 rcases h.2 with⟨h',_⟩|⟨g',cap',cur,h',_⟩
 · simp at h'
 · simp at h';omega
theorem OwnP.cell (h:OwnP e w base (.slice (some ⟨g,0,none⟩) n cap) ps) (j:Nat) (hj:j < ps.length) :
 w.cell? ⟨g,j * 2,none⟩=some (.int .i64 (ps.getD j (0,0)).1)∧w.cell? ⟨g,j * 2+1,none⟩=some (.int .i64 (ps.getD j (0,0)).2):=by
 have e:=h.lenEq;subst e
 have h':=h;unfold OwnP at h'
 have:=B3t ps j hj
 exact⟨by rw[h'.cellAt (j * 2) (by omega)];exact this.1,by rw[h'.cellAt (j * 2+1) (by omega)];exact this.2⟩
theorem OwnP.set (h:OwnP e w base (.slice (some ⟨g,0,none⟩) n cap) ps) (j:Nat) (p:Int × Int) :
 OwnP e ((w.setCell ⟨g,j * 2,none⟩ (.int .i64 p.1)).setCell ⟨g,j * 2+1,none⟩ (.int .i64 p.2)) base (.slice (some ⟨g,0,none⟩) n cap) (ps.set j p):=by
 have e:=h.lenEq;subst e
 have h1:=(World.ownsRow.stored (h:w.ownsRow ..) (j * 2) (.int .i64 p.1)).1
 have h2:=(World.ownsRow.stored h1 (j * 2+1) (.int .i64 p.2)).1
 rw[B4e] at h2;unfold OwnP;rw[List.length_set];exact h2
end
theorem OwnP.len {e:TypeId} {w:World} {base:Nat} {v:Value} {ps:List (Int × Int)} (h:OwnP e w base v ps):ps.length≤9223372036854775807:=by
 rcases h.2 with⟨_,h⟩|⟨g,cap,cur,_,_,_,hn,hm,_⟩
 · rw[h];omega
 · unfold maxLen at hm;omega
set_option linter.unusedSimpArgs false
set_option linter.unusedVariables false
theorem Keeps.of_below {R:Rz} {w w':World} (h:Below w.heap.size w w'):Keeps R w R w':=⟨h.os,h.tape,h.output,h.size,fun b hb _=>⟨h.block b hb,rfl⟩⟩
theorem B3M {P:Program} {f:FuncId} {k:Con}
 (h:∀x,k.c x→∀(R:Rz) (w:World) (vs:Array Value),VRt R w (avs k.ps x) vs.toList→Calls P f vs w fun e w'=>∃v,e=.returned v∧VR R w' (S0 y5 [] k.rs (k.r x)) v∧obsOk R w' (X4 y5 [] 0 k.rs (k.r x))∧Below w.heap.size w w') :
 C8 P f k:=fun x hc R w vs _ hv=>(h x hc R w vs hv).mono fun _ _ ⟨v,he,h1,h2,hb⟩=>⟨v,R,he,h1,h2,.of_below hb⟩
theorem B4l (R:Rz) (w:World):obsOk R w []:=fun p hp=>by cases hp
theorem B6w {vs:Array Value} {l:List Value} (h:vs.toList=l):vs=l.toArray:=by subst h;simp
section
variable {R:Rz} {w:World} {l:List AV} {us:List Value}
theorem B9x (v:Value):VR R w (.c (.sc v)) v:=by simp only[VR];rfl
end
end Go.Proofs.YtenjbehedcegdaaGreat
