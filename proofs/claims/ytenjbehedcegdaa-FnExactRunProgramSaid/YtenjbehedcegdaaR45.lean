/-
  Texts of this claim, joined (part 45). No condition beyond those of the theorems.
-/
import Derived.Test.YtenjbehedcegdaaR44
import Derived.Test.YtenjbehedcegdaaR03
namespace Go.Proofs.Ytenjbehedcegdaa
open Go.RowKit
def Pairs (w:World) (v:Value) (ps:List (Int × Int)):Prop :=
 ps.length≤9223372036854775807∧∃a cap,v=.slice a ps.length cap∧(0 < ps.length→∃b off,a=some ⟨b,off,none⟩ ∧
  ∀i,i < ps.length→w.cell? ⟨b,off+i * 2,none⟩=some (.int .i64 (ps.getD i (0,0)).1)∧w.cell? ⟨b,off+i * 2+1,none⟩=some (.int .i64 (ps.getD i (0,0)).2))
theorem Pairs.below {w w':World} {v:Value} {ps:List (Int × Int)} (h:Pairs w v ps) (hb:Below w.heap.size w w'):Pairs w' v ps:=by
 obtain⟨hl,a,cap,hv,hc⟩:=h
 refine⟨hl,a,cap,hv,fun h0=>?_⟩
 obtain⟨b,off,ha,hcell⟩:=hc h0
 refine⟨b,off,ha,fun i hi=>?_⟩
 obtain⟨h1,h2⟩:=hcell i hi
 have:=World.block_lt_of_cell? w _ h1
 exact⟨(hb.cell (p:=⟨b,off+i * 2,none⟩) this).trans h1,(hb.cell (p:=⟨b,off+i * 2+1,none⟩) this).trans h2⟩
theorem Pairs.nil (w:World):Pairs w (.slice none 0 0) []:=⟨by simp,none,0,rfl,fun h=>by simp at h⟩
def InRP (ps:List (Int × Int)):Prop:=∀p∈ps,(-9223372036854775808≤p.1∧p.1≤9223372036854775807)∧-9223372036854775808≤p.2∧p.2≤9223372036854775807
theorem InRP.getD {ps:List (Int × Int)} (h:InRP ps) {i:Nat} (hi:i < ps.length) :
 (-9223372036854775808≤(ps.getD i (0,0)).1∧(ps.getD i (0,0)).1≤9223372036854775807)∧-9223372036854775808≤(ps.getD i (0,0)).2∧(ps.getD i (0,0)).2≤9223372036854775807:=by
 have e:ps.getD i (0,0)=ps[i]:=by simp[List.getD,hi]
 rw[e];exact h _ (List.getElem_mem hi)
def flatP (ps:List (Int × Int)):List Value:=ps.flatMap fun p=>[.int .i64 p.1,.int .i64 p.2]
@[simp] theorem flatP_length (ps:List (Int × Int)):(flatP ps).length=ps.length * 2:=by
 induction ps with
 | nil=>rfl
 | cons p ps ih=>simp only[flatP,List.flatMap_cons,List.length_append,List.length_cons,List.length_nil] at *;omega
theorem flatP_get (ps:List (Int × Int)) (i:Nat) (h:i < ps.length):(flatP ps)[i * 2]?=some (.int .i64 (ps.getD i (0,0)).1)∧(flatP ps)[i * 2+1]?=some (.int .i64 (ps.getD i (0,0)).2):=by
 induction ps generalizing i with
 | nil=>simp at h
 | cons p ps ih =>
   cases i with
   | zero=>simp[flatP]
   | succ i =>
     have:=ih i (by simpa using h)
     have e:flatP (p::ps)=.int .i64 p.1::.int .i64 p.2::flatP ps:=by simp[flatP]
     rw[e,show (i+1) * 2=i * 2+1+1 by omega]
     simpa using this
theorem flatP_set (ps:List (Int × Int)) (i:Nat) (p:Int × Int):((flatP ps).set (i * 2) (.int .i64 p.1)).set (i * 2+1) (.int .i64 p.2)=flatP (ps.set i p):=by
 induction ps generalizing i with
 | nil=>simp[flatP]
 | cons q ps ih =>
   have e:∀(p:Int × Int) (ps:List (Int × Int)),flatP (p::ps)=.int .i64 p.1::.int .i64 p.2::flatP ps:=fun p ps=>by simp[flatP]
   cases i with
   | zero=>simp[e]
   | succ i =>
     rw[show (i+1) * 2=i * 2+1+1 by omega,e]
     simp only[List.set_cons_succ,e,ih]
def OwnP (e:TypeId) (w:World) (base:Nat) (v:Value) (ps:List (Int × Int)):Prop:=w.ownsRow base e 2 v ps.length (flatP ps)
section
variable {e:TypeId} {w w':World} {base:Nat} {v:Value} {ps:List (Int × Int)}
theorem OwnP.shape (h:OwnP e w base v ps):(v=.slice none 0 0∧ps=[])∨∃g cap,v=.slice (some ⟨g,0,none⟩) ps.length cap∧base≤g∧g < w.heap.size:=by
 rcases h.2 with⟨rfl,h0⟩|⟨g,cap,cur,hv,hb,hg,hn,hm,hs,ht⟩
 · exact .inl ⟨rfl,List.eq_nil_of_length_eq_zero h0⟩
 · exact .inr ⟨g,cap,hv,hb,(Array.getElem?_eq_some_iff.1 hg).1⟩
theorem OwnP.mono {base':Nat} (h:OwnP e w base v ps) (hb:base'≤base):OwnP e w base' v ps:=by
 refine⟨h.1,?_⟩
 rcases h.2 with h|⟨g,cap,cur,hv,hg,r⟩
 · exact .inl h
 · exact .inr ⟨g,cap,cur,hv,by omega,r⟩
theorem OwnP.below (h:OwnP e w base v ps) (hb:Below w.heap.size w w'):OwnP e w' base v ps:=by
 refine⟨h.1,?_⟩
 rcases h.2 with h|⟨g,cap,cur,hv,hg,hgg,r⟩
 · exact .inl h
 · refine .inr ⟨g,cap,cur,hv,hg,?_,r⟩
   rw[hb.block g (Array.getElem?_eq_some_iff.1 hgg).1];exact hgg
theorem OwnP.keep {r:Option Nat} (h:OwnP e w base v ps) (hg:w.grownBy w' r) (hne:∀g,v.ownBlock=some g→r≠some g):OwnP e w' base v ps:=by
 refine World.ownsRow.kept h hg ?_
 cases hv:v.ownBlock with
 | none=>exact .inl rfl
 | some g=>right;intro e;exact hne g hv e.symm
theorem OwnP.nil (e:TypeId) (w:World) (base:Nat):OwnP e w base (.slice none 0 0) []:=World.ownsRow_nil _ _ _ _
variable {g n cap:Nat}
theorem OwnP.lenEq (h:OwnP e w base (.slice (some ⟨g,0,none⟩) n cap) ps):n=ps.length:=by
 rcases h.2 with⟨h',_⟩|⟨g',cap',cur,h',_⟩
 · simp at h'
 · simp at h';omega
theorem OwnP.cell (h:OwnP e w base (.slice (some ⟨g,0,none⟩) n cap) ps) (j:Nat) (hj:j < ps.length) :
 w.cell? ⟨g,j * 2,none⟩=some (.int .i64 (ps.getD j (0,0)).1)∧w.cell? ⟨g,j * 2+1,none⟩=some (.int .i64 (ps.getD j (0,0)).2):=by
 have e:=h.lenEq;subst e
 have h':=h;unfold OwnP at h'
 have:=flatP_get ps j hj
 exact⟨by rw[h'.cellAt (j * 2) (by omega)];exact this.1,by rw[h'.cellAt (j * 2+1) (by omega)];exact this.2⟩
theorem OwnP.set (h:OwnP e w base (.slice (some ⟨g,0,none⟩) n cap) ps) (j:Nat) (p:Int × Int) :
 OwnP e ((w.setCell ⟨g,j * 2,none⟩ (.int .i64 p.1)).setCell ⟨g,j * 2+1,none⟩ (.int .i64 p.2)) base (.slice (some ⟨g,0,none⟩) n cap) (ps.set j p):=by
 have e:=h.lenEq;subst e
 have h1:=(World.ownsRow.stored (h:w.ownsRow ..) (j * 2) (.int .i64 p.1)).1
 have h2:=(World.ownsRow.stored h1 (j * 2+1) (.int .i64 p.2)).1
 rw[flatP_set] at h2
 unfold OwnP
 rw[List.length_set]
 exact h2
end
theorem OwnP.len {e:TypeId} {w:World} {base:Nat} {v:Value} {ps:List (Int × Int)} (h:OwnP e w base v ps):ps.length≤9223372036854775807:=by
 rcases h.2 with⟨_,h⟩|⟨g,cap,cur,_,_,_,hn,hm,_⟩
 · rw[h];omega
 · unfold maxLen at hm;omega
set_option linter.unusedSimpArgs false
set_option linter.unusedVariables false
theorem Keeps.of_below {R:Rz} {w w':World} (h:Below w.heap.size w w'):Keeps R w R w':=⟨h.os,h.tape,h.output,h.size,fun b hb _=>⟨h.block b hb,rfl⟩⟩
theorem pure_lift {P:Program} {f:FuncId} {k:Con}
 (h:∀x,k.c x→∀(R:Rz) (w:World) (vs:Array Value),VRt R w (avs k.ps x) vs.toList→Calls P f vs w fun e w'=>∃v,e=.returned v∧VR R w' (outAll inN [] k.rs (k.r x)) v∧obsOk R w' (outOs inN [] 0 k.rs (k.r x))∧Below w.heap.size w w') :
 PureT P f k:=fun x hc R w vs _ hv=>(h x hc R w vs hv).mono fun _ _ ⟨v,he,h1,h2,hb⟩=>⟨v,R,he,h1,h2,.of_below hb⟩
theorem obsOk_nil (R:Rz) (w:World):obsOk R w []:=fun p hp=>by cases hp
theorem arr_of {vs:Array Value} {l:List Value} (h:vs.toList=l):vs=l.toArray:=by subst h;simp
section
variable {R:Rz} {w:World} {l:List AV} {us:List Value}
theorem vr_sc (v:Value):VR R w (.c (.sc v)) v:=by simp only[VR];rfl
end
end Go.Proofs.Ytenjbehedcegdaa
