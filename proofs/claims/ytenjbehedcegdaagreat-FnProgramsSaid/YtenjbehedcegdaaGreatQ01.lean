/-
  Texts of this claim, joined (part 1). No condition beyond those of the theorems.
-/
import Derived.Laws.OwnMore
import Derived.Below
import Derived.BigQuiet
import Derived.Deep.MidRow
import Derived.WalkSpells
import Derived.WalkLawsBesides
import Derived.Laws.StructEq
import Derived.Laws.Tables
import Derived.Great.BuildSlice
import Derived.Laws.MakeOwn
import Derived.Maps.Own
import Derived.Laws.BytesString
set_option linter.unusedSimpArgs false
set_option linter.unusedVariables false
namespace Go.Proofs.YtenjbehedcegdaaGreat
open Go.RowKit
inductive Ty where
 | int (k:IntKind)
 | bool
 | str
 | row (e:TypeId) (t:Ty)
 | prod (a b:Ty)
deriving DecidableEq
namespace Ty
@[reducible] def den:Ty→Type
 | .int _=>Int
 | .bool=>Bool
 | .str=>ByteArray
 | .row _ t=>List t.den
 | .prod a b=>a.den × b.den
def w:Ty→Nat
 | .prod a b=>a.w+b.w
 | _=>1
def dflt:(t:Ty)→t.den
 | .int _=>(0:Int)
 | .bool=>false
 | .str=>ByteArray.empty
 | .row _ _=>[]
 | .prod a b=>(a.dflt,b.dflt)
end Ty
theorem Ty.w_pos (t:Ty):0 < t.w:=by
 induction t with
 | prod a b ha hb=>simp only[Ty.w];omega
 | _=>simp[Ty.w]
def Rd (S:Nat→Prop) (w:World):(t:Ty)→List Value→t.den→Prop
 | .int k,us,x=>us=[.int k x]
 | .bool,us,x=>us=[.bool x]
 | .str,us,x=>us=[.string x]
 | .prod a b,us,x=>∃u1 u2,us=u1++u2∧Rd S w a u1 x.1∧Rd S w b u2 x.2
 | .row _ t,us,xs=>∃a cap,us=[.slice a xs.length cap]∧xs.length≤cap∧cap≤maxLen ∧
  (0 < xs.length→∃b o,a=some ⟨b,o,none⟩∧S b∧∀i (h:i < xs.length),∃vs:List Value,vs.length=t.w∧(∀j,j < t.w→w.cell? ⟨b,o+i * t.w+j,none⟩=vs[j]?)∧Rd S w t vs xs[i])
theorem Rd.len {S:Nat→Prop} {w:World} {t:Ty} {us:List Value} {x:t.den} (h:Rd S w t us x):us.length=t.w:=by
 induction t generalizing us with
 | int k=>simp only[Rd] at h;subst h;rfl
 | bool=>simp only[Rd] at h;subst h;rfl
 | str=>simp only[Rd] at h;subst h;rfl
 | row e t ih=>obtain⟨a,cap,rfl,_⟩:=h;rfl
 | prod a b ha hb =>
   obtain⟨u1,u2,rfl,h1,h2⟩:=h;simp[Ty.w,ha h1,hb h2]
theorem Rd.frame {S S':Nat→Prop} {w w':World} {t:Ty} {us:List Value} {x:t.den} (h:Rd S w t us x)
 (hS:∀b,b < w.heap.size→S b→S' b∧w'.heap[b]?=w.heap[b]?):Rd S' w' t us x:=by
 induction t generalizing us with
 | int k=>exact h
 | bool=>exact h
 | str=>exact h
 | prod a b ha hb =>
   obtain⟨u1,u2,rfl,h1,h2⟩:=h;exact⟨u1,u2,rfl,ha h1,hb h2⟩
 | row e t ih =>
   obtain⟨a,cap,rfl,hl,hl2,h⟩:=h;refine⟨a,cap,rfl,hl,hl2,fun h0=>?_⟩
   obtain⟨b,o,rfl,hb,hc⟩:=h h0
   have hlt:b < w.heap.size:=by
    obtain⟨vs,hvl,hv,_⟩:=hc 0 h0
    have h1:=hv 0 t.w_pos
    have h2:vs[0]?=some (vs[0]'(by have:=t.w_pos;omega)):=List.getElem?_eq_getElem _
    rw[h2] at h1;exact World.block_lt_of_cell? w _ h1
   obtain⟨hb',hbl⟩:=hS b hlt hb
   refine⟨b,o,rfl,hb',fun i hi=>?_⟩
   obtain⟨vs,hvl,hv,hr⟩:=hc i hi
   exact⟨vs,hvl,fun j hj=>(World.cell?_of_block (w:=w) (a:=⟨b,o+i * t.w+j,none⟩) hbl).trans (hv j hj),ih hr⟩
open Go.RowKit
inductive CV where
 | sc (v:Value)
 | rd (S:List Nat) (e:TypeId) (t:Ty) (xs:List t.den)
 | pt (S:List Nat) (t:Ty) (x:t.den) (o:Nat)
 | ow (n:Nat)
 | po (n o:Nat)
 | pe (n:Nat) (i wd o:Nat)
 | sub (n i wd o:Nat) (e:TypeId) (t:Ty) (xs:List t.den)
 | pi (n i wd o j:Nat) (t:Ty) (x:t.den) (k:Nat)
 | fn (f:FuncId) (l:List Nat)
 | bot
inductive AV where
 | c (x:CV)
 | agg (l:List CV)
 | tup (l:List AV)
inductive Ob where
 | box (l:List CV)
 | row (e:TypeId) (t:Ty) (xs:List t.den) (S:List Nat)
 | tree (e:TypeId) (t:Ty) (xs:List t.den) (h:Option (Nat × Nat))
 | map (t:Ty) (xs:List t.den) (S:List Nat)
def Ty.flat:Ty→Bool
 | .row _ _=>false
 | .prod a b=>a.flat && b.flat
 | _=>true
def j5:Option (Nat × Nat)→Nat→Prop
 | none,_=>False
 | some p,i=>p.1≤i∧i < p.2
structure Rz where
 root:Nat→Nat
 hd:Nat→Value
 bk:Nat→Nat
def okS (R:Rz) (S:List Nat) (b:Nat):Prop:=R.root b=0∨R.root b∈S
def RowO (R:Rz) (w:World) (n:Nat) (e:TypeId) (t:Ty) (u:Value) (ys:List t.den):Prop :=
 (u=.slice none 0 0∧ys=[])∨∃b cap cur,u=.slice (some ⟨b,0,none⟩) ys.length cap∧R.root b=n∧w.heap[b]?=some (.cells cur e (0,0))∧ys.length≤cap∧cap≤maxLen∧cur.size=cap * t.w ∧
  ∀i (h:i < ys.length),Rd (okS R []) w t ((cur.toList.drop (i * t.w)).take t.w) ys[i]
def VRc (R:Rz) (w:World):CV→Value→Prop
 | .sc v,u=>u=v
 | .rd S e t xs,u=>Rd (okS R S) w (.row e t) [u] xs
 | .pt S t x k,u=>∃b o us,u=.pointer (some ⟨b,o+k,none⟩)∧okS R S b∧us.length=t.w∧(∀j,j < t.w→w.cell? ⟨b,o+j,none⟩=us[j]?)∧Rd (okS R S) w t us x
 | .ow n,u=>u=R.hd n
 | .po n o,u=>u=.pointer (some ⟨R.bk n,o,none⟩)
 | .pe n i wd o,u=>u=.pointer (some ⟨R.bk n,i * wd+o,none⟩)
 | .sub n i wd o e t xs,u=>w.cell? ⟨R.bk n,i * wd+o,none⟩=some u∧R.root (R.bk n)=n∧RowO R w n e t u xs
 | .pi n i wd o j t x k,u=>∃b l cap us,w.cell? ⟨R.bk n,i * wd+o,none⟩=some (.slice (some ⟨b,0,none⟩) l cap)∧R.root (R.bk n)=n∧R.root b=n∧u=.pointer (some ⟨b,j * t.w+k,none⟩) ∧
  us.length=t.w∧(∀q,q < t.w→w.cell? ⟨b,j * t.w+q,none⟩=us[q]?)∧Rd (okS R [n]) w t us x
 | .fn f l,u=>u=.func (.func f) #[] (l.map fun n=>Value.pointer (some ⟨R.bk n,0,none⟩)).toArray
 | .bot,_=>True
def VRs (R:Rz) (w:World):List CV→List Value→Prop
 | [],us=>us=[]
 | c::l,us=>∃u us',us=u::us'∧VRc R w c u∧VRs R w l us'
mutual
def VR (R:Rz) (w:World):AV→Value→Prop
 | .c x,u=>VRc R w x u
 | .agg l,u=>∃us,u=.agg us∧VRs R w l us.toList
 | .tup l,u=>∃us,u=.tuple us∧VRt R w l us.toList
def VRt (R:Rz) (w:World):List AV→List Value→Prop
 | [],us=>us=[]
 | x::l,us=>∃u us',us=u::us'∧VR R w x u∧VRt R w l us'
end
def ElO (R:Rz) (w:World) (n:Nat):(t:Ty)→List Value→t.den→Prop
 | .int k,us,x=>us=[.int k x]
 | .bool,us,x=>us=[.bool x]
 | .str,us,x=>us=[.string x]
 | .prod a b,us,x=>∃u1 u2,us=u1++u2∧ElO R w n a u1 x.1∧ElO R w n b u2 x.2
 | .row e t,us,ys=>t.flat=true∧∃u,us=[u]∧RowO R w n e t u ys
def C00 (cur:List Value) (len wd:Nat) (h:Option (Nat × Nat)) (b0:Nat):Prop :=
 ∀ c b l k, c < len * wd → ¬ j5 h (c / wd) → cur[c]? = some (.slice (some ⟨b, 0, none⟩) l k) → b ≠ b0 ∧
   ∀c' l' k',c' < len * wd→¬j5 h (c' / wd)→cur[c']?=some (.slice (some ⟨b,0,none⟩) l' k')→c'=c
def B0F (e:MapEntry):Option Int:=match e.key with
 | .int .i64 k=>some k
 | _=>none
def U6 (k:Int):List MapEntry→Option Value
 | []=>none
 | e::l=>if B0F e=some k then some e.val else U6 k l
def MapV (R:Rz) (w:World) (S:List Nat) (t:Ty) (x:t.den):Option Value→Prop
 | some v=>Rd (okS R S) w t [v] x
 | none=>x=t.dflt
def OR (R:Rz) (w:World) (n:Nat):Ob→Prop
 | .box l=>∃us T,w.heap[R.bk n]?=some (.cells us T (0,0))∧R.root (R.bk n)=n∧VRs R w l us.toList
 | .row e t xs S=>(R.hd n=.slice none 0 0∧xs=[]) ∨
  ∃ cap cur, R.hd n = .slice (some ⟨R.bk n, 0, none⟩) xs.length cap ∧ R.root (R.bk n) = n ∧ w.heap[R.bk n]? = some (.cells cur e (0, 0)) ∧ xs.length ≤ cap ∧ cap ≤ maxLen ∧ cur.size = cap * t.w ∧
    ∀i (h:i < xs.length),Rd (okS R S) w t ((cur.toList.drop (i * t.w)).take t.w) xs[i]
 | .tree e t xs h=>(R.hd n=.slice none 0 0∧xs=[]) ∨
  ∃ cap cur, R.hd n = .slice (some ⟨R.bk n, 0, none⟩) xs.length cap ∧ R.root (R.bk n) = n ∧ w.heap[R.bk n]? = some (.cells cur e (0, 0)) ∧ xs.length ≤ cap ∧ cap ≤ maxLen ∧ cur.size = cap * t.w ∧
    (∀i (hi:i < xs.length),¬j5 h i→ElO R w n t ((cur.toList.drop (i * t.w)).take t.w) xs[i])∧C00 cur.toList xs.length t.w h (R.bk n)
 | .map t xs S=>∃es ck,R.hd n=.map (some (R.bk n))∧R.root (R.bk n)=n∧w.heap[R.bk n]?=some (.map es ck)∧(∀e∈es.toList,∃k,e.key=.int .i64 k) ∧
  ∀i (h:i < xs.length),MapV R w S t xs[i] (U6 (i:Int) es.toList)
def CV.srcs:CV→List Nat
 | .rd S _ _ _ | .pt S _ _ _=>S
 | .sub n _ _ _ _ _ _ | .pi n _ _ _ _ _ _ _=>[n]
 | _=>[]
def CV.ids:CV→List Nat
 | .ow n | .po n _ | .pe n _ _ _ | .sub n _ _ _ _ _ _ | .pi n _ _ _ _ _ _ _=>[n]
 | .fn _ l=>l
 | _=>[]
def CV.hit (N M:List Nat) (c:CV):Bool:=c.srcs.any (fun n=>N.contains n) || c.ids.any (fun n=>M.contains n)
def CV.kill (N M:List Nat) (c:CV):CV:=if c.hit N M then .bot else c
mutual
def AV.kill (N M:List Nat):AV→AV
 | .c x=>.c (x.kill N M)
 | .agg l=>.agg (l.map (CV.kill N M))
 | .tup l=>.tup (AV.killL N M l)
def AV.killL (N M:List Nat):List AV→List AV
 | []=>[]
 | x::l=>x.kill N M::AV.killL N M l
end
def Ob.kill (N M:List Nat):Ob→Option Ob
 | .box l=>some (.box (l.map (CV.kill N M)))
 | .row e t xs S=>if S.any (fun n=>N.contains n) then none else some (.row e t xs S)
 | .tree e t xs h=>some (.tree e t xs h)
 | .map t xs S=>if S.any (fun n=>N.contains n) then none else some (.map t xs S)
structure FR (N M:List Nat) (R:Rz) (w:World) (R':Rz) (w':World):Prop where
 os:w'.os=w.os
 tape:w'.tape=w.tape
 output:w'.output=w.output
 size:w.heap.size≤w'.heap.size
 keep:∀b,b < w.heap.size→R.root b ∉ N→w'.heap[b]?=w.heap[b]?∧R'.root b=R.root b
 hd:∀n,n ∉ M→R'.hd n=R.hd n∧R'.bk n=R.bk n
 lo:∀n,n < 100→R'.hd n=R.hd n∧R'.bk n=R.bk n
theorem FR.refl (N M:List Nat) (R:Rz) (w:World):FR N M R w R w:=⟨rfl,rfl,rfl,Nat.le_refl _,fun _ _ _=>⟨rfl,rfl⟩,fun _ _=>⟨rfl,rfl⟩,fun _ _=>⟨rfl,rfl⟩⟩
theorem FR.mono {N N' M M':List Nat} {R R':Rz} {w w':World} (h:FR N M R w R' w') (hN:∀n∈N,n∈N') (hM:∀n∈M,n∈M'):FR N' M' R w R' w' :=
 ⟨h.os,h.tape,h.output,h.size,fun b hb hr=>h.keep b hb (fun hn=>hr (hN _ hn)),fun n hn=>h.hd n (fun h'=>hn (hM _ h')),h.lo⟩
theorem FR.trans {N M:List Nat} {R R1 R2:Rz} {w w1 w2:World} (h:FR N M R w R1 w1) (k:FR N M R1 w1 R2 w2):FR N M R w R2 w2 :=
 ⟨k.os.trans h.os,k.tape.trans h.tape,k.output.trans h.output,Nat.le_trans h.size k.size,fun b hb hr=>by
  obtain⟨h1,h2⟩:=h.keep b hb hr
  obtain⟨k1,k2⟩:=k.keep b (Nat.lt_of_lt_of_le hb h.size) (by rw[h2];exact hr)
  exact⟨k1.trans h1,k2.trans h2⟩,fun n hn=>⟨(k.hd n hn).1.trans (h.hd n hn).1,(k.hd n hn).2.trans (h.hd n hn).2⟩,fun n hn=>⟨(k.lo n hn).1.trans (h.lo n hn).1,(k.lo n hn).2.trans (h.lo n hn).2⟩⟩
section
variable {N M:List Nat} {R R':Rz} {w w':World}
theorem okS.frame {S:List Nat} (h:FR N M R w R' w') (h0:0 ∉ N) (hS:∀n∈S,n ∉ N) {b:Nat} (hb:b < w.heap.size) (ho:okS R S b):okS R' S b∧w'.heap[b]?=w.heap[b]?:=by
 have hr:R.root b ∉ N:=by
  rcases ho with ho|ho
  · rw[ho];exact h0
  · exact hS _ ho
 obtain⟨h1,h2⟩:=h.keep b hb hr
 exact⟨by unfold okS;rw[h2];exact ho,h1⟩
theorem Rd.fr {S:List Nat} {t:Ty} {us:List Value} {x:t.den} (h:Rd (okS R S) w t us x) (hf:FR N M R w R' w') (h0:0 ∉ N) (hS:∀n∈S,n ∉ N):Rd (okS R' S) w' t us x :=
 h.frame fun _ hb ho=>okS.frame hf h0 hS hb ho
theorem W4 {S N:List Nat} (h:S.any (fun n=>N.contains n)=false):∀n∈S,n ∉ N:=by
 intro n hn hN
 have:=List.any_eq_false.1 h n hn
 simp[hN] at this
theorem RowO.fr {n:Nat} {e:TypeId} {t:Ty} {u:Value} {ys:List t.den} (h:RowO R w n e t u ys) (hf:FR N M R w R' w') (h0:0 ∉ N) (hn:n ∉ N):RowO R' w' n e t u ys:=by
 rcases h with h|⟨b,cap,cur,h1,h2,h3,h4,h5,h6,h7⟩
 · exact .inl h
 · have hlt:=(Array.getElem?_eq_some_iff.1 h3).1
   obtain⟨k1,k2⟩:=hf.keep _ hlt (by rw[h2];exact hn)
   exact .inr ⟨b,cap,cur,h1,by rw[k2];exact h2,by rw[k1];exact h3,h4,h5,h6,fun i hi=>(h7 i hi).fr hf h0 (by simp)⟩
theorem VRc.fr {c:CV} {u:Value} (h:VRc R w c u) (hf:FR N M R w R' w') (h0:0 ∉ N) (hh:c.hit N M=false):VRc R' w' c u:=by
 simp only[CV.hit,Bool.or_eq_false_iff] at hh
 obtain⟨hS,hI⟩:=hh;have hS:=W4 hS
 have hI:=W4 hI
 cases c with
 | sc v=>exact h
 | rd S e t xs=>exact Rd.fr h hf h0 hS
 | pt S t x k =>
   obtain⟨b,o,us,rfl,hb,hl,hc,hr⟩:=h
   have hlt:b < w.heap.size:=by
    have h1:=hc 0 t.w_pos
    have h2:us[0]?=some (us[0]'(by have:=t.w_pos;omega)):=List.getElem?_eq_getElem _
    rw[h2] at h1;exact World.block_lt_of_cell? w _ h1
   obtain⟨h1,h2⟩:=okS.frame hf h0 hS hlt hb
   exact⟨b,o,us,rfl,h1,hl,fun j hj=>(World.cell?_of_block (w:=w) (a:=⟨b,o+j,none⟩) h2).trans (hc j hj),hr.fr hf h0 hS⟩
 | ow n=>exact h.trans (hf.hd n (hI n (by simp[CV.ids]))).1.symm
 | po n o=>exact h.trans (by rw[(hf.hd n (hI n (by simp[CV.ids]))).2])
 | pe n i wd o=>exact h.trans (by rw[(hf.hd n (hI n (by simp[CV.ids]))).2])
 | sub n i wd o e t xs =>
   obtain⟨h1,h2,h3⟩:=h;obtain⟨k1,k2⟩:=hf.keep _ (World.block_lt_of_cell? w _ h1) (by rw[h2];exact hS n (by simp[CV.srcs]))
   have e1:=(hf.hd n (hI n (by simp[CV.ids]))).2
   exact⟨by rw[e1];exact(World.cell?_of_block (w:=w) (a:=⟨R.bk n,i * wd+o,none⟩) k1).trans h1,by rw[e1,k2];exact h2,h3.fr hf h0 (hS n (by simp[CV.srcs]))⟩
 | pi n i wd o j t x k =>
   obtain⟨b,l,cap,us,h1,h2,h3,h4,h5,h6,h7⟩:=h;have hnN:=hS n (by simp[CV.srcs])
   obtain⟨k1,k2⟩:=hf.keep _ (World.block_lt_of_cell? w _ h1) (by rw[h2];exact hnN)
   have e1:=(hf.hd n (hI n (by simp[CV.ids]))).2
   have hlt:b < w.heap.size:=by
    have q1:=h6 0 t.w_pos
    have q2:us[0]?=some (us[0]'(by have:=t.w_pos;omega)):=List.getElem?_eq_getElem _
    rw[q2] at q1;exact World.block_lt_of_cell? w _ q1
   obtain⟨k3,k4⟩:=hf.keep _ hlt (by rw[h3];exact hnN)
   exact⟨b,l,cap,us,by rw[e1];exact(World.cell?_of_block (w:=w) (a:=⟨R.bk n,i * wd+o,none⟩) k1).trans h1,by rw[e1,k2];exact h2,by rw[k4];exact h3,h4,h5,
    fun q hq=>(World.cell?_of_block (w:=w) (a:=⟨b,j * t.w+q,none⟩) k3).trans (h6 q hq),h7.fr hf h0 hS⟩
 | fn f l =>
   refine h.trans ?_
   congr 2
   exact List.map_congr_left fun n hn=>by rw[(hf.hd n (hI n (by simpa [CV.ids] using hn))).2]
 | bot=>trivial
theorem VRc.kill {c:CV} {u:Value} (h:VRc R w c u) (hf:FR N M R w R' w') (h0:0 ∉ N):VRc R' w' (c.kill N M) u:=by
 unfold CV.kill
 split
 · trivial
 · rename_i hh
   exact h.fr hf h0 (by simpa using hh)
theorem VRs.kill {l:List CV} {us:List Value} (h:VRs R w l us) (hf:FR N M R w R' w') (h0:0 ∉ N):VRs R' w' (l.map (CV.kill N M)) us:=by
 induction l generalizing us with
 | nil=>exact h
 | cons c l ih =>
   obtain⟨u,us',rfl,h1,h2⟩:=h;exact⟨u,us',rfl,h1.kill hf h0,ih h2⟩
mutual
theorem VR.kill {x:AV} {u:Value} (h:VR R w x u) (hf:FR N M R w R' w') (h0:0 ∉ N):VR R' w' (x.kill N M) u:=by
 match x with
 | .c x=>simp only[VR,AV.kill] at h ⊢;exact VRc.kill h hf h0
 | .agg l =>
   simp only[VR,AV.kill] at h ⊢
   obtain⟨us,rfl,h1⟩:=h;exact⟨us,rfl,h1.kill hf h0⟩
 | .tup l =>
   simp only[VR,AV.kill] at h ⊢
   obtain⟨us,rfl,h1⟩:=h;exact⟨us,rfl,VRt.kill h1 hf h0⟩
theorem VRt.kill {l:List AV} {us:List Value} (h:VRt R w l us) (hf:FR N M R w R' w') (h0:0 ∉ N):VRt R' w' (AV.killL N M l) us:=by
 match l with
 | []=>simpa only [VRt,AV.killL] using h
 | x :: l =>
   simp only[VRt,AV.killL] at h ⊢
   obtain⟨u,us',rfl,h1,h2⟩:=h;exact⟨u,us',rfl,VR.kill h1 hf h0,VRt.kill h2 hf h0⟩
end
theorem ElO.fr {n:Nat} {t:Ty} {us:List Value} {x:t.den} (h:ElO R w n t us x) (hf:FR N M R w R' w') (h0:0 ∉ N) (hn:n ∉ N):ElO R' w' n t us x:=by
 induction t generalizing us with
 | int k=>exact h
 | bool=>exact h
 | str=>exact h
 | prod a b ha hb =>
   obtain⟨u1,u2,rfl,h1,h2⟩:=h;exact⟨u1,u2,rfl,ha h1,hb h2⟩
 | row e t ih =>
   obtain⟨h1,u,rfl,h2⟩:=h;exact⟨h1,u,rfl,h2.fr hf h0 hn⟩
theorem MapV.fr {S:List Nat} {t:Ty} {x:t.den} {v:Option Value} (h:MapV R w S t x v) (hf:FR N M R w R' w') (h0:0 ∉ N) (hS:∀n∈S,n ∉ N):MapV R' w' S t x v:=by
 cases v with
 | none=>exact h
 | some v=>exact Rd.fr h hf h0 hS
theorem OR.kill {n:Nat} {o o':Ob} (h:OR R w n o) (hf:FR N M R w R' w') (h0:0 ∉ N) (hn:n ∉ N) (hm:n ∉ M) (ho:o.kill N M=some o'):OR R' w' n o':=by
 obtain⟨e1,e2⟩:=hf.hd n hm
 cases o with
 | box l =>
   simp only[Ob.kill,Option.some.injEq] at ho
   subst ho;obtain⟨us,T,h1,h2,h3⟩:=h;have hlt:=(Array.getElem?_eq_some_iff.1 h1).1
   obtain⟨k1,k2⟩:=hf.keep _ hlt (by rw[h2];exact hn)
   exact⟨us,T,by rw[e2,k1];exact h1,by rw[e2,k2];exact h2,h3.kill hf h0⟩
 | row e t xs S =>
   simp only[Ob.kill] at ho
   split at ho
   · cases ho
   rename_i hS
   have hS:=W4 (by simpa using hS)
   cases ho
   rcases h with⟨h1,h2⟩|⟨cap,cur,h1,h2,h3,h4,h5,h6,h7⟩
   · exact .inl ⟨by rw[e1];exact h1,h2⟩
   · have hlt:=(Array.getElem?_eq_some_iff.1 h3).1
     obtain⟨k1,k2⟩:=hf.keep _ hlt (by rw[h2];exact hn)
     exact .inr ⟨cap,cur,by rw[e1,e2];exact h1,by rw[e2,k2];exact h2,by rw[e2,k1];exact h3,h4,h5,h6,fun i hi=>(h7 i hi).fr hf h0 hS⟩
 | tree e t xs h' =>
   simp only[Ob.kill,Option.some.injEq] at ho
   subst ho;rcases h with⟨h1,h2⟩|⟨cap,cur,h1,h2,h3,h4,h5,h6,h7,h8⟩
   · exact .inl ⟨by rw[e1];exact h1,h2⟩
   · have hlt:=(Array.getElem?_eq_some_iff.1 h3).1
     obtain⟨k1,k2⟩:=hf.keep _ hlt (by rw[h2];exact hn)
     exact .inr ⟨cap,cur,by rw[e1,e2];exact h1,by rw[e2,k2];exact h2,by rw[e2,k1];exact h3,h4,h5,h6,fun i hi hh=>(h7 i hi hh).fr hf h0 hn,by rw[e2];exact h8⟩
 | map t xs S =>
   simp only[Ob.kill] at ho
   split at ho
   · cases ho
   rename_i hS
   have hS:=W4 (by simpa using hS)
   cases ho
   obtain⟨es,ck,h1,h2,h3,h4,h5⟩:=h;have hlt:=(Array.getElem?_eq_some_iff.1 h3).1
   obtain⟨k1,k2⟩:=hf.keep _ hlt (by rw[h2];exact hn)
   exact⟨es,ck,by rw[e1,e2];exact h1,by rw[e2,k2];exact h2,by rw[e2,k1];exact h3,h4,fun i hi=>(h5 i hi).fr hf h0 hS⟩
end
structure St where
 tm:List AV
 ob:List (Nat × Ob)
def St.get (σ:St) (i:Nat):AV:=(σ.tm[i]?).getD (.c .bot)
def A0k (n:Nat):List (Nat × Ob)→Option Ob
 | []=>none
 | (m,o)::l=>if m=n then some o else A0k n l
def M0 (N M:List Nat):List (Nat × Ob)→List (Nat × Ob)
 | []=>[]
 | (m,o)::l=>if N.contains m || M.contains m then M0 N M l else
  match o.kill N M with
  | some o'=>(m,o')::M0 N M l
  | none=>M0 N M l
def St.fin (σ:St) (dst:Option Nat) (N M:List Nat) (r:AV) (news:List (Nat × Ob)):St :=
 let tm:=if N.isEmpty && M.isEmpty then σ.tm else AV.killL N M σ.tm
 { tm:=match dst with|some d=>tm.set d r|none=>tm,ob:=news++(if N.isEmpty && M.isEmpty then σ.ob else M0 N M σ.ob) }
def obsOk (R:Rz) (w:World) (l:List (Nat × Ob)):Prop:=∀p∈l,OR R w p.1 p.2
theorem A5u {n:Nat} {o:Ob} {l:List (Nat × Ob)} (h:A0k n l=some o):(n,o)∈l:=by
 induction l with
 | nil=>simp[A0k] at h
 | cons p l ih =>
   obtain⟨m,q⟩:=p;simp only[A0k] at h
   split at h
   · rename_i e;cases h;subst e;exact List.mem_cons_self
   · exact List.mem_cons_of_mem _ (ih h)
theorem A3N {N M:List Nat} {l:List (Nat × Ob)} {p:Nat × Ob} (h:p∈M0 N M l) :
 ∃q∈l,p.1=q.1∧q.1 ∉ N∧q.1 ∉ M∧q.2.kill N M=some p.2:=by
 induction l with
 | nil=>simp[M0] at h
 | cons q l ih =>
   obtain⟨m,o⟩:=q;simp only[M0] at h
   split at h
   · obtain⟨q,h3,h4⟩:=ih h
     exact⟨q,List.mem_cons_of_mem _ h3,h4⟩
   · rename_i hc
     simp only[Bool.or_eq_true,List.contains_iff_mem,not_or] at hc
     split at h
     · rename_i o1 ho1
       rcases List.mem_cons.1 h with rfl|h
       · exact⟨(m,o),List.mem_cons_self,rfl,hc.1,hc.2,ho1⟩
       · obtain⟨q,h3,h4⟩:=ih h
         exact⟨q,List.mem_cons_of_mem _ h3,h4⟩
     · obtain⟨q,h3,h4⟩:=ih h
       exact⟨q,List.mem_cons_of_mem _ h3,h4⟩
theorem obsOk.kill {N M:List Nat} {R R':Rz} {w w':World} {l:List (Nat × Ob)} (h:obsOk R w l) (hf:FR N M R w R' w') (h0:0 ∉ N):obsOk R' w' (M0 N M l):=by
 intro p hp
 obtain⟨q,hq,e,h1,h2,h3⟩:=A3N hp
 rw[e];exact OR.kill (h q hq) hf h0 h1 h2 h3
def glb:List (Nat × ((Nat→Option Value)→Prop)):=[]
def Glob (R:Rz) (w:World):Prop:=∀p∈glb,R.root p.1=0∧p.1 < w.heap.size∧p.2 (fun i=>w.cell? ⟨p.1,i,none⟩)
theorem Glob.keep {R R':Rz} {w w':World} (h:Glob R w) (k:∀b,b < w.heap.size→R.root b=0→w'.heap[b]?=w.heap[b]?∧R'.root b=0) (hs:w.heap.size≤w'.heap.size):Glob R' w':=fun p hp=>by
 obtain⟨h1,h2,h3⟩:=h p hp
 obtain⟨k1,k2⟩:=k _ h2 h1
 refine⟨k2,Nat.lt_of_lt_of_le h2 hs,?_⟩
 have e:(fun i=>w'.cell? ⟨p.1,i,none⟩)=fun i=>w.cell? ⟨p.1,i,none⟩:=funext fun i=>World.cell?_of_block k1
 rw[e];exact h3
structure Sim (R0:Rz) (w0:World) (R:Rz) (σ:St) (a:Act) (w:World):Prop where
 size:a.tmps.size=σ.tm.length
 tm:VRt R w σ.tm a.tmps.toList
 ob:obsOk R w σ.ob
 os:w.os=w0.os
 tape:w.tape=w0.tape
 output:w.output=w0.output
 grow:w0.heap.size≤w.heap.size
 keep:∀b,b < w0.heap.size→R0.root b≤5→w.heap[b]?=w0.heap[b]?∧R.root b=R0.root b
 pl:∀n,30≤n→n < 46→R.hd n=R0.hd n∧R.bk n=R0.bk n
 defers:a.defers=[]
 glob:Glob R0 w0
theorem VRt.length {R:Rz} {w:World} {l:List AV} {us:List Value} (h:VRt R w l us):us.length=l.length:=by
 induction l generalizing us with
 | nil=>simp only[VRt] at h;simp[h]
 | cons x l ih =>
   simp only[VRt] at h
   obtain⟨u,us',rfl,_,h2⟩:=h;simp[ih h2]
theorem VRt.get {R:Rz} {w:World} {l:List AV} {us:List Value} (h:VRt R w l us) (i:Nat) {x:AV} (hx:l[i]?=some x):∃u,us[i]?=some u∧VR R w x u:=by
 induction l generalizing us i with
 | nil=>simp at hx
 | cons y l ih =>
   simp only[VRt] at h
   obtain⟨u,us',rfl,h1,h2⟩:=h;cases i with
   | zero=>simp at hx;subst hx;exact⟨u,rfl,h1⟩
   | succ i=>simp at hx;simpa using ih h2 i hx
theorem VRt.set {R:Rz} {w:World} {l:List AV} {us:List Value} (h:VRt R w l us) (i:Nat) {x:AV} {u:Value} (hx:VR R w x u):VRt R w (l.set i x) (us.set i u):=by
 induction l generalizing us i with
 | nil=>simp only[VRt] at h;subst h;simp[VRt]
 | cons y l ih =>
   simp only[VRt] at h
   obtain⟨u',us',rfl,h1,h2⟩:=h;cases i with
   | zero=>simp only[List.set_cons_zero,VRt];exact⟨u,us',rfl,hx,h2⟩
   | succ i=>simp only[List.set_cons_succ,VRt];exact⟨u',_,rfl,h1,ih h2 i⟩
theorem Sim.globR {R0 R:Rz} {w0 w:World} {σ:St} {a:Act} (h:Sim R0 w0 R σ a w):Glob R w :=
 h.glob.keep (fun b hb h0=>by obtain⟨k1,k2⟩:=h.keep b hb (by omega);exact⟨k1,k2.trans h0⟩) h.grow
theorem Sim.get {R0 R:Rz} {w0 w:World} {σ:St} {a:Act} (h:Sim R0 w0 R σ a w) (i:Nat):VR R w (σ.get i) (a.tmps.getD i undef):=by
 unfold St.get
 cases hx:σ.tm[i]? with
 | none=>simp[VR,VRc]
 | some x =>
   obtain⟨u,h1,h2⟩:=h.tm.get i hx
   have:a.tmps.getD i undef=u:=by
    rw[Array.getElem?_toList] at h1
    simp[Array.getD_eq_getD_getElem?,h1]
   rw[this];exact h2
theorem Sim.fin {R0 R R':Rz} {w0 w w':World} {σ:St} {a:Act} {N M:List Nat} {dst:Option Tmp} {r:AV} {v:Value} {news:List (Nat × Ob)} (h:Sim R0 w0 R σ a w)
 (hf:FR N M R w R' w') (hN:∀n∈N,5 < n) (hr:VR R' w' r v) (hn:obsOk R' w' news):Sim R0 w0 R' (σ.fin dst N M r news) (a.put dst v) w':=by
 have h0:0 ∉ N:=fun h=>by have:=hN 0 h;omega
 have htm:VRt R' w' (if N.isEmpty && M.isEmpty then σ.tm else AV.killL N M σ.tm) a.tmps.toList:=by
  split
  · rename_i e
    simp only[Bool.and_eq_true,List.isEmpty_iff] at e
    obtain⟨rfl,rfl⟩:=e;have:=VRt.kill h.tm hf h0
    have e2:∀l,AV.killL [] [] l=l:=by
     intro l;have hc:∀c:CV,c.kill [] []=c:=fun c=>by simp[CV.kill,CV.hit]
     have hv:∀x:AV,x.kill [] []=x:=by
      intro x;refine AV.rec (motive_1:=fun x=>x.kill [] []=x) (motive_2:=fun l=>AV.killL [] [] l=l) ?_ ?_ ?_ ?_ ?_ x
      · intro x;simp[AV.kill,hc]
      · intro l;simp only[AV.kill];congr 1;exact(List.map_congr_left (fun c _=>hc c)).trans (List.map_id _)
      · intro l ih;simp[AV.kill,ih]
      · simp[AV.killL]
      · intro x l h1 h2;simp[AV.killL,h1,h2]
     induction l with
     | nil=>rfl
     | cons x l ih=>simp[AV.killL,hv,ih]
    rw[e2] at this;exact this
  · exact VRt.kill h.tm hf h0
 have hlen:(if N.isEmpty && M.isEmpty then σ.tm else AV.killL N M σ.tm).length=σ.tm.length:=by
  have:=htm.length;rw[←this];simp[h.size]
 refine⟨?_,?_,?_,hf.os.trans h.os,hf.tape.trans h.tape,hf.output.trans h.output,Nat.le_trans h.grow hf.size,fun b hb h1=>?_,fun n h30 h46=>⟨(hf.lo n (by omega)).1.trans (h.pl n h30 h46).1,(hf.lo n (by omega)).2.trans (h.pl n h30 h46).2⟩,?_,h.glob⟩
 · cases dst with
   | none=>simp only[Act.put,St.fin];rw[hlen];exact h.size
   | some d=>simp only[Act.put,St.fin,Array.size_setIfInBounds,List.length_set];rw[hlen];exact h.size
 · cases dst with
   | none=>simpa only [Act.put,St.fin] using htm
   | some d=>simp only[Act.put,St.fin,Array.toList_setIfInBounds];exact htm.set d hr
 · intro p hp
   simp only[St.fin,List.mem_append] at hp
   rcases hp with hp|hp
   · exact hn p hp
   · split at hp
     · rename_i e
       simp only[Bool.and_eq_true,List.isEmpty_iff] at e
       obtain⟨rfl,rfl⟩:=e;refine OR.kill (h.ob p hp) hf h0 (by simp) (by simp) ?_
       cases hp2:p.2 with
       | box l =>
         have hc:∀c:CV,c.kill [] []=c:=fun c=>by simp[CV.kill,CV.hit]
         simp only[Ob.kill,Option.some.injEq,Ob.box.injEq];exact(List.map_congr_left (fun c _=>hc c)).trans (List.map_id _)
       | row e t xs S=>simp[Ob.kill]
       | tree e t xs h'=>simp[Ob.kill]
       | map t xs S=>simp[Ob.kill]
     · exact h.ob.kill hf h0 p hp
 · obtain⟨h2,h3⟩:=h.keep b hb h1
   obtain⟨k1,k2⟩:=hf.keep b (Nat.lt_of_lt_of_le hb h.grow) (fun hm=>by rw[h3] at hm;have:=hN _ hm;omega)
   exact⟨k1.trans h2,k2.trans h3⟩
 · cases dst<;>exact h.defers
open Go.RowKit
def B8n (S:List Nat):(t:Ty)→t.den→CV
 | .int k,x=>.sc (.int k x)
 | .bool,x=>.sc (.bool x)
 | .str,x=>.sc (.string x)
 | .row e t,xs=>.rd S e t xs
 | .prod _ _,_=>.bot
def cellsOf (S:List Nat):(t:Ty)→t.den→List CV
 | .int k,x=>[.sc (.int k x)]
 | .bool,x=>[.sc (.bool x)]
 | .str,x=>[.sc (.string x)]
 | .row e t,xs=>[.rd S e t xs]
 | .prod a b,x=>cellsOf S a x.1++cellsOf S b x.2
theorem t8 (S:List Nat) (t:Ty) (x:t.den):(cellsOf S t x).length=t.w:=by
 induction t with
 | prod a b ha hb=>simp[cellsOf,ha,hb,Ty.w]
 | _=>simp[cellsOf,Ty.w]
theorem VRs.append {R:Rz} {w:World} {l1 l2:List CV} {u1 u2:List Value} (h1:VRs R w l1 u1) (h2:VRs R w l2 u2):VRs R w (l1++l2) (u1++u2):=by
 induction l1 generalizing u1 with
 | nil=>simp only[VRs] at h1;subst h1;exact h2
 | cons c l ih =>
   obtain⟨u,us',rfl,h3,h4⟩:=h1;exact⟨u,us'++u2,rfl,h3,ih h4⟩
theorem VRs.length {R:Rz} {w:World} {l:List CV} {us:List Value} (h:VRs R w l us):us.length=l.length:=by
 induction l generalizing us with
 | nil=>simp only[VRs] at h;simp[h]
 | cons c l ih =>
   obtain⟨u,us',rfl,_,h4⟩:=h;simp[ih h4]
theorem VRs.get {R:Rz} {w:World} {l:List CV} {us:List Value} (h:VRs R w l us) (i:Nat) {c:CV} (hc:l[i]?=some c):∃u,us[i]?=some u∧VRc R w c u:=by
 induction l generalizing us i with
 | nil=>simp at hc
 | cons d l ih =>
   obtain⟨u,us',rfl,h1,h2⟩:=h;cases i with
   | zero=>simp at hc;subst hc;exact⟨u,rfl,h1⟩
   | succ i=>simp at hc;simpa using ih h2 i hc
theorem VRs.set {R:Rz} {w:World} {l:List CV} {us:List Value} (h:VRs R w l us) (i:Nat) {c:CV} {u:Value} (hc:VRc R w c u):VRs R w (l.set i c) (us.set i u):=by
 induction l generalizing us i with
 | nil=>simp only[VRs] at h;subst h;simp[VRs]
 | cons y l ih =>
   obtain⟨u',us',rfl,h1,h2⟩:=h;cases i with
   | zero=>exact⟨u,us',rfl,hc,h2⟩
   | succ i=>exact⟨u',_,rfl,h1,ih h2 i⟩
theorem VRs.drop {R:Rz} {w:World} {l:List CV} {us:List Value} (h:VRs R w l us) (i:Nat):VRs R w (l.drop i) (us.drop i):=by
 induction l generalizing us i with
 | nil=>simp only[VRs] at h;subst h;simp[VRs]
 | cons y l ih =>
   obtain⟨u',us',rfl,h1,h2⟩:=h;cases i with
   | zero=>exact⟨u',us',rfl,h1,h2⟩
   | succ i=>exact ih h2 i
theorem VRs.take {R:Rz} {w:World} {l:List CV} {us:List Value} (h:VRs R w l us) (i:Nat):VRs R w (l.take i) (us.take i):=by
 induction l generalizing us i with
 | nil=>simp only[VRs] at h;subst h;simp[VRs]
 | cons y l ih =>
   obtain⟨u',us',rfl,h1,h2⟩:=h;cases i with
   | zero=>simp[VRs]
   | succ i=>exact⟨u',_,rfl,h1,ih h2 i⟩
theorem Rd.cells {R:Rz} {w:World} {S:List Nat} {t:Ty} {us:List Value} {x:t.den} (h:Rd (okS R S) w t us x):VRs R w (cellsOf S t x) us:=by
 induction t generalizing us with
 | int k=>simp only[Rd] at h;subst h;exact⟨_,_,rfl,rfl,rfl⟩
 | bool=>simp only[Rd] at h;subst h;exact⟨_,_,rfl,rfl,rfl⟩
 | str=>simp only[Rd] at h;subst h;exact⟨_,_,rfl,rfl,rfl⟩
 | row e t ih =>
   have h':=h
   obtain⟨a,cap,rfl,_⟩:=h;exact⟨_,_,rfl,h',rfl⟩
 | prod a b ha hb =>
   obtain⟨u1,u2,rfl,h1,h2⟩:=h;exact(ha h1).append (hb h2)
structure Res where
 c:Prop
 r:AV
 N:List Nat
 M:List Nat
 news:List (Nat × Ob)
def St.look (σ:St) (n:Nat):Option Ob:=A0k n σ.ob
def St.ev (σ:St):Operand→AV
 | .tmp t=>σ.get t
 | .const v=>.c (.sc v)
 | .global g=>.c (.sc (.pointer (some ⟨g,0,none⟩)))
 | .func f=>.c (.sc (.func (.func f) #[] #[]))
theorem Sim.ev {R0 R:Rz} {w0 w:World} {σ:St} {a:Act} (h:Sim R0 w0 R σ a w) (x:Operand):VR R w (σ.ev x) (a.eval x):=by
 cases x with
 | tmp t=>exact h.get t
 | const v=>simp[St.ev,VR,VRc,Act.eval]
 | global g=>simp[St.ev,VR,VRc,Act.eval]
 | func f=>simp[St.ev,VR,VRc,Act.eval]
def P1 (P:Program) (t:TypeId):Option Nat:=(P.info? t).map (·.size)
def N6 (r:AV):Option Res:=some ⟨True,r,[],[],[]⟩
structure Done (R:Rz) (w:World) (N M:List Nat) (r:AV) (news:List (Nat × Ob)) (R':Rz) (v:Value) (w':World):Prop where
 fr:FR N M R w R' w'
 n5:∀n∈N,5 < n
 vr:VR R' w' r v
 ob:obsOk R' w' news
section
variable {P:Program} {R0 R:Rz} {w0 w:World} {σ:St} {a:Act} {o:Oper} {K:Act→World→Prop} {Q:Exit→Act→World→Prop}
theorem Sim.done {R':Rz} {w':World} {N M:List Nat} {r:AV} {v:Value} {news:List (Nat × Ob)} {dst:Option Tmp} (hs:Sim R0 w0 R σ a w) (h:Done R w N M r news R' v w'):Sim R0 w0 R' (σ.fin dst N M r news) (a.put dst v) w' :=
 hs.fin h.fr h.n5 h.vr h.ob
theorem V7 {v:Value} {w':World} {R':Rz} {r:Res} (hs:Sim R0 w0 R σ a w) (hrun:(execOp a.eval o).run P w=.ok (.value v) w')
 (hf:FR r.N r.M R w R' w') (h0:∀n∈r.N,5 < n) (hr:VR R' w' r.r v) (hn:obsOk R' w' r.news)
 (hK:∀R' v w',Done R w r.N r.M r.r r.news R' v w'→K (a.put o.dst v) w'):o.wp P a w K Q:=by
 unfold Oper.wp
 rw[hrun];exact hK _ _ _ ⟨hf,h0,hr,hn⟩
theorem E0 {v:Value} {r:AV} (hs:Sim R0 w0 R σ a w) (hrun:(execOp a.eval o).run P w=.ok (.value v) w) (hr:VR R w r v)
 (hK:∀R' v w',Done R w [] [] r [] R' v w'→K (a.put o.dst v) w'):o.wp P a w K Q :=
 V7 (r:=⟨True,r,[],[],[]⟩) hs hrun (FR.refl _ _ _ _) (by simp) hr (by intro p hp;cases hp) hK
def B7j (op:BinOp):Value→Value→Option (Prop × Value)
 | .int k x, .int k' y => match op with
   | .add=>if k=k' then some (True,.int k (k.wrap (x+y))) else none
   | .sub=>if k=k' then some (True,.int k (k.wrap (x - y))) else none
   | .mul=>if k=k' then some (True,.int k (k.wrap (x * y))) else none
   | .quo=>if k=k' then some (y≠0,.int k (k.wrap (x.tdiv y))) else none
   | .rem=>if k=k' then some (y≠0,.int k (x.tmod y)) else none
   | .and=>if k=k' then some (True,.int k (k.wrap (BitVec.ofInt k.bits x &&& BitVec.ofInt k.bits y).toNat)) else none
   | .or=>if k=k' then some (True,.int k (k.wrap (BitVec.ofInt k.bits x ||| BitVec.ofInt k.bits y).toNat)) else none
   | .xor=>if k=k' then some (True,.int k (k.wrap (BitVec.ofInt k.bits x ^^^ BitVec.ofInt k.bits y).toNat)) else none
   | .andNot=>if k=k' then some (True,.int k (k.wrap (BitVec.ofInt k.bits x &&& ~~~(BitVec.ofInt k.bits y)).toNat)) else none
   | .shl=>some (0≤y,.int k (k.wrap (x * 2 ^ (min y.toNat k.bits))))
   | .shr=>some (0≤y,.int k (x.fdiv (2 ^ (min y.toNat k.bits))))
   | .eql=>if k=k' then some (True,.bool (decide (x=y))) else none
   | .neq=>if k=k' then some (True,.bool (!decide (x=y))) else none
   | .lss=>if k=k' then some (True,.bool (x < y)) else none
   | .leq=>if k=k' then some (True,.bool (x≤y)) else none
   | .gtr=>if k=k' then some (True,.bool (x > y)) else none
   | .geq=>if k=k' then some (True,.bool (x≥y)) else none
 | .string x, .string y => match op with
   | .add=>some (((x.size+y.size:Nat):Int)≤IntKind.i64.max,.string (x++y))
   | .eql=>some (True,.bool (x.toList == y.toList))
   | .neq=>some (True,.bool (!(x.toList == y.toList)))
   | _=>none
 | _,_=>none
theorem B5J {op:BinOp} {x y v:Value} {c:Prop} (h:B7j op x y=some (c,v)) (hc:c) (t:TypeId) (X Y:Operand) (w:World) :
 (do eqGuard op t X Y x y;binOp op t x y:Sem Value).run P w=.ok v w:=by
 have key:(eqGuard op t X Y x y).run P w=.ok () w∧(binOp op t x y).run P w=.ok v w:=by
  cases x<;>cases y<;>simp only[B7j] at h<;>try(cases h)
  · rename_i k x k' y
    cases op<;>simp only at h<;>(try split at h)<;>cases h<;>(try subst_vars)<;>refine⟨by simp[eqGuard,pure,Sem.run],?_⟩ <;>
     (try simp_all [binOp,Op.intArith,Op.intDiv,Op.intBits,Op.intCmp,Op.shift,pure,Sem.run])<;>first|omega|rfl|(simp[bne];done)
  · rename_i x y
    cases op<;>simp only at h<;>cases h<;>refine⟨by simp[eqGuard,pure,Sem.run],?_⟩ <;>
     simp_all [binOp,Op.stringOp,pure,Sem.run]<;>omega
 rw[Sem.run_bind,key.1];exact key.2
def A3Y (P:Program):Nat→List Field→Bool
 | _,[]=>true
 | i, f :: fs => f.name != "_" && f.offset == i && (match P.underlying f.type with | some (.int _) => true | _ => false) && A3Y P (i + 1) fs
def B3D (P:Program) (t:TypeId):Option Nat :=
 match P.underlying t with
 | some (.struct fs)=>if !P.stoodInHeld t && !P.eqGuardType P.depth t && A3Y P 0 fs.toList then some fs.toList.length else none
 | _=>none
def A8O:List CV→List CV→Option Bool
 | [],[]=>some true
 | .sc (.int k x) :: l, .sc (.int k' y) :: l' => if k = k' then match A8O l l' with
   | some b=>some (x == y && b)
   | none=>none else none
 | _,_=>none
theorem B0o {us vs:Array Value} {d:Nat}:∀(fs:List Field) (i:Nat) (l1 l2:List CV) (b:Bool),A3Y P i fs=true→VRs R w l1 (us.toList.drop i)→VRs R w l2 (vs.toList.drop i) →
 l1.length=fs.length→A8O l1 l2=some b→(Op.eqFields (d+1) us vs fs).run P w=.ok b w:=by
 intro fs
 induction fs with
 | nil =>
   intro i l1 l2 b _ _ _ hl h
   have:l1=[]:=List.eq_nil_of_length_eq_zero hl
   subst this;cases l2 with
   | nil=>simp only[A8O,Option.some.injEq] at h;subst h;simp[Op.eqFields,pure,Sem.run]
   | cons c l=>simp[A8O] at h
 | cons f fs ih =>
   intro i l1 l2 b hf h1 h2 hl h
   simp only[A3Y,Bool.and_eq_true,bne_iff_ne,ne_eq,beq_iff_eq] at hf
   obtain⟨⟨⟨hn,ho⟩,ht⟩,hf⟩:=hf
   split at ht
   case h_2=>cases ht
   rename_i k0 hu
   cases l1 with
   | nil=>simp at hl
   | cons c1 l1 =>
     cases l2 with
     | nil=>cases c1<;>simp[A8O] at h<;>(rename_i v;cases v<;>simp[A8O] at h)
     | cons c2 l2 =>
       unfold A8O at h
       split at h<;>try cases h
       · rename_i heq _;cases heq
       rename_i k x l k' y l' e1 e2
       cases e1;cases e2
       split at h
       case isFalse=>cases h
       rename_i hk
       subst hk
       split at h
       case h_2=>cases h
       rename_i b' hb
       cases h
       obtain⟨u,us',q1,q2,q3⟩:=h1;obtain⟨v,vs',r1,r2,r3⟩:=h2;simp only[VRc] at q2 r2
       subst q2 r2
       have gu:us[i]?=some (.int k x):=by
        have:=congrArg (·[0]?) q1
        simpa using this
       have gv:vs[i]?=some (.int k y):=by
        have:=congrArg (·[0]?) r1
        simpa using this
       have du:us.toList.drop (i+1)=us':=by rw[←List.drop_drop,q1];rfl
       have dv:vs.toList.drop (i+1)=vs':=by rw[←List.drop_drop,r1];rfl
       have hag:(isAgg f.type).run P w=.ok false w:=by
        unfold isAgg;rw[Sem.run_bind,run_underlying hu w];simp
       have:=ih (i+1) l1 l2 b' hf (by rw[du];exact q3) (by rw[dv];exact r3) (by simpa using hl) hb
       simp only[Op.eqFields,hn,not_false_eq_true,ne_eq,if_true,Sem.run_bind,part,hag,ho,gu,gv,run_equalIn_int w d f.type k k0 x y hu,Result.andThen_ok,Sem.run_ite];cases hxy:(x == y)
       · simp[hag,gu,gv,Sem.run_bind,run_equalIn_int w d f.type k k0 x y hu,hxy,pure,Sem.run,Sem.run_pure]
       · simp[hag,gu,gv,Sem.run_bind,run_equalIn_int w d f.type k k0 x y hu,hxy,this,pure]
def B3F (P:Program) (op:BinOp) (t:TypeId):Value→Value→Option Value
 | .bool x, .bool y => match P.underlying t with
   | some .bool => match op with
     | .eql=>some (.bool (x == y))
     | .neq=>some (.bool (!(x == y)))
     | _=>none
   | _=>none
 | _,_=>none
theorem B3z {op:BinOp} {x y v:Value} {t:TypeId} (h:B3F P op t x y=some v) (X Y:Operand) (w:World) :
 (do eqGuard op t X Y x y;binOp op t x y:Sem Value).run P w=.ok v w:=by
 unfold B3F at h
 split at h
 case h_2=>cases h
 rename_i x y
 split at h
 case h_2=>cases h
 rename_i hu
 have e1:∀d,(Op.equalIn (d+1) t (.bool x) (.bool y)).run P w=.ok (x == y) w:=fun d=>by
  unfold Op.equalIn
  rw[Sem.run_bind,run_underlying hu w]
  rfl
 have e:(Op.equal t (.bool x) (.bool y)).run P w=.ok (x == y) w:=e1 9999
 cases op<;>simp only at h<;>cases h
 · rw[Sem.run_bind];simp[eqGuard,binOp,Sem.run_bind,e,pure,Sem.run,Sem.run_pure]
 · rw[Sem.run_bind];simp[eqGuard,binOp,Sem.run_bind,e,pure,Sem.run,Sem.run_pure]
def B7s (P:Program) (σ:St) (op:BinOp) (t:TypeId) (x y:Operand):Option Res :=
 match σ.ev x,σ.ev y with
 | .c (.sc u), .c (.sc v) => match B7j op u v with
   | some (c,r)=>some ⟨c,.c (.sc r),[],[],[]⟩
   | none => match B3F P op t u v with
     | some r=>some ⟨True,.c (.sc r),[],[],[]⟩
     | none=>none
 | .agg l1, .agg l2 => match B3D P t with
   | some n => if l1.length = n then match A8O l1 l2 with
     | some b => match op with
       | .eql=>some ⟨True,.c (.sc (.bool b)),[],[],[]⟩
       | .neq=>some ⟨True,.c (.sc (.bool (!b))),[],[],[]⟩
       | _=>none
     | none=>none else none
   | none=>none
 | _,_=>none
theorem B7r {op:BinOp} {t t':TypeId} {x y:Operand} {r:Res} (ho:o.op=.binOp op t x y t') (h:B7s P σ op t x y=some r) (hc:r.c) (hs:Sim R0 w0 R σ a w)
 (hK:∀R' v w',Done R w r.N r.M r.r r.news R' v w'→K (a.put o.dst v) w'):o.wp P a w K Q:=by
 have hx:=hs.ev x
 have hy:=hs.ev y
 unfold B7s at h
 split at h
 · rename_i u v e1 e2
   split at h
   · rename_i c q e3
     cases h
     rw[e1] at hx;rw[e2] at hy
     simp only[VR,VRc] at hx hy
     refine E0 (r:=.c (.sc q)) hs ?_ rfl hK
     unfold execOp;simp only[ho,hx,hy,Sem.run_bind];have:=B5J (P:=P) e3 hc t x y w
     rw[Sem.run_bind] at this;simp[this,pure,Sem.run,Sem.run_pure]
   · split at h
     case h_2=>cases h
     rename_i q e3
     cases h
     rw[e1] at hx;rw[e2] at hy
     simp only[VR,VRc] at hx hy
     refine E0 (r:=.c (.sc q)) hs ?_ rfl hK
     unfold execOp;simp only[ho,hx,hy,Sem.run_bind];have:=B3z (P:=P) e3 x y w
     rw[Sem.run_bind] at this;simp[this,pure,Sem.run,Sem.run_pure]
 · rename_i l1 l2 e1 e2
   split at h
   case h_2=>cases h
   rename_i n e3
   split at h
   case isFalse=>cases h
   rename_i hn
   split at h
   case h_2=>cases h
   rename_i b e4
   rw[e1] at hx;rw[e2] at hy
   simp only[VR] at hx hy
   obtain⟨us,hx,h1⟩:=hx;obtain⟨vs,hy,h2⟩:=hy;unfold B3D at e3
   split at e3
   case h_2=>cases e3
   rename_i fs e5
   split at e3
   case isFalse=>cases e3
   rename_i hf
   simp only[Bool.and_eq_true,Bool.not_eq_true'] at hf
   obtain⟨⟨f1,f2⟩,f3⟩:=hf
   simp only[Option.some.injEq] at e3
   have ef:P.fieldsOf t=fs:=by simp[Program.fieldsOf,e5]
   have run:(Op.equalIn 10000 t (.agg us) (.agg vs)).run P w=.ok b w:=by
    rw[run_equalIn_struct w 9999 t us vs (by rw[ef];exact e5) f1,ef]
    exact B0o fs.toList 0 l1 l2 b f3 (by simpa using h1) (by simpa using h2) (by omega) e4
   have eg:=run_eqGuard_agg w op t x y us vs f2
   split at h
   · cases h
     refine E0 (r:=.c (.sc (.bool b))) (v:=.bool b) hs ?_ (by simp only[VR,VRc]) hK
     unfold execOp;simp only[ho,hx,hy,Sem.run_bind,eg,Result.andThen_ok,run_eql_struct,run,Sem.run_pure]
   · cases h
     refine E0 (r:=.c (.sc (.bool (!b)))) (v:=.bool (!b)) hs ?_ (by simp only[VR,VRc]) hK
     unfold execOp;simp only[ho,hx,hy,Sem.run_bind,eg,Result.andThen_ok,run_neq_struct,run,Sem.run_pure]
   · cases h
 · cases h
end
open Go.RowKit
def a9 (n i wd:Nat):Nat→(t:Ty)→t.den→List CV
 | _,.int k,x=>[.sc (.int k x)]
 | _,.bool,x=>[.sc (.bool x)]
 | _,.str,x=>[.sc (.string x)]
 | o,.row e t,xs=>[.sub n i wd o e t xs]
 | o,.prod a b,x=>a9 n i wd o a x.1++a9 n i wd (o+a.w) b x.2
theorem A5Y (n i wd o:Nat) (t:Ty) (x:t.den):(a9 n i wd o t x).length=t.w:=by
 induction t generalizing o with
 | prod a b ha hb=>simp[a9,ha,hb,Ty.w]
 | _=>simp[a9,Ty.w]
def okH:Option (Nat × Nat)→Nat→Prop
 | none,_=>True
 | some p,i=>¬(p.1≤i∧i < p.2)
theorem B3B {h:Option (Nat × Nat)} {i:Nat}:okH h i↔¬j5 h i:=by cases h<;>simp[okH,j5]
def B33 (σ:St):CV→Option (Prop × List CV × Nat)
 | .po n o => match σ.look n with
   | some (.box l)=>some (True,l,o)
   | _=>none
 | .pt S t x o=>some (True,cellsOf S t x,o)
 | .pe n i wd o => match σ.look n with
   | some (.row _ t xs S)=>if wd=t.w then some (i < xs.length,cellsOf S t (xs.getD i t.dflt),o) else none
   | some (.tree _ t xs h)=>if wd=t.w then some (i < xs.length∧okH h i,a9 n i wd 0 t (xs.getD i t.dflt),o) else none
   | _=>none
 | .pi n _ _ _ _ t x k=>some (True,cellsOf [n] t x,k)
 | _=>none
def d6 (σ:St):CV→Option ((e:TypeId) × (t:Ty) × List t.den)
 | .rd _ e t xs=>some ⟨e,t,xs⟩
 | .sub _ _ _ _ e t xs=>some ⟨e,t,xs⟩
 | .ow n => match σ.look n with
   | some (.row e t xs _)=>some ⟨e,t,xs⟩
   | some (.tree e t xs none)=>some ⟨e,t,xs⟩
   | _=>none
 | _=>none
def lenOf (σ:St):CV→Option Nat
 | .sc (.string s)=>some s.size
 | .sc (.slice none 0 0)=>some 0
 | .rd _ _ _ xs=>some xs.length
 | .sub _ _ _ _ _ _ xs=>some xs.length
 | .ow n => match σ.look n with
   | some (.row _ _ xs _)=>some xs.length
   | some (.tree _ _ xs _)=>some xs.length
   | _=>none
 | _=>none
section
variable {P:Program} {R0 R:Rz} {w0 w:World} {σ:St} {a:Act} {o:Oper} {K:Act→World→Prop} {Q:Exit→Act→World→Prop}
theorem Sim.look (hs:Sim R0 w0 R σ a w) {n:Nat} {q:Ob} (h:σ.look n=some q):OR R w n q:=hs.ob _ (A5u h)
theorem B8 {cur:List Value} {m j k:Nat} (h:j < k):((cur.drop m).take k)[j]?=cur[m+j]?:=by
 rw[List.getElem?_take_of_lt h,List.getElem?_drop]
theorem RowO.rd {n:Nat} {e:TypeId} {t:Ty} {u:Value} {ys:List t.den} (h:RowO R w n e t u ys):Rd (okS R [n]) w (.row e t) [u] ys:=by
 rcases h with⟨rfl,rfl⟩|⟨b,cap,cur,rfl,h2,h3,h4,h5,h6,h7⟩
 · exact⟨none,0,rfl,by simp,by simp,fun h=>by simp at h⟩
 · refine⟨_,cap,rfl,h4,h5,fun h0=>⟨b,0,rfl,.inr (by rw[h2];simp),fun i hi=>?_⟩⟩
   refine⟨_,Rd.len (h7 i hi),fun j hj=>?_,(h7 i hi).frame fun b hb ho=>⟨?_,rfl⟩⟩
   · rw[B8 hj];simp[World.cell?,h3]
   · rcases ho with ho|ho
     · exact .inl ho
     · cases ho
theorem ElO.rd {n:Nat} {t:Ty} {us:List Value} {x:t.den} (h:ElO R w n t us x):Rd (okS R [n]) w t us x:=by
 induction t generalizing us with
 | int k=>exact h
 | bool=>exact h
 | str=>exact h
 | prod a b ha hb =>
   obtain⟨u1,u2,rfl,h1,h2⟩:=h;exact⟨u1,u2,rfl,ha h1,hb h2⟩
 | row e t ih =>
   obtain⟨h1,u,rfl,h2⟩:=h;exact h2.rd
theorem ElO.cells {n i wd:Nat} {t:Ty} {us:List Value} {x:t.den} (hr:R.root (R.bk n)=n):∀{o:Nat},ElO R w n t us x→(∀j,j < t.w→w.cell? ⟨R.bk n,i * wd+(o+j),none⟩=us[j]?)→VRs R w (a9 n i wd o t x) us:=by
 induction t generalizing us with
 | int k=>intro o h _;simp only[ElO] at h;subst h;exact⟨_,_,rfl,rfl,rfl⟩
 | bool=>intro o h _;simp only[ElO] at h;subst h;exact⟨_,_,rfl,rfl,rfl⟩
 | str=>intro o h _;simp only[ElO] at h;subst h;exact⟨_,_,rfl,rfl,rfl⟩
 | row e t ih =>
   intro o h hc
   obtain⟨h1,u,rfl,h2⟩:=h;have:=hc 0 (by simp[Ty.w])
   simp only[Nat.add_zero] at this
   exact⟨_,_,rfl,⟨by rw[this];rfl,hr,h2⟩,rfl⟩
 | prod a b ha hb =>
   intro o h hc
   obtain⟨u1,u2,rfl,h1,h2⟩:=h;have hl:=h1.rd.len
   have hl2:=h2.rd.len
   refine VRs.append (ha h1 fun j hj=>?_) (hb h2 fun j hj=>?_)
   · rw[hc j (by simp only[Ty.w];omega),List.getElem?_append_left (by omega)]
   · have:=hc (a.w+j) (by simp only[Ty.w];omega)
     rw[List.getElem?_append_right (by omega),hl,Nat.add_sub_cancel_left] at this
     rw[←this]
     congr 2
     omega
theorem B5l {p:CV} {u:Value} {c:Prop} {l:List CV} {k:Nat} (hs:Sim R0 w0 R σ a w) (hp:VRc R w p u) (h:B33 σ p=some (c,l,k)) (hc:c) :
 ∃b o us,u=.pointer (some ⟨b,o+k,none⟩)∧VRs R w l us∧∀j,j < l.length→w.cell? ⟨b,o+j,none⟩=us[j]?:=by
 unfold B33 at h
 split at h
 · rename_i n o
   split at h
   · rename_i l' e
     cases h
     obtain⟨us,T,h1,h2,h3⟩:=hs.look e
     refine⟨R.bk n,0,us.toList,by rw[Nat.zero_add];exact hp,h3,fun j hj=>?_⟩
     simp[World.cell?,h1]
   · cases h
 · rename_i S t x o
   cases h
   obtain⟨b,o',us,rfl,hb,hl,hcell,hr⟩:=hp;exact⟨b,o',us,rfl,hr.cells,fun j hj=>hcell j (by rw[t8] at hj;exact hj)⟩
 · rename_i n i wd o
   split at h
   · rename_i e t xs S he
     split at h
     · rename_i hw
       cases h
       subst hw;have hc:i < xs.length:=hc
       rcases hs.look he with⟨h1,h2⟩|⟨cap,cur,h1,h2,h3,h4,h5,h6,h7⟩
       · subst h2;simp at hc
       · have h8:=h7 i hc
         have e1:xs.getD i t.dflt=xs[i]:=by simp[List.getD,hc]
         rw[e1];refine⟨R.bk n,i * t.w,_,hp,h8.cells,fun j hj=>?_⟩
         rw[t8] at hj;rw[B8 hj];simp[World.cell?,h3]
     · cases h
   · rename_i e t xs hh he
     split at h
     · rename_i hw
       cases h
       subst hw;obtain⟨hc,hk⟩:=hc;rcases hs.look he with⟨h1,h2⟩|⟨cap,cur,h1,h2,h3,h4,h5,h6,h7,h8⟩
       · subst h2;simp at hc
       · have h9:=h7 i hc (B3B.1 hk)
         have e1:xs.getD i t.dflt=xs[i]:=by simp[List.getD,hc]
         rw[e1]
         have hcell:∀j,j < t.w→w.cell? ⟨R.bk n,i * t.w+j,none⟩=((cur.toList.drop (i * t.w)).take t.w)[j]?:=fun j hj=>by
          rw[B8 hj];simp[World.cell?,h3]
         refine⟨R.bk n,i * t.w,_,hp,h9.cells h2 (fun j hj=>by rw[Nat.zero_add];exact hcell j hj),fun j hj=>?_⟩
         rw[A5Y] at hj;exact hcell j hj
     · cases h
   · cases h
 · rename_i n i wd o j t x kk
   cases h
   obtain⟨b,l',cap,us,h1,h2,h3,rfl,h5,h6,h7⟩:=hp;exact⟨b,j * t.w,us,rfl,h7.cells,fun q hq=>h6 q (by rw[t8] at hq;exact hq)⟩
 · cases h
def B2d (σ:St) (c x y:Operand):Option Res :=
 match σ.ev c with
 | .c (.sc (.bool b))=>N6 (if b then σ.ev x else σ.ev y)
 | _=>none
theorem B5P {c x y:Operand} {r:Res} (ho:o.op=.pick c x y) (h:B2d σ c x y=some r) (hs:Sim R0 w0 R σ a w)
 (hK:∀R' v w',Done R w r.N r.M r.r r.news R' v w'→K (a.put o.dst v) w'):o.wp P a w K Q:=by
 have h1:=hs.ev c
 unfold B2d at h
 split at h
 · rename_i b e
   cases h
   rw[e] at h1;simp only[VR,VRc] at h1
   refine E0 (v:=if b then a.eval x else a.eval y) hs ?_ ?_ hK
   · unfold execOp;simp[ho,h1,asBool]
   · cases b
     · exact hs.ev y
     · exact hs.ev x
 · cases h
theorem B00 {x:Operand} (ho:o.op=.move x∨o.op=.assign x) (hs:Sim R0 w0 R σ a w)
 (hK:∀R' v w',Done R w [] [] (σ.ev x) [] R' v w'→K (a.put o.dst v) w'):o.wp P a w K Q:=by
 refine E0 (v:=a.eval x) hs ?_ (hs.ev x) hK
 unfold execOp;rcases ho with ho|ho<;>simp[ho]
def aUn (σ:St) (op:UnOp) (x:Operand):Option Res :=
 match σ.ev x with
 | .c (.sc (.bool b)) => match op with
   | .not=>N6 (.c (.sc (.bool (!b))))
   | _=>none
 | .c (.sc (.int k n)) => match op with
   | .neg=>N6 (.c (.sc (.int k (k.wrap (0 - n)))))
   | _=>none
 | _=>none
theorem B8m {op:UnOp} {t:TypeId} {x:Operand} {r:Res} (ho:o.op=.unOp op t x) (h:aUn σ op x=some r) (hs:Sim R0 w0 R σ a w)
 (hK:∀R' v w',Done R w r.N r.M r.r r.news R' v w'→K (a.put o.dst v) w'):o.wp P a w K Q:=by
 have h1:=hs.ev x
 unfold aUn at h
 split at h
 · rename_i b e
   rw[e] at h1;simp only[VR,VRc] at h1
   split at h<;>cases h
   refine E0 (v:=.bool (!b)) hs ?_ (by simp[VR,VRc]) hK
   unfold execOp;simp[ho,h1,Op.unary]
 · rename_i k n e
   rw[e] at h1;simp only[VR,VRc] at h1
   split at h<;>cases h
   refine E0 (v:=.int k (k.wrap (0 - n))) hs ?_ (by simp[VR,VRc]) hK
   unfold execOp;simp[ho,h1,Op.unary,Op.intArith]
 · cases h
def A9i (P:Program) (σ:St) (s d:TypeId) (x:Operand):Option Res :=
 match σ.ev x with
 | .c (.sc (.int k n)) => match P.underlying s, P.underlying d with
   | some (.int _),some (.int k')=>N6 (.c (.sc (.int k' (k'.wrap n))))
   | _,_=>none
 | _=>none
theorem B5K {s d:TypeId} {x:Operand} {r:Res} (ho:o.op=.convert s d x) (h:A9i P σ s d x=some r) (hs:Sim R0 w0 R σ a w)
 (hK:∀R' v w',Done R w r.N r.M r.r r.news R' v w'→K (a.put o.dst v) w'):o.wp P a w K Q:=by
 have h1:=hs.ev x
 unfold A9i at h
 split at h
 · rename_i k n e
   rw[e] at h1;simp only[VR,VRc] at h1
   split at h
   · rename_i k1 k2 e1 e2
     cases h
     refine E0 (v:=.int k2 (k2.wrap n)) hs ?_ (by simp[VR,VRc]) hK
     unfold execOp;simp[ho,h1,convert,run_underlying e1,run_underlying e2,Conv.intToInt]
   · cases h
 · cases h
def B7w (σ:St) (x:Operand) (i:Nat):Option Res :=
 match σ.ev x with
 | .tup l => match l[i]? with
   | some y=>N6 y
   | none=>none
 | _=>none
theorem B8L {x:Operand} {i:Nat} {r:Res} (ho:o.op=.extract x i) (h:B7w σ x i=some r) (hs:Sim R0 w0 R σ a w)
 (hK:∀R' v w',Done R w r.N r.M r.r r.news R' v w'→K (a.put o.dst v) w'):o.wp P a w K Q:=by
 have h1:=hs.ev x
 unfold B7w at h
 split at h
 · rename_i l e
   rw[e] at h1;simp only[VR] at h1
   obtain⟨us,h2,h3⟩:=h1
   split at h
   · rename_i y e2
     cases h
     obtain⟨u,h4,h5⟩:=h3.get i e2
     refine E0 (v:=u) hs ?_ h5 hK
     unfold execOp;rw[Array.getElem?_toList] at h4
     simp[ho,h2,Instr.extract,h4]
   · cases h
 · cases h
def A5r:CV→Bool
 | .po _ _ | .pt _ _ _ _ | .pe _ _ _ _ | .pi _ _ _ _ _ _ _ _=>true
 | _=>false
theorem B5T {p:CV} {u:Value} (h:A5r p=true) (hp:VRc R w p u):∃b o,u=.pointer (some ⟨b,o,none⟩):=by
 cases p<;>simp[A5r] at h
 · obtain⟨b,o,us,h,_⟩:=hp;exact⟨_,_,h⟩
 · exact⟨_,_,hp⟩
 · exact⟨_,_,hp⟩
 · obtain⟨b,l,cap,us,_,_,_,h,_⟩:=hp;exact⟨_,_,h⟩
def B7D (σ:St) (x:Operand):Option Res :=
 match σ.ev x with
 | .c p=>if A5r p then N6 (.c p) else none
 | _=>none
theorem B80 {x:Operand} {r:Res} (ho:o.op=.nilCheck x) (h:B7D σ x=some r) (hs:Sim R0 w0 R σ a w)
 (hK:∀R' v w',Done R w r.N r.M r.r r.news R' v w'→K (a.put o.dst v) w'):o.wp P a w K Q:=by
 have h1:=hs.ev x
 unfold B7D at h
 split at h
 · rename_i p e
   rw[e] at h1
   split at h
   · rename_i hp
     cases h
     have h2:=h1
     simp only[VR] at h2
     obtain⟨b,k,h3⟩:=B5T hp h2
     refine E0 (v:=a.eval x) hs ?_ h1 hK
     unfold execOp;simp[ho,h3]
   · cases h
 · cases h
def A9a (k:Nat):CV→CV
 | .po n o=>.po n (o+k)
 | .pt S t x o=>.pt S t x (o+k)
 | .pe n i wd o=>.pe n i wd (o+k)
 | .pi n i wd o j t x q=>.pi n i wd o j t x (q+k)
 | c=>c
def A8I (P:Program) (σ:St) (s:TypeId) (x:Operand) (f:Nat):Option Res :=
 match σ.ev x with
 | .c p => if A5r p then match P.underlying s with
   | some (.struct fs) => match fs[f]? with
     | some fd => match P1 P fd.type with
       | some (_+1)=>N6 (.c (A9a fd.offset p))
       | _=>none
     | none=>none
   | _=>none else none
 | _=>none
theorem B4u {p:CV} {u:Value} {k:Nat} (hp:A5r p=true) (h:VRc R w p u):∃b o,u=.pointer (some ⟨b,o,none⟩)∧VRc R w (A9a k p) (.pointer (some ⟨b,o+k,none⟩)):=by
 cases p<;>simp[A5r] at hp
 · rename_i S t x o
   obtain⟨b,o',us,rfl,h1⟩:=h;exact⟨b,_,rfl,b,o',us,by rw[Nat.add_assoc],h1⟩
 · rename_i n o;exact⟨_,_,h,rfl⟩
 · rename_i n i wd o;exact⟨_,_,h,by simp[VRc,A9a,Nat.add_assoc]⟩
 · rename_i n i wd o j t x q
   obtain⟨b,l,cap,us,h1,h2,h3,rfl,h5⟩:=h;exact⟨b,_,rfl,b,l,cap,us,h1,h2,h3,by rw[Nat.add_assoc],h5⟩
theorem B3m {s:TypeId} {x:Operand} {f:Nat} {r:Res} (ho:o.op=.fieldAddr s x f) (h:A8I P σ s x f=some r) (hs:Sim R0 w0 R σ a w)
 (hK:∀R' v w',Done R w r.N r.M r.r r.news R' v w'→K (a.put o.dst v) w'):o.wp P a w K Q:=by
 have h1:=hs.ev x
 unfold A8I at h
 split at h
 · rename_i p e
   rw[e] at h1;simp only[VR] at h1
   split at h
   case isFalse=>cases h
   rename_i hp
   split at h
   · rename_i fs e1
     split at h
     · rename_i fd e2
       split at h
       · rename_i k e3
         cases h
         obtain⟨b,k',h2,h3⟩:=B4u (k:=fd.offset) hp h1
         refine E0 (v:=.pointer (some ⟨b,k'+fd.offset,none⟩)) hs ?_ (by simpa only [VR] using h3) hK
         unfold execOp;cases hq:P.info? fd.type with
         | none=>simp[P1,hq] at e3
         | some i =>
           have e4:i.size=k+1:=by simpa [P1,hq] using e3
           simp[ho,h2,Instr.fieldAt,run_underlying e1,e2,Instr.sureAddr,fieldPlace,sizeOf,typeInfo,hq,e4,Addr.add_mid]
       · cases h
     · cases h
   · cases h
 · cases h
def A7k (P:Program) (σ:St) (t:TypeId) (x:Operand):Option Res :=
 match σ.ev x with
 | .c p => match B33 σ p with
   | some (c, l, k) => match P.underlying t with
     | some (.struct _) => match P1 P t with
       | some n=>if k+n≤l.length then some ⟨c,.agg ((l.drop k).take n),[],[],[]⟩ else none
       | none=>none
     | some (.array ..)=>none
     | some _ => match l[k]? with
       | some cv=>some ⟨c,.c cv,[],[],[]⟩
       | none=>none
     | none=>none
   | none=>none
 | _=>none
theorem B0S {t:TypeId} {x:Operand} {r:Res} (h:A7k P σ t x=some r) (hc:r.c) (hs:Sim R0 w0 R σ a w) :
 ∃v b q,a.eval x=.pointer (some ⟨b,q,none⟩)∧(loadVar t ⟨b,q,none⟩).run P w=.ok v w∧VR R w r.r v∧r.N=[]∧r.M=[]∧r.news=[]:=by
 have h1:=hs.ev x
 unfold A7k at h
 split at h
 case h_2=>cases h
 rename_i p e
 rw[e] at h1;simp only[VR] at h1
 split at h
 case h_2=>cases h
 rename_i c l k hp
 have hcc:c:=by
  split at h
  · split at h
    · split at h<;>cases h
      exact hc
    · cases h
  · cases h
  · split at h<;>cases h
    exact hc
  · cases h
 obtain⟨b,q,us,h2,h3,h4⟩:=B5l hs h1 hp hcc
 have hul:=h3.length
 split at h
 · rename_i fs e1
   split at h
   case h_2=>cases h
   rename_i n e2
   split at h
   case isFalse=>cases h
   rename_i hle
   cases h
   have hlen:((us.drop k).take n).length=n:=by simp;omega
   have:=run_loadVar_mid (P:=P) w b (q+k) t ((us.drop k).take n) _ (fun j v hj=>by
    have hjn:j < n:=by have:=(List.getElem?_eq_some_iff.1 hj).1;omega
    rw[B8 hjn] at hj;rw[Nat.add_assoc,h4 _ (by omega)];exact hj) e1 rfl (by rw[hlen];exact e2)
   exact⟨_,b,q+k,h2,this,by simp only[VR];exact⟨_,rfl,by simpa using (h3.drop k).take n⟩,rfl,rfl,rfl⟩
 · cases h
 · rename_i d d1 d2 e1
   split at h
   case h_2=>cases h
   rename_i cv e2
   cases h
   have hk:=(List.getElem?_eq_some_iff.1 e2).1
   obtain⟨u,h5,h6⟩:=h3.get k e2
   have hag:(isAgg t).run P w=.ok false w:=by
    unfold isAgg;rw[Sem.run_bind,run_underlying e1 w];cases d<;>simp_all
   have h7:=h4 k hk
   rw[h5] at h7;exact⟨u,b,q+k,h2,by simp[loadVar,hag,h7],by simpa only [VR] using h6,rfl,rfl,rfl⟩
 · cases h
theorem B5F {t:TypeId} {x:Operand} {r:Res} (ho:o.op=.load t x) (h:A7k P σ t x=some r) (hc:r.c) (hs:Sim R0 w0 R σ a w)
 (hK:∀R' v w',Done R w r.N r.M r.r r.news R' v w'→K (a.put o.dst v) w'):o.wp P a w K Q:=by
 obtain⟨v,b,q,h1,h2,h3,h4,h5,h6⟩:=B0S h hc hs
 rw[h4,h5,h6] at hK;refine E0 hs ?_ h3 hK
 unfold execOp;simp[ho,h1,Instr.loadAt,Instr.sureAddr,h2]
end
open Go.RowKit
def B7G (P:Program) (σ:St) (tt:TypeId) (x ix:Operand):Option Res :=
 match σ.ev x,σ.ev ix with
 | .c (.rd S _ t xs), .c (.sc (.int _ i)) => match P.underlying tt with
   | some (.slice e)=>if P1 P e=some t.w then some ⟨0≤i∧i < xs.length,.c (.pt S t (xs.getD i.toNat t.dflt) 0),[],[],[]⟩ else none
   | _=>none
 | .c (.ow n), .c (.sc (.int _ i)) => match σ.look n with
   | some (.row _ t xs _) => match P.underlying tt with
     | some (.slice e)=>if P1 P e=some t.w then some ⟨0≤i∧i < xs.length,.c (.pe n i.toNat t.w 0),[],[],[]⟩ else none
     | _=>none
   | some (.tree _ t xs _) => match P.underlying tt with
     | some (.slice e)=>if P1 P e=some t.w then some ⟨0≤i∧i < xs.length,.c (.pe n i.toNat t.w 0),[],[],[]⟩ else none
     | _=>none
   | _=>none
 | .c (.sub n q wd o _ t xs), .c (.sc (.int _ i)) => match P.underlying tt with
   | some (.slice e)=>if P1 P e=some t.w then some ⟨0≤i∧i < xs.length,.c (.pi n q wd o i.toNat t (xs.getD i.toNat t.dflt) 0),[],[],[]⟩ else none
   | _=>none
 | _,_=>none
def B8R (P:Program) (σ:St) (tt:TypeId) (x:Operand):Option Res :=
 match σ.ev x with
 | .c p => match lenOf σ p with
   | some n => match p, P.underlying tt with
     | .sc (.string _),some .string=>N6 (.c (.sc (.int .i64 n)))
     | .sc (.string _),_=>none
     | _,some (.slice _)=>N6 (.c (.sc (.int .i64 n)))
     | _,_=>none
   | none=>none
 | _=>none
def A64 (σ:St) (d:Int):Option Operand→Option Int
 | none=>some d
 | some x => match σ.ev x with
   | .c (.sc (.int _ i))=>some i
   | _=>none
def x6 (σ:St):CV→List Nat
 | .rd S _ _ _=>S
 | .sub n _ _ _ _ _ _=>[n]
 | .ow n => match σ.look n with
   | some (.row _ _ _ S)=>n::S
   | some (.tree _ _ _ _)=>[n]
   | _=>[]
 | _=>[]
def A6Z (P:Program) (σ:St) (tt:TypeId) (x:Operand) (lo hi:Option Operand):Option Res :=
 match σ.ev x with
 | .c p => match d6 σ p with
   | some ⟨e', t, xs⟩ => match A64 σ 0 lo, A64 σ xs.length hi with
     | some l, some h => match P.underlying tt with
       | some (.slice e)=>if P1 P e=some t.w then some ⟨0≤l∧l≤h∧h≤xs.length,.c (.rd (x6 σ p) e' t ((xs.take h.toNat).drop l.toNat)),[],[],[]⟩ else none
       | _=>none
     | _,_=>none
   | none=>none
 | _=>none
def B34 (P:Program) (σ:St) (tt:TypeId) (x:Operand) (f:Nat):Option Res :=
 match σ.ev x with
 | .agg l => match P.underlying tt with
   | some (.struct fs) => match fs[f]? with
     | some fd => match P.underlying fd.type with
       | some (.struct _) => match P1 P fd.type with
         | some n=>if fd.offset+n≤l.length then N6 (.agg ((l.drop fd.offset).take n)) else none
         | none=>none
       | some (.array ..)=>none
       | some _ => match l[fd.offset]? with
         | some c=>N6 (.c c)
         | none=>none
       | none=>none
     | none=>none
   | _=>none
 | _=>none
section
variable {P:Program} {R0 R:Rz} {w0 w:World} {σ:St} {a:Act} {o:Oper} {K:Act→World→Prop} {Q:Exit→Act→World→Prop}
theorem V6 {t:TypeId} {n:Nat} (h:P1 P t=some n):∃i,P.info? t=some i∧i.size=n:=by
 cases hq:P.info? t with
 | none=>simp[P1,hq] at h
 | some i=>exact⟨i,rfl,by simpa [P1,hq] using h⟩
theorem o6 (hs:Sim R0 w0 R σ a w) {p:CV} {u:Value} (hp:VRc R w p u) {e:TypeId} {t:Ty} {xs:List t.den} (h:d6 σ p=some ⟨e,t,xs⟩) :
 Rd (okS R (x6 σ p)) w (.row e t) [u] xs:=by
 unfold d6 at h
 split at h
 · cases h;exact hp
 · cases h;exact hp.2.2.rd
 · rename_i n
   split at h
   · rename_i e' t' xs' S he
     cases h
     have ho:=hs.look he
     simp only[VRc] at hp
     have hsrc:x6 σ (.ow n)=n::S:=by simp[x6,he]
     rw[hsrc,hp];rcases ho with⟨h1,h2⟩|⟨cap,cur,h1,h2,h3,h4,h5,h6,h7⟩
     · subst h2;rw[h1];exact⟨none,0,rfl,by simp,by simp,fun h=>by simp at h⟩
     · rw[h1];refine⟨_,cap,rfl,h4,h5,fun h0=>⟨R.bk n,0,rfl,.inr (by rw[h2];simp),fun i hi=>?_⟩⟩
       refine⟨_,Rd.len (h7 i hi),fun j hj=>?_,(h7 i hi).frame fun b hb ho=>⟨?_,rfl⟩⟩
       · rw[B8 hj];simp[World.cell?,h3]
       · rcases ho with ho|ho
         · exact .inl ho
         · exact .inr (List.mem_cons_of_mem _ ho)
   · rename_i e' t' xs' he
     cases h
     have ho:=hs.look he
     simp only[VRc] at hp
     have hsrc:x6 σ (.ow n)=[n]:=by simp[x6,he]
     rw[hsrc,hp];rcases ho with⟨h1,h2⟩|⟨cap,cur,h1,h2,h3,h4,h5,h6,h7,h8⟩
     · subst h2;rw[h1];exact⟨none,0,rfl,by simp,by simp,fun h=>by simp at h⟩
     · rw[h1];refine⟨_,cap,rfl,h4,h5,fun h0=>⟨R.bk n,0,rfl,.inr (by rw[h2];simp),fun i hi=>?_⟩⟩
       have h9:=(h7 i hi (by simp[j5])).rd
       refine⟨_,Rd.len h9,fun j hj=>?_,h9⟩
       rw[B8 hj];simp[World.cell?,h3]
   · cases h
 · cases h
def B2j (P:Program) (σ:St) (tt:TypeId) (x ix:Operand):Option Res :=
 match σ.ev x,σ.ev ix with
 | .c (.sc (.string s)), .c (.sc (.int _ i)) => match P.underlying tt with
   | some .string=>some ⟨0≤i∧i < s.size,.c (.sc (.int .u8 ((s.data.getD i.toNat 0).toNat:Int))),[],[],[]⟩
   | _=>none
 | _,_=>none
theorem B5R {tt:TypeId} {x ix:Operand} {r:Res} (ho:o.op=.index tt x ix) (h:B2j P σ tt x ix=some r) (hc:r.c) (hs:Sim R0 w0 R σ a w)
 (hK:∀R' v w',Done R w r.N r.M r.r r.news R' v w'→K (a.put o.dst v) w'):o.wp P a w K Q:=by
 have h1:=hs.ev x
 have h2:=hs.ev ix
 unfold B2j at h
 split at h
 case h_2=>cases h
 rename_i s k i e1 e2
 rw[e1] at h1;rw[e2] at h2
 simp only[VR,VRc] at h1 h2
 split at h
 case h_2=>cases h
 rename_i e3
 cases h
 obtain⟨c0,c1⟩:=hc;have hlt:i.toNat < s.size:=by omega
 have hb:s[i.toNat]?=some (s.data.getD i.toNat 0):=by
  have hd:i.toNat < s.data.size:=hlt
  have hg:s.data.getD i.toNat 0=s.data[i.toNat]:=by unfold Array.getD;rw[dif_pos hd];rfl
  rw[getElem?_pos s i.toNat hlt,hg];rfl
 refine E0 (v:=.int .u8 ((s.data.getD i.toNat 0).toNat:Int)) hs ?_ (by simp[VR,VRc]) hK
 unfold execOp;simp[ho,h1,h2,Instr.index,run_underlying e3,asIntOf,c0,hb]
theorem B72 {tt:TypeId} {x ix:Operand} {r:Res} (ho:o.op=.indexAddr tt x ix) (h:B7G P σ tt x ix=some r) (hc:r.c) (hs:Sim R0 w0 R σ a w)
 (hK:∀R' v w',Done R w r.N r.M r.r r.news R' v w'→K (a.put o.dst v) w'):o.wp P a w K Q:=by
 have h1:=hs.ev x
 have h2:=hs.ev ix
 unfold B7G at h
 split at h
 · rename_i S e' t xs k i e1 e2
   rw[e1] at h1;rw[e2] at h2
   simp only[VR,VRc] at h1 h2
   split at h
   case h_2=>cases h
   rename_i e e3
   split at h
   case isFalse=>cases h
   rename_i e4
   cases h
   obtain⟨c0,c1⟩:=hc;obtain⟨ad,cap,h3,h4,h4',h5⟩:=h1;simp only[List.cons.injEq,and_true] at h3
   obtain⟨b,q,rfl,hb,h6⟩:=h5 (by omega)
   obtain⟨vs,h7,h8,h9⟩:=h6 i.toNat (by omega)
   obtain⟨ie,e5,e6⟩:=V6 e4
   refine E0 (v:=.pointer (some ⟨b,q+i.toNat * t.w,none⟩)) hs ?_ ?_ hK
   · unfold execOp;simp[ho,h2,h3,Instr.indexAt,run_underlying e3,asIntOf,c0,c1,sizeOf,typeInfo,e5,e6,Addr.add_mid]
   · simp only[VR,VRc];refine⟨b,q+i.toNat * t.w,vs,rfl,hb,h7,h8,?_⟩
     have:xs.getD i.toNat t.dflt=xs[i.toNat]'(by omega):=by simp[List.getD,(by omega:i.toNat < xs.length)]
     rw[this];exact h9
 · rename_i n k i e1 e2
   rw[e1] at h1;rw[e2] at h2
   simp only[VR,VRc] at h1 h2
   split at h
   · rename_i e' t xs S he
     split at h
     case h_2=>cases h
     rename_i e e3
     split at h
     case isFalse=>cases h
     rename_i e4
     cases h
     obtain⟨c0,c1⟩:=hc;obtain⟨ie,e5,e6⟩:=V6 e4
     rcases hs.look he with⟨h3,h4⟩|⟨cap,cur,h3,h4,_⟩
     · subst h4;simp at c1;omega
     refine E0 (v:=.pointer (some ⟨R.bk n,i.toNat * t.w,none⟩)) hs ?_ (by simp[VR,VRc]) hK
     unfold execOp;simp[ho,h2,h1,h3,Instr.indexAt,run_underlying e3,asIntOf,c0,c1,sizeOf,typeInfo,e5,e6,Addr.add_mid]
   · rename_i e' t xs S he
     split at h
     case h_2=>cases h
     rename_i e e3
     split at h
     case isFalse=>cases h
     rename_i e4
     cases h
     obtain⟨c0,c1⟩:=hc;obtain⟨ie,e5,e6⟩:=V6 e4
     rcases hs.look he with⟨h3,h4⟩|⟨cap,cur,h3,h4,_⟩
     · subst h4;simp at c1;omega
     refine E0 (v:=.pointer (some ⟨R.bk n,i.toNat * t.w,none⟩)) hs ?_ (by simp[VR,VRc]) hK
     unfold execOp;simp[ho,h2,h1,h3,Instr.indexAt,run_underlying e3,asIntOf,c0,c1,sizeOf,typeInfo,e5,e6,Addr.add_mid]
   · cases h
 · rename_i n q wd oo e' t xs k i e1 e2
   rw[e1] at h1;rw[e2] at h2
   simp only[VR,VRc] at h1 h2
   split at h
   case h_2=>cases h
   rename_i e e3
   split at h
   case isFalse=>cases h
   rename_i e4
   cases h
   obtain⟨c0,c1⟩:=hc;obtain⟨ie,e5,e6⟩:=V6 e4
   obtain⟨g1,g2,g3⟩:=h1;rcases g3 with⟨h3,h4⟩|⟨b,cap,cur,h3,h4,h5,h6,h7,h8,h9⟩
   · subst h4;simp at c1;omega
   have hi:i.toNat < xs.length:=by omega
   have hx:xs.getD i.toNat t.dflt=xs[i.toNat]:=by simp[List.getD,hi]
   refine E0 (v:=.pointer (some ⟨b,i.toNat * t.w,none⟩)) hs ?_ ?_ hK
   · unfold execOp;simp[ho,h2,h3,Instr.indexAt,run_underlying e3,asIntOf,c0,c1,sizeOf,typeInfo,e5,e6,Addr.add_mid]
   · simp only[VR,VRc];rw[hx];have h10:=h9 _ hi
     refine⟨b,_,_,_,by rw[g1,h3],g2,h4,rfl,h10.len,fun q hq=>?_,h10.frame fun b hb ho=>⟨?_,rfl⟩⟩
     · rw[B8 hq];simp[World.cell?,h5]
     · rcases ho with ho|ho
       · exact .inl ho
       · cases ho
 · cases h
theorem B7c {tt t':TypeId} {x:Operand} {r:Res} (ho:o.op=.call { callee:=.builtin .len,args:=#[x],argTypes:=#[tt] }) (h:B8R P σ tt x=some r) (hs:Sim R0 w0 R σ a w)
 (hK:∀R' v w',Done R w r.N r.M r.r r.news R' v w'→K (a.put o.dst v) w'):o.wp P a w K Q:=by
 have h1:=hs.ev x
 unfold B8R at h
 split at h
 case h_2=>cases h
 rename_i p e1
 rw[e1] at h1;simp only[VR] at h1
 split at h
 case h_2=>cases h
 rename_i n e2
 have key:(∃s,a.eval x=.string s∧s.size=n∧∃s',p=.sc (.string s'))∨(∃ad cap,a.eval x=.slice ad n cap∧∀s,p≠.sc (.string s)):=by
  unfold lenOf at e2
  split at e2
  · cases e2;exact .inl ⟨_,h1,rfl,_,rfl⟩
  · cases e2;exact .inr ⟨_,_,h1,fun s h=>by cases h⟩
  · cases e2
    obtain⟨ad,cap,h3,_⟩:=h1;simp only[List.cons.injEq,and_true] at h3
    exact .inr ⟨ad,cap,h3,fun s h=>by cases h⟩
  · cases e2
    obtain⟨_,_,h3⟩:=h1;rcases h3 with⟨h3,h4⟩|⟨b,cap,cur,h3,_⟩
    · subst h4;exact .inr ⟨none,0,h3,fun s h=>by cases h⟩
    · exact .inr ⟨_,cap,h3,fun s h=>by cases h⟩
  · rename_i m
    split at e2
    · rename_i e' t xs S he
      cases e2
      rcases hs.look he with⟨h3,h4⟩|⟨cap,cur,h3,h4,_⟩
      · subst h4;exact .inr ⟨none,0,by rw[show a.eval x=R.hd m from h1,h3];rfl,fun s h=>by cases h⟩
      · exact .inr ⟨_,cap,by rw[show a.eval x=R.hd m from h1,h3],fun s h=>by cases h⟩
    · rename_i e' t xs S he
      cases e2
      rcases hs.look he with⟨h3,h4⟩|⟨cap,cur,h3,h4,_⟩
      · subst h4;exact .inr ⟨none,0,by rw[show a.eval x=R.hd m from h1,h3];rfl,fun s h=>by cases h⟩
      · exact .inr ⟨_,cap,by rw[show a.eval x=R.hd m from h1,h3],fun s h=>by cases h⟩
    · cases e2
  · cases e2
 have fin:∀(hr:(execOp a.eval o).run P w=.ok (.value (.int .i64 n)) w),r=⟨True,.c (.sc (.int .i64 n)),[],[],[]⟩→o.wp P a w K Q:=by
  intro hr e
  subst e;exact E0 hs hr (by simp[VR,VRc]) hK
 have step:execOp a.eval o=(do pure (.value (←Builtin.len_ #[tt] o.type #[a.eval x]))):=by
  unfold execOp;simp[ho,resolve,invoke,builtin]
 rcases key with⟨s,h3,h4,s',hp⟩|⟨ad,cap,h3,hp⟩
 · subst hp
   split at h
   · rename_i q1 q2 q3
     refine fin ?_ (by cases h;rfl)
     rw[step];simp[Builtin.len_,h3,run_underlying q3,goInt,h4]
   · cases h
   · exfalso;simp_all
   · cases h
 · split at h
   · rename_i q1 q2 q3;exact absurd rfl (hp _)
   · cases h
   · rename_i q1 q2 q3 q4
     refine fin ?_ (by cases h;rfl)
     rw[step];simp[Builtin.len_,h3,run_underlying ‹_›,goInt]
   · cases h
theorem B2V (hs:Sim R0 w0 R σ a w) {d i:Int} {x:Option Operand} (h:A64 σ d x=some i):(x=none∧i=d)∨∃y k,x=some y∧a.eval y=.int k i:=by
 unfold A64 at h
 split at h
 · cases h;exact .inl ⟨rfl,rfl⟩
 · rename_i y
   have h1:=hs.ev y
   split at h
   · rename_i k j e
     cases h
     rw[e] at h1;exact .inr ⟨_,k,rfl,h1⟩
   · cases h
theorem B4d {tt:TypeId} {x:Operand} {lo hi:Option Operand} {r:Res} (ho:o.op=.slice tt x lo hi none) (h:A6Z P σ tt x lo hi=some r) (hc:r.c) (hs:Sim R0 w0 R σ a w)
 (hK:∀R' v w',Done R w r.N r.M r.r r.news R' v w'→K (a.put o.dst v) w'):o.wp P a w K Q:=by
 have h1:=hs.ev x
 unfold A6Z at h
 split at h
 case h_2=>cases h
 rename_i p e1
 rw[e1] at h1;simp only[VR] at h1
 split at h
 case h_2=>cases h
 rename_i e' t xs e2
 split at h
 case h_2=>cases h
 rename_i l hh e3 e4
 split at h
 case h_2=>cases h
 rename_i e e5
 split at h
 case isFalse=>cases h
 rename_i e6
 cases h
 obtain⟨c0,c1,c2⟩:=hc;obtain⟨ie,e7,e8⟩:=V6 e6
 have hr:=o6 hs h1 e2
 have hw:=t.w_pos
 obtain⟨ad,cap,h2,h3,h3',h4⟩:=hr;simp only[List.cons.injEq,and_true] at h2
 have hlen:((xs.take hh.toNat).drop l.toNat).length=hh.toNat - l.toNat:=by simp;omega
 have hlo:∃lv:Option Value,lo.map a.eval=lv∧(lv=none∧l=0∨∃k,lv=some (.int k l)):=by
  rcases B2V hs e3 with⟨rfl,rfl⟩|⟨y,k,rfl,h5⟩
  · exact⟨none,rfl,.inl ⟨rfl,rfl⟩⟩
  · exact⟨_,rfl,.inr ⟨k,by simp[h5]⟩⟩
 have hhi:∃hv:Option Value,hi.map a.eval=hv∧(hv=none∧hh=xs.length∨∃k,hv=some (.int k hh)):=by
  rcases B2V hs e4 with⟨rfl,rfl⟩|⟨y,k,rfl,h5⟩
  · exact⟨none,rfl,.inl ⟨rfl,rfl⟩⟩
  · exact⟨_,rfl,.inr ⟨k,by simp[h5]⟩⟩
 obtain⟨lv,el,hlv⟩:=hlo;obtain⟨hv,eh,hhv⟩:=hhi
 have hb:(Instr.sliceBounds true xs.length cap lv hv none).run P w=.ok (l.toNat,hh.toNat,cap) w:=by
  have b1:∀k,(Instr.sliceBound (.int k hh) cap .sliceAcap).run P w=.ok hh.toNat w:=fun k=>by
   simp[Instr.sliceBound,asIntOf];omega
  have b2:∀k,(Instr.sliceBound (.int k l) hh.toNat .sliceB).run P w=.ok l.toNat w:=fun k=>by
   simp[Instr.sliceBound,asIntOf];omega
  have b3:∀k,(Instr.sliceBound (.int k l) xs.length .sliceB).run P w=.ok l.toNat w:=fun k=>by
   simp[Instr.sliceBound,asIntOf];omega
  rcases hlv with⟨rfl,rfl⟩|⟨k,rfl⟩<;>rcases hhv with⟨rfl,rfl⟩|⟨k',rfl⟩<;>simp[Instr.sliceBounds,b1,b2,b3]
 refine E0 (v:=.slice (if cap=l.toNat then ad else ad.map (·.add (l.toNat * t.w))) (hh.toNat - l.toNat) (cap - l.toNat)) hs ?_ ?_ hK
 · unfold execOp;simp[ho,h2,el,eh,Instr.sliceAt,run_underlying e5,Instr.slice,hb,sizeOf,typeInfo,e7,e8]
 · simp only[VR,VRc];refine⟨_,cap - l.toNat,by rw[hlen],by rw[hlen];omega,by omega,fun h0=>?_⟩
   rw[hlen] at h0;obtain⟨b,q,rfl,hb,h6⟩:=h4 (by omega)
   have hne:¬cap=l.toNat:=by omega
   refine⟨b,q+l.toNat * t.w,by simp[hne,Addr.add_mid],hb,fun i hi=>?_⟩
   rw[hlen] at hi;obtain⟨vs,h7,h8,h9⟩:=h6 (l.toNat+i) (by omega)
   refine⟨vs,h7,fun j hj=>?_,by simpa using h9⟩
   rw[←h8 j hj,Nat.add_mul]
   congr 2
   omega
theorem B5w {tt:TypeId} {x:Operand} {f:Nat} {r:Res} (ho:o.op=.field tt x f) (h:B34 P σ tt x f=some r) (hs:Sim R0 w0 R σ a w)
 (hK:∀R' v w',Done R w r.N r.M r.r r.news R' v w'→K (a.put o.dst v) w'):o.wp P a w K Q:=by
 have h1:=hs.ev x
 unfold B34 at h
 split at h
 case h_2=>cases h
 rename_i l e1
 rw[e1] at h1;simp only[VR] at h1
 obtain⟨us,h2,h3⟩:=h1;have hul:=h3.length
 split at h
 case h_2=>cases h
 rename_i fs e2
 split at h
 case h_2=>cases h
 rename_i fd e3
 split at h
 · rename_i q e4
   split at h
   case h_2=>cases h
   rename_i n e5
   split at h
   case isFalse=>cases h
   rename_i hle
   cases h
   obtain⟨ie,e7,e8⟩:=V6 e5
   refine E0 (v:=.agg (us.extract fd.offset (fd.offset+n))) hs ?_ ?_ hK
   · unfold execOp
     have hag:(isAgg fd.type).run P w=.ok true w:=by
      unfold isAgg;rw[Sem.run_bind,run_underlying e4 w];simp
     simp[ho,h2,Instr.field,run_underlying e2,e3,asAgg,part,hag,sizeOf,typeInfo,e7,e8]
   · simp only[VR];refine⟨_,rfl,?_⟩
     have:=(h3.drop fd.offset).take n
     rw[Array.toList_extract]
     simpa [List.extract,Nat.add_sub_cancel_left] using this
 · cases h
 · rename_i d d1 d2 e4
   split at h
   case h_2=>cases h
   rename_i c e5
   cases h
   obtain⟨u,h5,h6⟩:=h3.get _ e5
   rw[Array.getElem?_toList] at h5
   refine E0 (v:=u) hs ?_ (by simpa only [VR] using h6) hK
   unfold execOp
   have hag:(isAgg fd.type).run P w=.ok false w:=by
    unfold isAgg;rw[Sem.run_bind,run_underlying e4 w];cases d<;>simp_all
   simp[ho,h2,Instr.field,run_underlying e2,e3,asAgg,part,hag,h5]
 · cases h
end
open Go.RowKit
def Rz.nw (R:Rz) (n b:Nat) (v:Value):Rz :=
  { root:=fun x=>if x=b then n else if R.root x=n then 1 else R.root x
    hd:=fun m=>if m=n then v else R.hd m
    bk:=fun m=>if m=n then b else R.bk m }
theorem B58 (R:Rz) (w:World) (n:Nat) (hn:100≤n) (v:Value) (o:Obj):FR [n] [n] R w (R.nw n w.heap.size v) (w.alloc o):=by
 refine⟨rfl,rfl,rfl,by simp,fun b hb hr=>⟨heap_alloc_old w o hb,?_⟩,fun m hm=>?_,fun m hm=>?_⟩
 · have h1:b≠w.heap.size:=by omega
   simp only[List.mem_singleton] at hr
   simp[Rz.nw,h1,hr]
 · simp only[List.mem_singleton] at hm
   simp[Rz.nw,hm]
 · have:m≠n:=by omega
   simp[Rz.nw,this]
def nm (d:Option Tmp):Nat:=100+16 * d.getD 0
theorem B31 (d:Option Tmp):5 < nm d:=by unfold nm;omega
theorem A4o (d:Option Tmp):100≤nm d:=by unfold nm;omega
def A0x:AV→Option (List CV)
 | .c x=>some [x]
 | .agg l=>some l
 | .tup _=>none
def y4 (σ:St):CV→Bool
 | .sc v=>v.oneCell'
 | .ow n => match σ.look n with
   | some (.row _ _ _ _)=>true
   | some (.tree _ _ _ _)=>true
   | some (.map _ _ _)=>true
   | _=>false
 | .bot=>false
 | _=>true
section
variable {P:Program} {R0 R:Rz} {w0 w:World} {σ:St} {a:Act} {o:Oper} {K:Act→World→Prop} {Q:Exit→Act→World→Prop}
theorem A8A {u:Value} (h:u.oneCell'=true):u.cells=#[u]:=by cases u<;>simp_all [Value.oneCell',Value.cells]
theorem B0w {c:CV} {u:Value} (hs:Sim R0 w0 R σ a w) (hc:VRc R w c u) (h:y4 σ c=true):u.oneCell'=true:=by
 cases c with
 | sc v=>cases hc;exact h
 | rd S e t xs=>obtain⟨ad,cap,h1,_⟩:=hc;simp only[List.cons.injEq,and_true] at h1;subst h1;rfl
 | pt S t x k=>obtain⟨b,q,us,rfl,_⟩:=hc;rfl
 | ow n =>
   simp only[y4] at h
   split at h
   · rename_i e t xs S he
     have hc:u=R.hd n:=hc
     rcases hs.look he with⟨h1,_⟩|⟨cap,cur,h1,_⟩<;>rw[hc,h1]<;>rfl
   · rename_i e t xs S he
     have hc:u=R.hd n:=hc
     rcases hs.look he with⟨h1,_⟩|⟨cap,cur,h1,_⟩<;>rw[hc,h1]<;>rfl
   · rename_i t xs S he
     have hc:u=R.hd n:=hc
     obtain⟨es,ck,h1,_⟩:=hs.look he
     rw[hc,h1];rfl
   · cases h
 | po n k=>cases hc;rfl
 | pe n i wd k=>cases hc;rfl
 | sub n i wd o e t xs=>obtain⟨_,_,h1⟩:=hc;rcases h1 with⟨rfl,_⟩|⟨b,cap,cur,rfl,_⟩<;>rfl
 | pi n i wd o j t x k=>obtain⟨b,l,cap,us,_,_,_,rfl,_⟩:=hc;rfl
 | fn f l=>cases hc;rfl
 | bot=>cases h
theorem T6 {x:AV} {u:Value} {l:List CV} (hs:Sim R0 w0 R σ a w) (hx:VR R w x u) (h:A0x x=some l) (hl:l.all (y4 σ)=true):VRs R w l u.cells.toList∧(∀v∈u.cells.toList,v.oneCell'=true):=by
 have all1:∀{l:List CV} {us:List Value},VRs R w l us→l.all (y4 σ)=true→∀v∈us,v.oneCell'=true:=by
  intro l
  induction l with
  | nil=>intro us h _ v hv;simp only[VRs] at h;subst h;cases hv
  | cons c l ih =>
    intro us h hl v hv
    obtain⟨u,us',rfl,h1,h2⟩:=h;simp only[List.all_cons,Bool.and_eq_true] at hl
    rcases List.mem_cons.1 hv with rfl|hv
    · exact B0w hs h1 hl.1
    · exact ih h2 hl.2 v hv
 cases x with
 | c p =>
   cases h
   simp only[VR] at hx
   simp only[List.all_cons,List.all_nil,Bool.and_true] at hl
   have h1:=B0w hs hx hl
   rw[A8A h1];exact⟨⟨u,[],rfl,hx,rfl⟩,by simpa using h1⟩
 | agg q =>
   cases h
   simp only[VR] at hx
   obtain⟨us,rfl,h1⟩:=hx;exact⟨h1,all1 h1 hl⟩
 | tup q=>cases h
def A07 (n:Nat) (l:List CV):Res:=⟨True,.c (.po n 0),[n],[n],[(n,.box (l.map (CV.kill [n] [n])))]⟩
theorem A7S {n:Nat} {l:List CV} {us:Array Value} {T:TypeId} (hs:Sim R0 w0 R σ a w) (hn:100≤n) (h:VRs R w l us.toList)
 (hrun:(execOp a.eval o).run P w=.ok (.value (.pointer (some ⟨w.heap.size,0,none⟩))) (w.alloc (.cells us T)))
 (hK:∀R' v w',Done R w (A07 n l).N (A07 n l).M (A07 n l).r (A07 n l).news R' v w'→K (a.put o.dst v) w'):o.wp P a w K Q:=by
 have hf:=B58 R w n hn undef (.cells us T)
 have h0:(0:Nat) ∉ [n]:=by simp;omega
 refine V7 hs hrun hf (by simp[A07];omega) ?_ ?_ hK
 · simp[A07,VR,VRc,Rz.nw]
 · intro p hp
   simp only[A07,List.mem_singleton] at hp
   subst hp;refine⟨us,T,?_,?_,h.kill hf h0⟩
   · simp only[Rz.nw,if_true];exact heap_alloc_new w _
   · simp[Rz.nw]
def B8B (σ:St) (d:Option Tmp) (x:Operand):Option Res :=
 match A0x (σ.ev x) with
 | some l=>if l.all (y4 σ) then some (A07 (nm d) l) else none
 | none=>none
theorem B8O {t:TypeId} {x:Operand} {r:Res} (ho:o.op=.box t x) (h:B8B σ o.dst x=some r) (hs:Sim R0 w0 R σ a w)
 (hK:∀R' v w',Done R w r.N r.M r.r r.news R' v w'→K (a.put o.dst v) w'):o.wp P a w K Q:=by
 have h1:=hs.ev x
 unfold B8B at h
 split at h
 case h_2=>cases h
 rename_i l e1
 split at h
 case isFalse=>cases h
 rename_i hl
 cases h
 refine A7S (us:=(a.eval x).cells) (T:=t) hs (A4o _) (T6 hs h1 e1 hl).1 ?_ hK
 unfold execOp;simp[ho,Instr.box,newVar,newRow]
def H7 (P:Program) (t:TypeId):Option (List Value):=((P.info? t).bind (·.zero)).map fun z=>z.cells.toList
theorem V5 {t:TypeId} {l:List Value} (h:H7 P t=some l):∃i z,P.info? t=some i∧i.zero=some z∧z.cells.toList=l:=by
 cases hq:P.info? t with
 | none=>simp[H7,hq] at h
 | some i =>
   cases hz:i.zero with
   | none=>simp[H7,hq,hz] at h
   | some z=>exact⟨i,z,rfl,hz,by simpa [H7,hq,hz] using h⟩
def A8b (P:Program) (d:Option Tmp) (t:TypeId):Option Res :=
 match H7 P t with
 | some l=>some (A07 (nm d) (l.map .sc))
 | none=>none
theorem VRs.scs (l:List Value):VRs R w (l.map .sc) l:=by
 induction l with
 | nil=>rfl
 | cons v l ih=>exact⟨v,l,rfl,rfl,ih⟩
theorem B3x {t:TypeId} {r:Res} (ho:o.op=.alloc t) (h:A8b P o.dst t=some r) (hs:Sim R0 w0 R σ a w)
 (hK:∀R' v w',Done R w r.N r.M r.r r.news R' v w'→K (a.put o.dst v) w'):o.wp P a w K Q:=by
 unfold A8b at h
 split at h
 case h_2=>cases h
 rename_i l e1
 cases h
 obtain⟨i,z,e2,e3,e4⟩:=V5 e1
 refine A7S (us:=z.cells) (T:=t) hs (A4o _) (by rw[e4];exact VRs.scs l) ?_ hK
 unfold execOp;simp[ho,Instr.alloc,zeroValue,typeInfo,e2,e3,newVar,newRow]
def A43 (σ:St):List Operand→Option (List Nat)
 | []=>some []
 | x :: l => match σ.ev x, A43 σ l with
   | .c (.po n 0),some ns=>some (n::ns)
   | _,_=>none
def B36 (σ:St) (f:FuncId) (caps:List Operand):Option Res :=
 match A43 σ caps with
 | some ns=>N6 (.c (.fn f ns))
 | none=>none
theorem B45 (hs:Sim R0 w0 R σ a w):∀{l:List Operand} {ns:List Nat},A43 σ l=some ns→l.map a.eval=ns.map fun n=>Value.pointer (some ⟨R.bk n,0,none⟩):=by
 intro l
 induction l with
 | nil=>intro ns h;simp only[A43,Option.some.injEq] at h;subst h;rfl
 | cons x l ih =>
   intro ns h
   have h1:=hs.ev x
   simp only[A43] at h
   split at h
   · rename_i n ns' e1 e2
     cases h
     rw[e1] at h1;simp only[VR,VRc] at h1
     simp[h1,ih e2]
   · cases h
theorem B5c {f:FuncId} {caps:Array Operand} {r:Res} (ho:o.op=.makeFunc (.func f) #[] caps) (h:B36 σ f caps.toList=some r) (hs:Sim R0 w0 R σ a w)
 (hK:∀R' v w',Done R w r.N r.M r.r r.news R' v w'→K (a.put o.dst v) w'):o.wp P a w K Q:=by
 unfold B36 at h
 split at h
 case h_2=>cases h
 rename_i ns e1
 cases h
 refine E0 (v:=.func (.func f) #[] (caps.map a.eval)) hs ?_ ?_ hK
 · unfold execOp;simp[ho,Instr.makeFunc]
 · simp only[VR,VRc];rw[←B45 hs e1]
   congr 1
   exact Array.ext' (by simp)
def splice {α:Type} (l:List α) (k:Nat) (cs:List α):List α:=l.take k++cs++l.drop (k+cs.length)
theorem VRs.splice {l cs:List CV} {us vs:List Value} (h:VRs R w l us) (k:Nat) (hc:VRs R w cs vs):VRs R w (splice l k cs) (splice us k vs):=by
 unfold Go.Proofs.YtenjbehedcegdaaGreat.splice
 rw[hc.length];exact((h.take k).append hc).append (h.drop _)
theorem O8 {α:Type} (l cs:List α) (k:Nat) (hk:k+cs.length≤l.length) (q:Nat) :
 (splice l k cs)[q]?=if k≤q∧q < k+cs.length then cs[q - k]? else l[q]?:=by
 unfold splice;have ht:(l.take k).length=k:=by simp;omega
 by_cases h1:q < k
 · rw[if_neg (by omega),List.append_assoc,List.getElem?_append_left (by omega),List.getElem?_take_of_lt h1]
 · by_cases h2:q < k+cs.length
   · rw[if_pos (by omega),List.append_assoc,List.getElem?_append_right (by omega),ht,List.getElem?_append_left (by omega)]
   · rw[if_neg (by omega),List.getElem?_append_right (by simp;omega),List.getElem?_drop]
     congr 1
     simp only[List.length_append,ht];omega
theorem O9 {α:Type} (l cs:List α) (k:Nat) (hk:k+cs.length≤l.length):(splice l k cs).length=l.length:=by
 unfold splice;simp;omega
def A7Y (pl:List (Nat × Nat)) (l:List CV):List (Nat × AV)→Option (List CV)
 | []=>some l
 | (i, v) :: rest => match pl[i]?, A0x v with
   | some (off,size),some cs=>if cs.length=size∧off+cs.length≤l.length then A7Y pl (splice l off cs) rest else none
   | _,_=>none
theorem A4p (l:List Value):∀(cs:Array Value) (off j:Nat),off+j+l.length≤cs.size →
 ((l.zipIdx j).foldl (fun cs (c,i)=>cs.setIfInBounds (off+i) c) cs).toList=splice cs.toList (off+j) l:=by
 induction l with
 | nil=>intro cs off j h;simp[splice]
 | cons v l ih =>
   intro cs off j h
   simp only[List.length_cons] at h
   rw[List.zipIdx_cons,List.foldl_cons,ih _ off (j+1) (by simp;omega)]
   apply List.ext_getElem?
   intro q;rw[O8 _ _ _ (by simp;omega),O8 _ _ _ (by simp;omega)]
   simp only[List.length_cons,Array.toList_setIfInBounds]
   by_cases h1:q=off+j
   · subst h1;rw[if_neg (by omega),if_pos (by omega),List.getElem?_set_self (by simp;omega)];simp
   · by_cases h2:off+j≤q∧q < off+j+(l.length+1)
     · rw[if_pos (by omega),if_pos h2]
       obtain⟨d,hd⟩:∃d,q - (off+j)=d+1:=⟨q - (off+j) - 1,by omega⟩
       rw[hd,List.getElem?_cons_succ]
       congr 1;omega
     · rw[if_neg (by omega),if_neg h2,List.getElem?_set_ne (by omega)]
theorem B5r (hs:Sim R0 w0 R σ a w) (pl:List (Nat × Nat)):∀(parts:List (Nat × Operand)) (l l':List CV) (us:Array Value),
 VRs R w l us.toList→A7Y pl l (parts.map fun p=>(p.1,σ.ev p.2))=some l'→(∀p∈parts,∀cs,A0x (σ.ev p.2)=some cs→cs.all (y4 σ)=true) →
 ∃us':Array Value,Instr.fill (pl.toArray[·]?) us (parts.map fun p=>(p.1,a.eval p.2))=some us'∧VRs R w l' us'.toList:=by
 intro parts
 induction parts with
 | nil=>intro l l' us h1 h2 _;simp only[List.map_nil,A7Y,Option.some.injEq] at h2;subst h2;exact⟨us,rfl,h1⟩
 | cons p parts ih =>
   intro l l' us h1 h2 h3
   obtain⟨i,x⟩:=p;simp only[List.map_cons,A7Y] at h2
   split at h2
   case h_2=>cases h2
   rename_i off size cs e1 e2
   split at h2
   case isFalse=>cases h2
   rename_i hle
   have h4:=(T6 hs (hs.ev x) e2 (h3 _ List.mem_cons_self cs e2)).1
   have hl4:=h4.length
   have hl1:=h1.length
   simp only[Array.length_toList] at hl4 hl1
   have hf:((a.eval x).cells.zipIdx.foldl (fun cs (c,j)=>cs.setIfInBounds (off+j) c) us).toList=splice us.toList off (a.eval x).cells.toList:=by
    have:=A4p (a.eval x).cells.toList us off 0 (by simp;omega)
    rw[Nat.add_zero] at this;rw[←this,←Array.foldl_toList];simp
   obtain⟨us',k1,k2⟩:=ih (splice l off cs) l' ((a.eval x).cells.zipIdx.foldl (fun cs (c,j)=>cs.setIfInBounds (off+j) c) us) (by rw[hf];exact h1.splice off h4) h2 (fun p hp=>h3 p (List.mem_cons_of_mem _ hp))
   refine⟨us',?_,k2⟩
   have hcond:¬((a.eval x).cells.size≠size∨off+(a.eval x).cells.size > us.size):=by
    rintro (h|h)
    · exact h (hl4.trans hle.1)
    · rw[hl4,hl1] at h;exact absurd hle.2 (by omega)
   simp only[List.map_cons,Instr.fill,List.getElem?_toArray,e1];rw[if_neg (by simpa using hcond)]
   simpa only [List.getElem?_toArray] using k1
def U0 (P:Program) (t:TypeId):Option (List (Nat × Nat)) :=
 match P.underlying t with
 | some (.struct fs)=>fs.toList.mapM fun f=>(P.info? f.type).map fun i=>(f.offset,i.size)
 | _=>none
def B0t (σ:St) (parts:List (Nat × Operand)):Bool:=parts.all fun p=>match A0x (σ.ev p.2) with
 | some cs=>cs.all (y4 σ)
 | none=>false
def A82 (P:Program) (σ:St) (t:TypeId) (parts:List (Nat × Operand)):Option Res :=
 match H7 P t,U0 P t with
 | some z, some pl => if B0t σ parts then match A7Y pl (z.map .sc) (parts.map fun p => (p.1, σ.ev p.2)) with
   | some l=>N6 (.agg l)
   | none=>none else none
 | _,_=>none
theorem B3r {t:TypeId} {parts:Array (Nat × Operand)} {r:Res} (ho:o.op=.build t parts) (h:A82 P σ t parts.toList=some r) (hs:Sim R0 w0 R σ a w)
 (hK:∀R' v w',Done R w r.N r.M r.r r.news R' v w'→K (a.put o.dst v) w'):o.wp P a w K Q:=by
 unfold A82 at h
 split at h
 case h_2=>cases h
 rename_i z pl e1 e2
 split at h
 case isFalse=>cases h
 rename_i hone
 split at h
 case h_2=>cases h
 rename_i l e3
 cases h
 obtain⟨i,zv,e4,e5,e6⟩:=V5 e1
 unfold U0 at e2
 split at e2
 case h_2=>cases e2
 rename_i fs e7
 obtain⟨us',k1,k2⟩:=B5r hs pl parts.toList (z.map .sc) l zv.cells (by rw[e6];exact VRs.scs z) e3 (fun p hp cs hcs=>by
  have:=List.all_eq_true.1 hone p hp
  rw[hcs] at this;exact this)
 refine E0 (v:=.agg us') hs ?_ (by simp only[VR];exact⟨_,rfl,k2⟩) hK
 unfold execOp;simp only[ho,Sem.run_bind]
 rw[run_build w t _ us' (by
  simp only[Program.built,e4,e7,e5,e2];rw[←k1]
  congr 1
  simp)]
 simp
end
open Go.RowKit
def P9 {t' t:Ty} (h:t'=t) (xs:List t'.den):List t.den:=h ▸ xs
theorem A9g {t:Ty} (h:t=t) (xs:List t.den):P9 h xs=xs:=rfl
def uni (S S':List Nat):List Nat:=S++S'.filter (fun n=>!S.contains n)
theorem s7 {S S':List Nat} {n:Nat} (h:n∈S):n∈uni S S':=List.mem_append_left _ h
theorem x8 {S S':List Nat} {n:Nat} (h:n∈S'):n∈uni S S':=by
 unfold uni
 by_cases hn:n∈S
 · exact List.mem_append_left _ hn
 · exact List.mem_append_right _ (List.mem_filter.2 ⟨h,by simpa using hn⟩)
def rds (σ:St):(t:Ty)→List CV→Option (t.den × List Nat)
 | .prod a b, l => match rds σ a (l.take a.w), rds σ b (l.drop a.w) with
   | some (x,S),some (y,S')=>some ((x,y),uni S S')
   | _,_=>none
 | .int k, l => match l with
   | [.sc (.int k' n)]=>if k'=k then some (n,[]) else none
   | _=>none
 | .bool, l => match l with
   | [.sc (.bool b)]=>some (b,[])
   | _=>none
 | .str, l => match l with
   | [.sc (.string s)]=>some (s,[])
   | _=>none
 | .row _ t, l => match l with
   | [.sc (.slice none 0 0)]=>some ([],[])
   | [.rd S _ t' xs]=>if h:t'=t then some (P9 h xs,S) else none
   | [.sub n _ _ _ _ t' xs]=>if h:t'=t then some (P9 h xs,[n]) else none
   | [.ow n] => match σ.look n with
     | some (.row _ t' xs S)=>if h:t'=t then some (P9 h xs,n::S) else none
     | some (.tree _ t' xs none)=>if h:t'=t then some (P9 h xs,[n]) else none
     | _=>none
   | _=>none
def F2:Ty→List Value
 | .int k=>[.int k 0]
 | .bool=>[.bool false]
 | .str=>[.string ByteArray.empty]
 | .row _ _=>[.slice none 0 0]
 | .prod a b=>F2 a++F2 b
theorem Rd.dflt (S:Nat→Prop) (w:World) (t:Ty):Rd S w t (F2 t) t.dflt:=by
 induction t with
 | prod a b ha hb=>exact⟨_,_,rfl,ha,hb⟩
 | row e t ih=>exact⟨none,0,rfl,by simp[Ty.dflt],by simp,fun h=>by simp[Ty.dflt] at h⟩
 | _=>simp[Rd,F2,Ty.dflt]
theorem Rd.mono {S S':Nat→Prop} {w:World} {t:Ty} {us:List Value} {x:t.den} (h:Rd S w t us x) (hS:∀b,S b→S' b):Rd S' w t us x :=
 h.frame fun b _ hb=>⟨hS b hb,rfl⟩
theorem okS.mono {R:Rz} {S S':List Nat} (h:∀n∈S,n∈S'):∀b,okS R S b→okS R S' b:=fun _ hb=>hb.elim .inl fun h'=>.inr (h _ h')
section
variable {R:Rz} {w:World}
theorem E5 {c:CV} {us:List Value} (h:VRs R w [c] us):∃u,us=[u]∧VRc R w c u:=by
 obtain⟨u,us',rfl,h1,h2⟩:=h;simp only[VRs] at h2
 subst h2;exact⟨u,rfl,h1⟩
end
theorem Rd.flat {S S':Nat→Prop} {w w':World}:∀{t:Ty} {us:List Value} {x:t.den},t.flat=true→Rd S w t us x→Rd S' w' t us x:=by
 intro t
 induction t with
 | row e t _=>intro us x hf;simp[Ty.flat] at hf
 | prod p q hp hq =>
   intro us x hf h
   simp only[Ty.flat,Bool.and_eq_true] at hf
   obtain⟨u1,u2,rfl,k1,k2⟩:=h;exact⟨u1,u2,rfl,hp hf.1 k1,hq hf.2 k2⟩
 | int k=>intro us x _ h;exact h
 | bool=>intro us x _ h;exact h
 | str=>intro us x _ h;exact h
section
variable {R R':Rz} {w w':World} {n n':Nat}
theorem RowO.mv {e:TypeId} {t:Ty} {u:Value} {ys:List t.den} (hf:t.flat=true) (h:RowO R w n e t u ys)
 (k:∀(b l cap:Nat),u=.slice (some ⟨b,0,none⟩) l cap→R.root b=n→b < w.heap.size→w'.heap[b]?=w.heap[b]?∧R'.root b=n'):RowO R' w' n' e t u ys:=by
 rcases h with h|⟨b,cap,cur,h1,h2,h3,h4,h5,h6,h7⟩
 · exact .inl h
 · obtain⟨k1,k2⟩:=k b _ _ h1 h2 (Array.getElem?_eq_some_iff.1 h3).1
   exact .inr ⟨b,cap,cur,h1,k2,by rw[k1];exact h3,h4,h5,h6,fun i hi=>Rd.flat hf (h7 i hi)⟩
theorem ElO.mv {t:Ty} {us:List Value} {x:t.den} (h:ElO R w n t us x)
 (k:∀(c b l cap:Nat),us[c]?=some (.slice (some ⟨b,0,none⟩) l cap)→R.root b=n→b < w.heap.size→w'.heap[b]?=w.heap[b]?∧R'.root b=n'):ElO R' w' n' t us x:=by
 induction t generalizing us with
 | int _=>exact h
 | bool=>exact h
 | str=>exact h
 | prod a b ha hb =>
   obtain⟨u1,u2,rfl,h1,h2⟩:=h;refine⟨u1,u2,rfl,ha h1 fun c b l cap hc=>k c b l cap ?_,hb h2 fun c b l cap hc=>k (u1.length+c) b l cap ?_⟩
   · rw[List.getElem?_append_left (List.getElem?_eq_some_iff.1 hc).1];exact hc
   · rw[List.getElem?_append_right (by omega)];simpa using hc
 | row e t ih =>
   obtain⟨h1,u,rfl,h2⟩:=h;exact⟨h1,u,rfl,h2.mv h1 fun b l cap hu=>k 0 b l cap (by simp[hu])⟩
theorem ElO.root {t:Ty} {us:List Value} {x:t.den} (h:ElO R w n t us x) {c b l cap:Nat} (hc:us[c]?=some (.slice (some ⟨b,0,none⟩) l cap)):R.root b=n∧b < w.heap.size:=by
 induction t generalizing us c with
 | int _=>simp only[ElO] at h;subst h;cases c<;>simp at hc
 | bool=>simp only[ElO] at h;subst h;cases c<;>simp at hc
 | str=>simp only[ElO] at h;subst h;cases c<;>simp at hc
 | prod a b ha hb =>
   obtain⟨u1,u2,rfl,h1,h2⟩:=h
   by_cases hl:c < u1.length
   · rw[List.getElem?_append_left hl] at hc;exact ha h1 hc
   · rw[List.getElem?_append_right (by omega)] at hc;exact hb h2 hc
 | row e t ih =>
   obtain⟨h1,u,rfl,h2⟩:=h;cases c with
   | succ c=>simp at hc
   | zero =>
     simp only[List.getElem?_cons_zero,Option.some.injEq] at hc
     rcases h2 with⟨h2,_⟩|⟨b',cap',cur,h3,h4,h5,_⟩
     · rw[hc] at h2;cases h2
     · rw[hc] at h3;cases h3
       exact⟨h4,(Array.getElem?_eq_some_iff.1 h5).1⟩
structure TrL (R:Rz) (w:World) (n b0:Nat) (t:Ty) (h:Option (Nat × Nat)) (us:List Value) (xs:List t.den):Prop where
 len:us.length=xs.length * t.w
 el:∀i (hi:i < xs.length),¬j5 h i→ElO R w n t ((us.drop (i * t.w)).take t.w) xs[i]
 inj:C00 us xs.length t.w h b0
theorem TrL.nil (R:Rz) (w:World) (n b0:Nat) (t:Ty) (h:Option (Nat × Nat)):TrL R w n b0 t h [] []:=⟨by simp,fun i h=>by simp at h,fun c b l k hc=>by simp at hc⟩
theorem B55 {c wd i:Nat} (h:i * wd≤c) (h2:c < i * wd+wd):c / wd=i:=by
 have hw:0 < wd:=by omega
 rw[Nat.div_eq_iff hw];omega
theorem A2J {c wd:Nat} (i:Nat) (h:c < wd):(i * wd+c) / wd=i:=B55 (by omega) (by omega)
theorem TrL.root {b0:Nat} {t:Ty} {h:Option (Nat × Nat)} {us:List Value} {xs:List t.den} (k:TrL R w n b0 t h us xs) {c b l cap:Nat} (hc:us[c]?=some (.slice (some ⟨b,0,none⟩) l cap)) (hh:¬j5 h (c / t.w)):R.root b=n∧b < w.heap.size:=by
 have hw:=t.w_pos
 have hl:=(List.getElem?_eq_some_iff.1 hc).1
 rw[k.len] at hl;have hi:c / t.w < xs.length:=by rw[Nat.div_lt_iff_lt_mul hw];exact hl
 have e:(c / t.w) * t.w+c % t.w=c:=by rw[Nat.mul_comm];exact Nat.div_add_mod c t.w
 refine(k.el _ hi hh).root (c:=c % t.w) (l:=l) (cap:=cap) ?_
 rw[B8 (Nat.mod_lt _ hw),e]
 exact hc
theorem TrL.mv {b0 b1:Nat} {t:Ty} {us:List Value} {xs:List t.den} (h:TrL R w n b0 t none us xs)
 (k:∀b,R.root b=n→b≠b0→b < w.heap.size→w'.heap[b]?=w.heap[b]?∧R'.root b=n'∧b≠b1):TrL R' w' n' b1 t none us xs:=by
 have hw:=t.w_pos
 have key:∀(c b l cap:Nat),us[c]?=some (.slice (some ⟨b,0,none⟩) l cap)→R.root b=n∧b < w.heap.size∧b≠b0:=fun c b l cap hc=>by
  obtain⟨h1,h2⟩:=h.root hc (by simp[j5])
  have hl:=(List.getElem?_eq_some_iff.1 hc).1
  rw[h.len] at hl;exact⟨h1,h2,(h.inj c b l cap hl (by simp[j5]) hc).1⟩
 refine⟨h.len,fun i hi hh=>(h.el i hi hh).mv fun c b l cap hc hr hlt=>?_,fun c b l cap hc hh hcell=>?_⟩
 · have hcw:c < t.w:=by have:=(List.getElem?_eq_some_iff.1 hc).1;simp at this;omega
   rw[B8 hcw] at hc;obtain⟨_,_,k3⟩:=key _ b l cap hc
   obtain⟨q1,q2,_⟩:=k b hr k3 hlt
   exact⟨q1,q2⟩
 · obtain⟨k1,k2,k3⟩:=key _ b l cap hcell
   exact⟨(k b k1 k3 k2).2.2,(h.inj c b l cap hc hh hcell).2⟩
theorem TrL.append {b0:Nat} {t:Ty} {us vs:List Value} {xs ys:List t.den} (h1:TrL R w n b0 t none us xs) (h2:TrL R w n b0 t none vs ys)
 (hd:∀(c c' b l k l' k':Nat),us[c]?=some (.slice (some ⟨b,0,none⟩) l k)→vs[c']?=some (.slice (some ⟨b,0,none⟩) l' k')→False):TrL R w n b0 t none (us++vs) (xs++ys):=by
 have hw:=t.w_pos
 refine⟨by simp[h1.len,h2.len,Nat.add_mul],fun i hi hh=>?_,?_⟩
 · have hlen:i < xs.length+ys.length:=by simpa using hi
   by_cases hx:i < xs.length
   · have h3:=h1.el i hx (by simp[j5])
     have hle:i * t.w+t.w≤xs.length * t.w:=by rw[←Nat.succ_mul];exact Nat.mul_le_mul_right _ hx
     rw[List.drop_append_of_le_length (by rw[h1.len];omega),List.take_append_of_le_length (by simp[h1.len];omega),List.getElem_append_left hx]
     exact h3
   · have h3:=h2.el (i - xs.length) (by omega) (by simp[j5])
     have e:i * t.w=us.length+(i - xs.length) * t.w:=by rw[h1.len,←Nat.add_mul];congr 1;omega
     have e2:(us++vs).drop (i * t.w)=vs.drop ((i - xs.length) * t.w):=by
      rw[e,←List.drop_drop,List.drop_left]
     rw[e2,List.getElem_append_right (by omega)]
     exact h3
 · have at1:∀c v,(us++vs)[c]?=some v→(c < us.length∧us[c]?=some v)∨(us.length≤c∧vs[c - us.length]?=some v):=fun c v hc=>by
    by_cases hl:c < us.length
    · rw[List.getElem?_append_left hl] at hc;exact .inl ⟨hl,hc⟩
    · rw[List.getElem?_append_right (by omega)] at hc;exact .inr ⟨by omega,hc⟩
   have lt1:∀c v,us[c]?=some v→c < xs.length * t.w:=fun c v hc=>by rw[←h1.len];exact(List.getElem?_eq_some_iff.1 hc).1
   have lt2:∀c v,vs[c]?=some v→c < ys.length * t.w:=fun c v hc=>by rw[←h2.len];exact(List.getElem?_eq_some_iff.1 hc).1
   intro c b l k hc _ hcell
   rcases at1 c _ hcell with⟨q1,q2⟩|⟨q1,q2⟩
   · obtain⟨k1,k2⟩:=h1.inj c b l k (lt1 _ _ q2) (by simp[j5]) q2
     refine⟨k1,fun c' l' k' hc' _ hcell'=>?_⟩
     rcases at1 c' _ hcell' with⟨r1,r2⟩|⟨r1,r2⟩
     · exact k2 c' l' k' (lt1 _ _ r2) (by simp[j5]) r2
     · exact(hd _ _ _ _ _ _ _ q2 r2).elim
   · obtain⟨k1,k2⟩:=h2.inj _ b l k (lt2 _ _ q2) (by simp[j5]) q2
     refine⟨k1,fun c' l' k' hc' _ hcell'=>?_⟩
     rcases at1 c' _ hcell' with⟨r1,r2⟩|⟨r1,r2⟩
     · exact(hd _ _ _ _ _ _ _ r2 q2).elim
     · have:=k2 _ l' k' (lt2 _ _ r2) (by simp[j5]) r2
       omega
theorem B2c {e:TypeId} {t:Ty} {h:Option (Nat × Nat)} {xs:List t.den} {cap:Nat} {cur:Array Value} (h1:R.hd n=.slice (some ⟨R.bk n,0,none⟩) xs.length cap) (h2:R.root (R.bk n)=n)
 (h3:w.heap[R.bk n]?=some (.cells cur e (0,0))) (h4:xs.length≤cap) (h5:cap≤maxLen) (h6:cur.size=cap * t.w) (h7:TrL R w n (R.bk n) t h (cur.toList.take (xs.length * t.w)) xs):OR R w n (.tree e t xs h):=by
 refine .inr ⟨cap,cur,h1,h2,h3,h4,h5,h6,fun i hi hh=>?_,fun c b l k hc hh hcell=>?_⟩
 · have h8:=h7.el i hi hh
   have hle:i * t.w+t.w≤xs.length * t.w:=by rw[←Nat.succ_mul];exact Nat.mul_le_mul_right _ hi
   rw[List.drop_take,List.take_take,Nat.min_eq_left (by omega)] at h8
   exact h8
 · obtain⟨k1,k2⟩:=h7.inj c b l k hc hh (by rw[List.getElem?_take_of_lt hc];exact hcell)
   exact⟨k1,fun c' l' k' hc' hh' hcell'=>k2 c' l' k' hc' hh' (by rw[List.getElem?_take_of_lt hc'];exact hcell')⟩
theorem A9M {e:TypeId} {t:Ty} {h:Option (Nat × Nat)} {xs:List t.den} (k:OR R w n (.tree e t xs h)) :
 ∃us,w.ownsRow 0 e t.w (R.hd n) xs.length us∧TrL R w n (R.bk n) t h us xs∧(R.hd n=.slice none 0 0∨(R.hd n).ownBlock=some (R.bk n)∧R.root (R.bk n)=n):=by
 rcases k with⟨h1,h2⟩|⟨cap,cur,h1,h2,h3,h4,h5,h6,h7,h8⟩
 · subst h2;rw[h1];exact⟨[],World.ownsRow_nil _ _ _ _,TrL.nil _ _ _ _ _ _,.inl rfl⟩
 · rw[h1];have hle:xs.length * t.w≤cur.size:=by rw[h6];exact Nat.mul_le_mul_right _ h4
   have hl:(cur.toList.take (xs.length * t.w)).length=xs.length * t.w:=by simp;omega
   refine⟨cur.toList.take (xs.length * t.w),⟨hl,.inr ⟨R.bk n,cap,cur,rfl,Nat.zero_le _,h3,h4,h5,h6,rfl⟩⟩,⟨hl,fun i hi hh=>?_,fun c b l k hc hh hcell=>?_⟩,.inr ⟨rfl,h2⟩⟩
   · have h9:=h7 i hi hh
     have hle:i * t.w+t.w≤xs.length * t.w:=by rw[←Nat.succ_mul];exact Nat.mul_le_mul_right _ hi
     rw[List.drop_take,List.take_take,Nat.min_eq_left (by omega)]
     exact h9
   · rw[List.getElem?_take_of_lt hc] at hcell
     obtain⟨k1,k2⟩:=h8 c b l k hc hh hcell
     exact⟨k1,fun c' l' k' hc' hh' hcell'=>k2 c' l' k' hc' hh' (by rw[List.getElem?_take_of_lt hc'] at hcell';exact hcell')⟩
structure Sep (R:Rz) (us:List Value) (ms:List Nat):Prop where
 src:∀(c b l k:Nat),us[c]?=some (.slice (some ⟨b,0,none⟩) l k)→R.root b∈ms
 inj:∀(c c' b l k l' k':Nat),us[c]?=some (.slice (some ⟨b,0,none⟩) l k)→us[c']?=some (.slice (some ⟨b,0,none⟩) l' k')→c=c'
theorem Sep.append {us vs:List Value} {ms ns:List Nat} (h1:Sep R us ms) (h2:Sep R vs ns) (hd:∀m∈ms,m ∉ ns):Sep R (us++vs) (ms++ns):=by
 have at1:∀c v,(us++vs)[c]?=some v→(c < us.length∧us[c]?=some v)∨(us.length≤c∧vs[c - us.length]?=some v):=fun c v hc=>by
  by_cases hl:c < us.length
  · rw[List.getElem?_append_left hl] at hc;exact .inl ⟨hl,hc⟩
  · rw[List.getElem?_append_right (by omega)] at hc;exact .inr ⟨by omega,hc⟩
 refine⟨fun c b l k hc=>?_,fun c c' b l k l' k' hc hc'=>?_⟩
 · rcases at1 c _ hc with⟨_,q⟩|⟨_,q⟩
   · exact List.mem_append_left _ (h1.src _ _ _ _ q)
   · exact List.mem_append_right _ (h2.src _ _ _ _ q)
 · rcases at1 c _ hc with⟨p,q⟩|⟨p,q⟩<;>rcases at1 c' _ hc' with⟨p',q'⟩|⟨p',q'⟩
   · exact h1.inj _ _ _ _ _ _ _ q q'
   · exact(hd _ (h1.src _ _ _ _ q) (h2.src _ _ _ _ q')).elim
   · exact(hd _ (h1.src _ _ _ _ q') (h2.src _ _ _ _ q)).elim
   · have:=h2.inj _ _ _ _ _ _ _ q q';omega
theorem Sep.one {u:Value} {ms:List Nat} (h:∀(b l k:Nat),u=.slice (some ⟨b,0,none⟩) l k→R.root b∈ms):Sep R [u] ms:=by
 refine⟨fun c b l k hc=>?_,fun c c' b l k l' k' hc hc'=>?_⟩
 · cases c with
   | zero=>exact h b l k (by simpa using hc)
   | succ c=>simp at hc
 · cases c with
   | zero =>
     cases c' with
     | zero=>rfl
     | succ c=>simp at hc'
   | succ c=>simp at hc
end
def elT (σ:St) (pos:Option (Nat × Nat × Nat)):Nat→(t:Ty)→List CV→Option (t.den × List Nat)
 | o, .prod a b, l => match elT σ pos o a (l.take a.w), elT σ pos (o + a.w) b (l.drop a.w) with
   | some (x,ms),some (y,ms')=>some ((x,y),ms++ms')
   | _,_=>none
 | _, .int k, l => match l with
   | [.sc (.int k' n)]=>if k'=k then some (n,[]) else none
   | _=>none
 | _, .bool, l => match l with
   | [.sc (.bool b)]=>some (b,[])
   | _=>none
 | _, .str, l => match l with
   | [.sc (.string s)]=>some (s,[])
   | _=>none
 | o, .row e t, l => match t.flat with
   | false=>none
   | true => match l with
     | [.sc (.slice none 0 0)]=>some ([],[])
     | [.ow m] => match σ.look m with
       | some (.row e' t' xs _)=>if e'=e∧5 < m then if h:t'=t then some (P9 h xs,[m]) else none else none
       | _=>none
     | [.sub n i wd o' e' t' xs]=>if pos=some (n,i,wd)∧o'=o∧e'=e then if h:t'=t then some (P9 h xs,[]) else none else none
     | _=>none
def A0w (σ:St) (t:Ty):List AV→Option (List t.den × List Nat)
 | []=>some ([],[])
 | v :: l => match A0x v with
   | some cs => if cs.all (y4 σ) then match elT σ none 0 t cs, A0w σ t l with
     | some (x,ms),some (xs,ms')=>some (x::xs,ms++ms')
     | _,_=>none else none
   | none=>none
section
variable {R0 R R':Rz} {w0 w w':World} {σ:St} {a:Act} {n':Nat} {pos:Option (Nat × Nat × Nat)}
theorem B7Z {n:Nat} {e:TypeId} {t:Ty} {xs:List t.den} {S:List Nat} (hf:t.flat=true) (h:OR R w n (.row e t xs S)):RowO R w n e t (R.hd n) xs:=by
 rcases h with h|⟨cap,cur,h1,h2,h3,h4,h5,h6,h7⟩
 · exact .inl h
 · exact .inr ⟨R.bk n,cap,cur,h1,h2,h3,h4,h5,h6,fun i hi=>Rd.flat hf (h7 i hi)⟩
theorem A94 (hs:Sim R0 w0 R σ a w) (hm:List Nat) (k1:∀b,R.root b∈hm→b < w.heap.size→w'.heap[b]?=w.heap[b]?∧R'.root b=n'):∀(t:Ty) {o:Nat} {l:List CV} {us:List Value} {x:t.den} {ms:List Nat},
 VRs R w l us→elT σ pos o t l=some (x,ms)→(∀m∈ms,m∈hm) →
 (∀n i wd,pos=some (n,i,wd)→∀(c o:Nat) (e:TypeId) (t:Ty) (xs:List t.den) (b l' k:Nat),l[c]?=some (.sub n i wd o e t xs)→us[c]?=some (.slice (some ⟨b,0,none⟩) l' k)→R.root b=n→b < w.heap.size→w'.heap[b]?=w.heap[b]?∧R'.root b=n')→ElO R' w' n' t us x:=by
 intro t
 induction t with
 | int k =>
   intro o l us x ms h1 h2 _ _
   simp only[elT] at h2
   split at h2
   · split at h2
     · rename_i e;cases h2;subst e
       obtain⟨u,rfl,h3⟩:=E5 h1
       cases h3;rfl
     · cases h2
   · cases h2
 | bool =>
   intro o l us x ms h1 h2 _ _
   simp only[elT] at h2
   split at h2
   · cases h2
     obtain⟨u,rfl,h3⟩:=E5 h1
     cases h3;rfl
   · cases h2
 | str =>
   intro o l us x ms h1 h2 _ _
   simp only[elT] at h2
   split at h2
   · cases h2
     obtain⟨u,rfl,h3⟩:=E5 h1
     cases h3;rfl
   · cases h2
 | row e t ih =>
   intro o l us x ms h1 h2 hms k2
   simp only[elT] at h2
   split at h2
   · cases h2
   rename_i hf
   refine⟨hf,?_⟩
   split at h2
   · cases h2
     obtain⟨u,rfl,h3⟩:=E5 h1
     cases h3
     exact⟨_,rfl,.inl ⟨rfl,rfl⟩⟩
   · rename_i m
     split at h2
     · rename_i e' t' xs S he
       split at h2
       case isFalse=>cases h2
       rename_i hc
       obtain⟨rfl,hc⟩:=hc
       split at h2
       · rename_i ht;subst ht;cases h2
         obtain⟨u,rfl,h3⟩:=E5 h1
         refine⟨u,rfl,?_⟩
         have h3:u=R.hd m:=h3
         rw[h3];exact(B7Z hf (hs.look he)).mv hf fun b l k hu hr hlt=>k1 b (by rw[hr];exact hms m (by simp)) hlt
       · cases h2
     · cases h2
   · rename_i n i wd o' e' t' xs
     split at h2
     case isFalse=>cases h2
     rename_i hc
     obtain⟨hp,rfl,rfl⟩:=hc
     split at h2
     · rename_i ht;subst ht;cases h2
       obtain⟨u,rfl,h3⟩:=E5 h1
       refine⟨u,rfl,?_⟩
       exact h3.2.2.mv hf fun b l k hu hr hlt=>k2 n i wd hp 0 _ _ _ _ b l k (by rfl) (by simp[hu]) hr hlt
     · cases h2
   · cases h2
 | prod p q hp hq =>
   intro o l us x ms h1 h2 hms k2
   simp only[elT] at h2
   split at h2
   · rename_i y m1 z m2 e1 e2
     cases h2
     refine⟨us.take p.w,us.drop p.w,(List.take_append_drop p.w us).symm,hp (h1.take p.w) e1 (fun m hm=>hms m (List.mem_append_left _ hm)) ?_,hq (h1.drop p.w) e2 (fun m hm=>hms m (List.mem_append_right _ hm)) ?_⟩
     · intro n i wd hpos c o e t xs b l' k hl hu
       have hlt:c < p.w:=by have:=(List.getElem?_eq_some_iff.1 hu).1;simp at this;omega
       rw[List.getElem?_take_of_lt hlt] at hl hu
       exact k2 n i wd hpos c o e t xs b l' k hl hu
     · intro n i wd hpos c o e t xs b l' k hl hu
       rw[List.getElem?_drop] at hl hu
       exact k2 n i wd hpos _ o e t xs b l' k hl hu
   · cases h2
theorem B78 (hs:Sim R0 w0 R σ a w):∀(t:Ty) {o:Nat} {l:List CV} {us:List Value} {x:t.den} {ms:List Nat},VRs R w l us→elT σ none o t l=some (x,ms)→ms.Nodup→Sep R us ms:=by
 intro t
 induction t with
 | int k =>
   intro o l us x ms h1 h2 _
   simp only[elT] at h2
   split at h2
   · split at h2
     · rename_i e;cases h2;subst e
       obtain⟨u,rfl,h3⟩:=E5 h1
       cases h3;exact Sep.one (by intro b l k h;cases h)
     · cases h2
   · cases h2
 | bool =>
   intro o l us x ms h1 h2 _
   simp only[elT] at h2
   split at h2
   · cases h2
     obtain⟨u,rfl,h3⟩:=E5 h1
     cases h3;exact Sep.one (by intro b l k h;cases h)
   · cases h2
 | str =>
   intro o l us x ms h1 h2 _
   simp only[elT] at h2
   split at h2
   · cases h2
     obtain⟨u,rfl,h3⟩:=E5 h1
     cases h3;exact Sep.one (by intro b l k h;cases h)
   · cases h2
 | row e t ih =>
   intro o l us x ms h1 h2 _
   simp only[elT] at h2
   split at h2
   · cases h2
   rename_i hf
   split at h2
   · cases h2
     obtain⟨u,rfl,h3⟩:=E5 h1
     cases h3
     exact Sep.one (by intro b l k h;cases h)
   · rename_i m
     split at h2
     · rename_i e' t' xs S he
       split at h2
       case isFalse=>cases h2
       rename_i hc
       obtain⟨rfl,hc⟩:=hc
       split at h2
       · rename_i ht;subst ht;cases h2
         obtain⟨u,rfl,h3⟩:=E5 h1
         refine Sep.one fun b l k hu=>?_
         have h3:u=R.hd m:=h3
         rcases hs.look he with⟨h4,_⟩|⟨cap,cur,h4,h5,_⟩
         · rw[←h3,hu] at h4;cases h4
         · rw[←h3,hu] at h4;cases h4
           simp[h5]
       · cases h2
     · cases h2
   · split at h2
     case isFalse=>cases h2
     rename_i hc
     cases hc.1
   · cases h2
 | prod p q hp hq =>
   intro o l us x ms h1 h2 hn
   simp only[elT] at h2
   split at h2
   · rename_i y m1 z m2 e1 e2
     cases h2
     obtain⟨n1,n2,n3⟩:=List.nodup_append.1 hn
     have:=(hp (h1.take p.w) e1 n1).append (hq (h1.drop p.w) e2 n2) (fun m hm hm'=>n3 m hm m hm' rfl)
     rwa [List.take_append_drop] at this
   · cases h2
theorem B8i (hs:Sim R0 w0 R σ a w):∀(t:Ty) {o:Nat} {l:List CV} {us:List Value} {x:t.den} {ms:List Nat},VRs R w l us→elT σ none o t l=some (x,ms)→∀{c b l' k:Nat},us[c]?=some (.slice (some ⟨b,0,none⟩) l' k)→b < w.heap.size:=by
 intro t o l us x ms h1 h2 c b l' k hc
 exact((A94 (R':=⟨fun b=>if R.root b∈ms then 0 else 1,R.hd,R.bk⟩) (w':=w) (n':=0) hs ms (fun b hb _=>⟨rfl,by simp[hb]⟩) t h1 h2 (fun m hm=>hm) (fun _ _ _ h=>by cases h)).root hc).2
end
section
variable {P:Program} {R0 R:Rz} {w0 w:World} {σ:St} {a:Act} {o:Oper} {K:Act→World→Prop} {Q:Exit→Act→World→Prop}
theorem j6 (hs:Sim R0 w0 R σ a w):∀(t:Ty) {l:List CV} {us:List Value} {x:t.den} {S:List Nat},VRs R w l us→rds σ t l=some (x,S)→Rd (okS R S) w t us x:=by
 intro t
 induction t with
 | int k =>
   intro l us x S h1 h2
   simp only[rds] at h2
   split at h2
   · split at h2
     · rename_i e;cases h2;subst e
       obtain⟨u,rfl,h3⟩:=E5 h1
       cases h3;rfl
     · cases h2
   · cases h2
 | bool =>
   intro l us x S h1 h2
   simp only[rds] at h2
   split at h2
   · cases h2
     obtain⟨u,rfl,h3⟩:=E5 h1
     cases h3;rfl
   · cases h2
 | str =>
   intro l us x S h1 h2
   simp only[rds] at h2
   split at h2
   · cases h2
     obtain⟨u,rfl,h3⟩:=E5 h1
     cases h3;rfl
   · cases h2
 | row e t ih =>
   intro l us x S h1 h2
   simp only[rds] at h2
   split at h2
   · cases h2
     obtain⟨u,rfl,h3⟩:=E5 h1
     cases h3
     exact Rd.dflt _ _ (.row e t)
   · rename_i S' e' t' xs
     split at h2
     · rename_i ht;subst ht;cases h2
       obtain⟨u,rfl,h3⟩:=E5 h1
       exact h3
     · cases h2
   · rename_i n q wd o e' t' xs
     split at h2
     · rename_i ht;subst ht;cases h2
       obtain⟨u,rfl,h3⟩:=E5 h1
       exact h3.2.2.rd
     · cases h2
   · rename_i n
     split at h2
     · rename_i e' t' xs S' he
       split at h2
       · rename_i ht;subst ht;cases h2
         obtain⟨u,rfl,h3⟩:=E5 h1
         have:=o6 (p:=.ow n) hs h3 (e:=e') (t:=t') (xs:=xs) (by simp[d6,he])
         simp only[x6,he] at this
         exact this
       · cases h2
     · rename_i e' t' xs he
       split at h2
       · rename_i ht;subst ht;cases h2
         obtain⟨u,rfl,h3⟩:=E5 h1
         have:=o6 (p:=.ow n) hs h3 (e:=e') (t:=t') (xs:=xs) (by simp[d6,he])
         simp only[x6,he] at this
         exact this
       · cases h2
     · cases h2
   · cases h2
 | prod p q hp hq =>
   intro l us x S h1 h2
   simp only[rds] at h2
   split at h2
   · rename_i y S1 z S2 e1 e2
     cases h2
     have k1:=hp (h1.take p.w) e1
     have k2:=hq (h1.drop p.w) e2
     exact⟨_,_,(List.take_append_drop p.w us).symm,k1.mono (okS.mono fun _=>s7),k2.mono (okS.mono fun _=>x8)⟩
   · cases h2
def A4w (σ:St) (t:Ty):List AV→Option (List t.den × List Nat)
 | []=>some ([],[])
 | v :: l => match A0x v with
   | some cs => if cs.all (y4 σ) then match rds σ t cs, A4w σ t l with
     | some (x,S),some (xs,S')=>some (x::xs,uni S S')
     | _,_=>none else none
   | none=>none
def RdL (S:Nat→Prop) (w:World) (t:Ty) (us:List Value) (xs:List t.den):Prop:=us.length=xs.length * t.w∧∀i (h:i < xs.length),Rd S w t ((us.drop (i * t.w)).take t.w) xs[i]
theorem RdL.nil (S:Nat→Prop) (w:World) (t:Ty):RdL S w t [] []:=⟨by simp,fun i h=>by simp at h⟩
theorem RdL.append {S:Nat→Prop} {t:Ty} {us vs:List Value} {xs ys:List t.den} (h1:RdL S w t us xs) (h2:RdL S w t vs ys):RdL S w t (us++vs) (xs++ys):=by
 refine⟨by simp[h1.1,h2.1,Nat.add_mul],fun i hi=>?_⟩
 have hlen:i < xs.length+ys.length:=by simpa using hi
 by_cases hx:i < xs.length
 · have h3:=h1.2 i hx
   have hle:i * t.w+t.w≤xs.length * t.w:=by rw[←Nat.succ_mul];exact Nat.mul_le_mul_right _ hx
   rw[List.drop_append_of_le_length (by rw[h1.1];omega),List.take_append_of_le_length (by simp[h1.1];omega),List.getElem_append_left hx]
   exact h3
 · have h3:=h2.2 (i - xs.length) (by omega)
   have e:i * t.w=us.length+(i - xs.length) * t.w:=by rw[h1.1,←Nat.add_mul];congr 1;omega
   have e2:(us++vs).drop (i * t.w)=vs.drop ((i - xs.length) * t.w):=by
    rw[e,←List.drop_drop,List.drop_left]
   rw[e2,List.getElem_append_right (by omega)]
   exact h3
theorem RdL.one {S:Nat→Prop} {t:Ty} {us:List Value} {x:t.den} (h:Rd S w t us x):RdL S w t us [x]:=by
 have hl:=h.len
 refine⟨by simp[hl],fun i hi=>?_⟩
 have:i=0:=by simpa using hi
 subst this;simp only[Nat.zero_mul,List.drop_zero,List.getElem_cons_zero];rw[List.take_of_length_le (by omega)]
 exact h
theorem RdL.mono {S S':Nat→Prop} {t:Ty} {us:List Value} {xs:List t.den} (h:RdL S w t us xs) (hS:∀b,S b→S' b):RdL S' w t us xs:=⟨h.1,fun i hi=>(h.2 i hi).mono hS⟩
theorem RdL.fr {N M S:List Nat} {R':Rz} {w':World} {t:Ty} {us:List Value} {xs:List t.den} (h:RdL (okS R S) w t us xs) (hf:FR N M R w R' w') (h0:0 ∉ N) (hS:∀n∈S,n ∉ N):RdL (okS R' S) w' t us xs :=
 ⟨h.1,fun i hi=>(h.2 i hi).fr hf h0 hS⟩
theorem RdL.replicate {S:Nat→Prop} {t:Ty} (n:Nat):RdL S w t ((List.replicate n (F2 t)).flatten) (List.replicate n t.dflt):=by
 induction n with
 | zero=>exact RdL.nil _ _ _
 | succ n ih =>
   rw[List.replicate_succ,List.replicate_succ,List.flatten_cons];exact(RdL.one (Rd.dflt S w t)).append ih
theorem B26 {n:Nat} {e:TypeId} {t:Ty} {xs:List t.den} {S:List Nat} {cap:Nat} {cur:Array Value} (h1:R.hd n=.slice (some ⟨R.bk n,0,none⟩) xs.length cap) (h2:R.root (R.bk n)=n)
 (h3:w.heap[R.bk n]?=some (.cells cur e (0,0))) (h4:xs.length≤cap) (h5:cap≤maxLen) (h6:cur.size=cap * t.w) (h7:RdL (okS R S) w t (cur.toList.take (xs.length * t.w)) xs):OR R w n (.row e t xs S):=by
 refine .inr ⟨cap,cur,h1,h2,h3,h4,h5,h6,fun i hi=>?_⟩
 have h8:=h7.2 i hi
 have hle:i * t.w+t.w≤xs.length * t.w:=by rw[←Nat.succ_mul];exact Nat.mul_le_mul_right _ hi
 rw[List.drop_take,List.take_take,Nat.min_eq_left (by omega)] at h8
 exact h8
theorem A9b {n:Nat} {e:TypeId} {t:Ty} {xs:List t.den} {S:List Nat} (h:OR R w n (.row e t xs S)) :
 ∃us,w.ownsRow 0 e t.w (R.hd n) xs.length us∧RdL (okS R S) w t us xs∧(R.hd n=.slice none 0 0∨(R.hd n).ownBlock=some (R.bk n)∧R.root (R.bk n)=n):=by
 rcases h with⟨h1,h2⟩|⟨cap,cur,h1,h2,h3,h4,h5,h6,h7⟩
 · subst h2;rw[h1];exact⟨[],World.ownsRow_nil _ _ _ _,RdL.nil _ _ _,.inl rfl⟩
 · rw[h1];have hle:xs.length * t.w≤cur.size:=by rw[h6];exact Nat.mul_le_mul_right _ h4
   have hl:(cur.toList.take (xs.length * t.w)).length=xs.length * t.w:=by simp;omega
   refine⟨cur.toList.take (xs.length * t.w),⟨hl,.inr ⟨R.bk n,cap,cur,rfl,Nat.zero_le _,h3,h4,h5,h6,rfl⟩⟩,⟨hl,fun i hi=>?_⟩,.inr ⟨rfl,h2⟩⟩
   have h8:=h7 i hi
   have hle:i * t.w+t.w≤xs.length * t.w:=by rw[←Nat.succ_mul];exact Nat.mul_le_mul_right _ hi
   rw[List.drop_take,List.take_take,Nat.min_eq_left (by omega)]
   exact h8
def B8D (P:Program) (G:TypeId→Option Ty) (σ:St) (d:Option Tmp) (tt:TypeId) (len:Nat) (parts:List (Nat × Operand)):Option Res :=
 match P.underlying tt with
 | some (.slice e) => match G e with
   | some t=>if P1 P e=some t.w∧len=parts.length∧parts.map (·.1)=List.range len∧len * t.w≤2 ^ 24∧(H7 P e).isSome then
    match t.flat with
    | true => match A4w σ t (parts.map fun p => σ.ev p.2) with
      | some (xs,_)=>some ⟨True,.c (.ow (nm d)),[nm d],[nm d],[(nm d,.row e t xs [])]⟩
      | none=>none
    | false => match A0w σ t (parts.map fun p => σ.ev p.2) with
      | some (xs,ms)=>if ms.Nodup∧¬ms.contains (nm d)∧ms.all (fun m=>5 < m) then some ⟨True,.c (.ow (nm d)),nm d::ms,nm d::ms,[(nm d,.tree e t xs none)]⟩ else none
      | none => match A4w σ t (parts.map fun p => σ.ev p.2) with
        | some (xs,S)=>if S.contains (nm d) then none else some ⟨True,.c (.ow (nm d)),[nm d],[nm d],[(nm d,.row e t xs S)]⟩
        | none=>none
    else none
   | none=>none
 | _=>none
theorem B3n (tw:Nat):∀(parts:List (Nat × Operand)) (k:Nat) (us:Array Value),(∀p∈parts,(a.eval p.2).cells.size=tw) →
 parts.map (·.1)=List.range' k parts.length→(k+parts.length) * tw≤us.size →
 ∃ us' : Array Value, Instr.fill (fun i => some (i * tw, tw)) us (parts.map fun p => (p.1, a.eval p.2)) = some us' ∧ us'.size = us.size ∧
   (∀q,q < k * tw→us'[q]?=us[q]?)∧(us'.toList.drop (k * tw)).take (parts.length * tw)=(parts.map fun p=>(a.eval p.2).cells.toList).flatten:=by
 intro parts
 induction parts with
 | nil =>
   intro k us _ _ _
   exact⟨us,rfl,rfl,fun _ _=>rfl,by simp⟩
 | cons p parts ih =>
   intro k us h1 h2 h3
   obtain⟨i,x⟩:=p;simp only[List.map_cons,List.length_cons,List.range'_succ,List.cons.injEq] at h2
   obtain⟨rfl,h2⟩:=h2;have hl:=h1 _ List.mem_cons_self
   simp only at hl
   simp only[List.length_cons] at h3
   have h6:(i+1+parts.length) * tw≤us.size:=by rw[show i+1+parts.length=i+(parts.length+1) by omega];exact h3
   have h6':i * tw+tw+parts.length * tw≤us.size:=by rw[Nat.add_mul,Nat.add_mul,Nat.one_mul] at h6;exact h6
   have hf:((a.eval x).cells.zipIdx.foldl (fun cs (c,j)=>cs.setIfInBounds (i * tw+j) c) us).toList=splice us.toList (i * tw) (a.eval x).cells.toList:=by
    have:=A4p (a.eval x).cells.toList us (i * tw) 0 (by simp;omega)
    rw[Nat.add_zero] at this;rw[←this,←Array.foldl_toList];simp
   obtain⟨us',k1,k2,k3,k4⟩:=ih (i+1) ((a.eval x).cells.zipIdx.foldl (fun cs (c,j)=>cs.setIfInBounds (i * tw+j) c) us) (fun p hp=>h1 p (List.mem_cons_of_mem _ hp)) h2 (by
    rw[←Array.length_toList,hf,O9 _ _ _ (by simp;omega)];simpa using h6)
   have hsz:us'.size=us.size:=by rw[k2,←Array.length_toList,hf,O9 _ _ _ (by simp;omega)];simp
   have hg:∀q,q < (i+1) * tw→us'.toList[q]?=(splice us.toList (i * tw) (a.eval x).cells.toList)[q]?:=fun q hq=>by
    rw[←hf,Array.getElem?_toList,Array.getElem?_toList];exact k3 q hq
   refine⟨us',?_,hsz,fun q hq=>?_,?_⟩
   · have hcond:¬((a.eval x).cells.size≠tw∨i * tw+(a.eval x).cells.size > us.size):=by
      rintro (h|h)
      · exact h hl
      · omega
     simp only[List.map_cons,Instr.fill];rw[if_neg (by simpa using hcond)]
     exact k1
   · have:=hg q (by rw[Nat.add_mul];omega)
     rw[O8 _ _ _ (by simp;omega),if_neg (by omega),Array.getElem?_toList,Array.getElem?_toList] at this
     exact this
   · rw[List.map_cons,List.flatten_cons,←k4]
     apply List.ext_getElem?
     intro q
     by_cases h7:q < tw
     · rw[List.length_cons,B8 (by rw[Nat.add_mul];omega),List.getElem?_append_left (by simp;omega),hg _ (by rw[Nat.add_mul];omega),O8 _ _ _ (by simp;omega),if_pos (by simp;omega)]
       congr 1;omega
     · rw[List.length_cons,List.getElem?_append_right (by simp;omega),List.getElem?_take,List.getElem?_take,List.getElem?_drop,List.getElem?_drop]
       simp only[Array.length_toList,hl];have e2:(q < (parts.length+1) * tw)↔(q - tw < parts.length * tw):=by rw[Nat.add_mul];omega
       by_cases h8:q < (parts.length+1) * tw
       · rw[if_pos h8,if_pos (e2.1 h8)]
         congr 1
         rw[Nat.add_mul];omega
       · rw[if_neg h8,if_neg (fun h=>h8 (e2.2 h))]
theorem B43 (hs:Sim R0 w0 R σ a w) (t:Ty):∀(parts:List (Nat × Operand)) (xs:List t.den) (S:List Nat),A4w σ t (parts.map fun p=>σ.ev p.2)=some (xs,S) →
 RdL (okS R S) w t (parts.map fun p=>(a.eval p.2).cells.toList).flatten xs∧xs.length=parts.length∧∀p∈parts,(a.eval p.2).cells.size=t.w:=by
 intro parts
 induction parts with
 | nil =>
   intro xs S h
   simp only[List.map_nil,A4w,Option.some.injEq,Prod.mk.injEq] at h
   obtain⟨rfl,rfl⟩:=h;exact⟨RdL.nil _ _ _,rfl,by simp⟩
 | cons p parts ih =>
   intro xs S h
   simp only[List.map_cons,A4w] at h
   split at h
   case h_2=>cases h
   rename_i cs e1
   split at h
   case isFalse=>cases h
   rename_i hone
   split at h
   case h_2=>cases h
   rename_i x' S1 ys S2 e2 e3
   cases h
   have h4:=(T6 hs (hs.ev p.2) e1 hone).1
   have h5:=j6 hs t h4 e2
   have hl:=h5.len
   simp only[Array.length_toList] at hl
   obtain⟨k1,k2,k3⟩:=ih ys S2 e3
   refine⟨?_,by simp[k2],fun q hq=>?_⟩
   · rw[List.map_cons,List.flatten_cons];exact(RdL.one (h5.mono (okS.mono fun _=>s7))).append (k1.mono (okS.mono fun _=>x8))
   · rcases List.mem_cons.1 hq with rfl|hq
     · exact hl
     · exact k3 q hq
theorem B1w (hs:Sim R0 w0 R σ a w) (t:Ty):∀(parts:List (Nat × Operand)) (xs:List t.den) (ms:List Nat),A0w σ t (parts.map fun p=>σ.ev p.2)=some (xs,ms) →
 xs.length=parts.length∧∀p∈parts,(a.eval p.2).cells.size=t.w:=by
 intro parts
 induction parts with
 | nil =>
   intro xs ms h
   simp only[List.map_nil,A0w,Option.some.injEq,Prod.mk.injEq] at h
   obtain⟨rfl,rfl⟩:=h;exact⟨rfl,by simp⟩
 | cons p parts ih =>
   intro xs ms h
   simp only[List.map_cons,A0w] at h
   split at h
   case h_2=>cases h
   rename_i cs e1
   split at h
   case isFalse=>cases h
   rename_i hone
   split at h
   case h_2=>cases h
   rename_i x' m1 ys m2 e2 e3
   cases h
   have h4:=(T6 hs (hs.ev p.2) e1 hone).1
   have h5:=A94 (R':=⟨fun b=>if R.root b∈m1 then 0 else 1,R.hd,R.bk⟩) (w':=w) (n':=0) hs m1 (fun b hb _=>⟨rfl,by simp[hb]⟩) t h4 e2 (fun m hm=>hm) (fun _ _ _ h=>by cases h)
   have hl:=h5.rd.len
   simp only[Array.length_toList] at hl
   obtain⟨k1,k2⟩:=ih ys m2 e3
   refine⟨by simp[k1],fun q hq=>?_⟩
   rcases List.mem_cons.1 hq with rfl|hq
   · exact hl
   · exact k2 q hq
theorem B2E (hs:Sim R0 w0 R σ a w) (t:Ty) {R':Rz} {w':World} {n' b1:Nat} (hm:List Nat) (hk:∀b,R.root b∈hm→b < w.heap.size→w'.heap[b]?=w.heap[b]?∧R'.root b=n'∧b≠b1) :
 ∀(parts:List (Nat × Operand)) (xs:List t.den) (ms:List Nat),A0w σ t (parts.map fun p=>σ.ev p.2)=some (xs,ms)→ms.Nodup→(∀m∈ms,m∈hm) →
 TrL R' w' n' b1 t none (parts.map fun p=>(a.eval p.2).cells.toList).flatten xs∧Sep R (parts.map fun p=>(a.eval p.2).cells.toList).flatten ms:=by
 intro parts
 induction parts with
 | nil =>
   intro xs ms h _ _
   simp only[List.map_nil,A0w,Option.some.injEq,Prod.mk.injEq] at h
   obtain⟨rfl,rfl⟩:=h;exact⟨TrL.nil _ _ _ _ _ _,⟨by simp,by simp⟩⟩
 | cons p parts ih =>
   intro xs ms h hn hms
   simp only[List.map_cons,A0w] at h
   split at h
   case h_2=>cases h
   rename_i cs e1
   split at h
   case isFalse=>cases h
   rename_i hone
   split at h
   case h_2=>cases h
   rename_i x' m1 ys m2 e2 e3
   cases h
   obtain⟨n1,n2,n3⟩:=List.nodup_append.1 hn
   have h4:=(T6 hs (hs.ev p.2) e1 hone).1
   have h5:=A94 (R':=R') (w':=w') (n':=n') hs hm (fun b h1 h2=>⟨(hk b h1 h2).1,(hk b h1 h2).2.1⟩) t h4 e2 (fun m hm'=>hms m (List.mem_append_left _ hm')) (fun _ _ _ h=>by cases h)
   have h6:=B78 hs t h4 e2 n1
   have hl:=h5.rd.len
   have hl':=hl
   simp only[Array.length_toList] at hl
   obtain⟨k1,k2⟩:=ih ys m2 e3 n2 (fun m hm'=>hms m (List.mem_append_right _ hm'))
   have lt:∀{c b l k:Nat},(a.eval p.2).cells.toList[c]?=some (.slice (some ⟨b,0,none⟩) l k)→b < w.heap.size:=fun {c b l k} hc=>by
    exact B8i hs t h4 e2 hc
   have one:TrL R' w' n' b1 t none (a.eval p.2).cells.toList [x']:=by
    refine⟨by simp[hl],fun i hi _=>?_,fun c b l k hc _ hcell=>⟨?_,fun c' l' k' hc' _ hcell'=>(h6.inj c c' b l k l' k' hcell hcell').symm⟩⟩
    · have:i=0:=by simpa using hi
      subst this;simp only[Nat.zero_mul,List.drop_zero,List.getElem_cons_zero];rw[List.take_of_length_le (by omega)]
      exact h5
    · exact(hk b (hms _ (List.mem_append_left _ (h6.src c b l k hcell))) (lt hcell)).2.2
   refine⟨?_,?_⟩
   · rw[List.map_cons,List.flatten_cons];exact one.append k1 fun c c' b l k l' k' hc hc'=>n3 _ (h6.src _ _ _ _ hc) _ (k2.src _ _ _ _ hc') rfl
   · rw[List.map_cons,List.flatten_cons];exact h6.append k2 fun m hm' hm''=>n3 m hm' m hm'' rfl
end
open Go.RowKit
section
variable {P:Program} {R0 R:Rz} {w0 w:World} {σ:St} {a:Act} {o:Oper} {K:Act→World→Prop} {Q:Exit→Act→World→Prop}
theorem A7s {n:Nat} {e:TypeId} {t:Ty} {xs:List t.den} {S:List Nat} {cap:Nat} {cur:Array Value} {w1:World} (hs:Sim R0 w0 R σ a w) (hn:100≤n) (hS:n ∉ S)
 (hrun:(execOp a.eval o).run P w=.ok (.value (.slice (some ⟨w.heap.size,0,none⟩) xs.length cap)) w1) (hw1:w1=w.alloc (.cells cur e)∨w1=w.drew.alloc (.cells cur e))
 (h4:xs.length≤cap) (h5:cap≤maxLen) (h6:cur.size=cap * t.w) (h7:RdL (okS R S) w t (cur.toList.take (xs.length * t.w)) xs)
 (hK:∀R' v w',Done R w [n] [n] (.c (.ow n)) [(n,.row e t xs S)] R' v w'→K (a.put o.dst v) w'):o.wp P a w K Q:=by
 have hf:FR [n] [n] R w (R.nw n w.heap.size (.slice (some ⟨w.heap.size,0,none⟩) xs.length cap)) w1:=by
  have:=B58 R w n hn (.slice (some ⟨w.heap.size,0,none⟩) xs.length cap) (.cells cur e)
  rcases hw1 with rfl|rfl
  · exact this
  · exact⟨this.os,this.tape,this.output,this.size,this.keep,this.hd,this.lo⟩
 have hg:w1.heap[w.heap.size]?=some (.cells cur e (0,0)):=by
  rcases hw1 with rfl|rfl
  · exact heap_alloc_new w _
  · exact heap_alloc_new w.drew _
 have h0:(0:Nat) ∉ [n]:=by simp;omega
 refine V7 (r:=⟨True,.c (.ow n),[n],[n],[(n,.row e t xs S)]⟩) hs hrun hf (by simp;omega) (by simp[VR,VRc,Rz.nw]) ?_ hK
 intro p hp
 simp only[List.mem_singleton] at hp
 subst hp;refine B26 (cap:=cap) (cur:=cur) (by simp[Rz.nw]) (by simp[Rz.nw]) (by simpa [Rz.nw] using hg) h4 h5 h6 (h7.fr hf h0 (fun m hm=>?_))
 simp only[List.mem_singleton];exact fun e=>hS (e ▸ hm)
def Rz.nwT (R:Rz) (n b:Nat) (v:Value) (ms:List Nat):Rz :=
  { root:=fun x=>if x=b then n else if R.root x∈ms then n else if R.root x=n then 1 else R.root x
    hd:=fun m=>if m=n then v else R.hd m
    bk:=fun m=>if m=n then b else R.bk m }
theorem B9A (R:Rz) (w:World) (n:Nat) (hn:100≤n) (v:Value) (o:Obj) (ms:List Nat):FR (n::ms) (n::ms) R w (R.nwT n w.heap.size v ms) (w.alloc o):=by
 refine⟨rfl,rfl,rfl,by simp,fun b hb hr=>⟨heap_alloc_old w o hb,?_⟩,fun m hm=>?_,fun m hm=>?_⟩
 · have h1:b≠w.heap.size:=by omega
   simp only[List.mem_cons,not_or] at hr
   simp[Rz.nwT,h1,hr.1,hr.2]
 · simp only[List.mem_cons,not_or] at hm
   simp[Rz.nwT,hm.1]
 · have:m≠n:=by omega
   simp[Rz.nwT,this]
theorem A6L {n:Nat} {e:TypeId} {t:Ty} {xs:List t.den} {ms:List Nat} {cap:Nat} {cur:Array Value} {w1:World} (hs:Sim R0 w0 R σ a w) (hn:100≤n) (hms:∀m∈ms,5 < m)
 (hrun:(execOp a.eval o).run P w=.ok (.value (.slice (some ⟨w.heap.size,0,none⟩) xs.length cap)) w1) (hw1:w1=w.alloc (.cells cur e))
 (h4:xs.length≤cap) (h5:cap≤maxLen) (h6:cur.size=cap * t.w)
 (h7:∀(R':Rz),(∀b,R.root b∈ms→b < w.heap.size→w1.heap[b]?=w.heap[b]?∧R'.root b=n∧b≠w.heap.size)→TrL R' w1 n w.heap.size t none (cur.toList.take (xs.length * t.w)) xs)
 (hK:∀R' v w',Done R w (n::ms) (n::ms) (.c (.ow n)) [(n,.tree e t xs none)] R' v w'→K (a.put o.dst v) w'):o.wp P a w K Q:=by
 subst hw1;have hf:=B9A R w n hn (.slice (some ⟨w.heap.size,0,none⟩) xs.length cap) (.cells cur e) ms
 have hg:(w.alloc (.cells cur e)).heap[w.heap.size]?=some (.cells cur e (0,0)):=heap_alloc_new w _
 refine V7 (r:=⟨True,.c (.ow n),n::ms,n::ms,[(n,.tree e t xs none)]⟩) hs hrun hf (fun m hm=>?_) (by simp[VR,VRc,Rz.nwT]) ?_ hK
 · rcases List.mem_cons.1 hm with rfl|hm
   · omega
   · exact hms m hm
 intro p hp
 simp only[List.mem_singleton] at hp
 subst hp;have eb:(R.nwT n w.heap.size (.slice (some ⟨w.heap.size,0,none⟩) xs.length cap) ms).bk n=w.heap.size:=by simp[Rz.nwT]
 refine B2c (cap:=cap) (cur:=cur) (by rw[eb];simp[Rz.nwT]) (by rw[eb];simp[Rz.nwT]) (by rw[eb];exact hg) h4 h5 h6 ?_
 rw[eb];refine h7 _ fun b hb hlt=>⟨heap_alloc_old w _ hlt,?_,by omega⟩
 have:b≠w.heap.size:=by omega
 simp[Rz.nwT,this,hb]
theorem B7R {G:TypeId→Option Ty} {tt:TypeId} {len:Nat} {parts:Array (Nat × Operand)} {r:Res} (ho:o.op=.buildSlice tt len parts) (h:B8D P G σ o.dst tt len parts.toList=some r) (hs:Sim R0 w0 R σ a w)
 (hK:∀R' v w',Done R w r.N r.M r.r r.news R' v w'→K (a.put o.dst v) w'):o.wp P a w K Q:=by
 unfold B8D at h
 split at h
 case h_2=>cases h
 rename_i e e1
 split at h
 case h_2=>cases h
 rename_i t e2
 split at h
 case isFalse=>cases h
 rename_i hc
 obtain⟨c1,c2,c3,c4,c5⟩:=hc;obtain⟨ie,i1,i2⟩:=V6 c1
 obtain⟨z,hz⟩:=Option.isSome_iff_exists.1 c5
 obtain⟨i',zv,i3,i4,i5⟩:=V5 hz
 rw[i1] at i3;cases i3
 have hw:=t.w_pos
 have hm:2 ^ 24≤maxLen:=by unfold maxLen;decide
 have hle:len≤len * t.w:=Nat.le_mul_of_pos_right len hw
 have hn:=A4o o.dst
 have core:(∀p∈parts.toList,(a.eval p.2).cells.size=t.w)→∃us':Array Value,us'.size=len * t.w∧us'.toList=(parts.toList.map fun p=>(a.eval p.2).cells.toList).flatten ∧
  (execOp a.eval o).run P w=.ok (.value (.slice (some ⟨w.heap.size,0,none⟩) len len)) (w.alloc (.cells us' e)):=fun hsz=>by
  obtain⟨us',k1,k2,k3,k4⟩:=B3n (a:=a) t.w parts.toList 0 ((Array.range (len * t.w)).map (zv.cells[· % zv.cells.size]!)) hsz (by rw[c3,c2,List.range_eq_range']) (by simp[←c2])
  simp only[Nat.zero_mul,List.drop_zero] at k4
  have hus:us'.size=len * t.w:=by rw[k2];simp
  rw[←c2,List.take_of_length_le (by rw[Array.length_toList,hus];exact Nat.le_refl _)] at k4
  refine⟨us',hus,k4,?_⟩
  unfold execOp
  by_cases h0:len=0
  · have hp:parts=#[]:=by
     apply Array.ext'
     apply List.eq_nil_of_length_eq_zero
     omega
    subst h0;subst hp;simp only[List.map_nil,Instr.fill,Option.some.injEq] at k1
    have hz0:Array.range 0=#[]:=rfl
    simp[ho,Instr.buildSlice,run_underlying e1,sizeOf,typeInfo,i1,i2,newRow,Instr.fill,←k1,hz0]
  · have hpos:¬len * ie.size=0:=by rw[i2];intro h;rcases Nat.mul_eq_zero.1 h with h|h<;>omega
    have hsm:¬len * ie.size > 2 ^ 24:=by rw[i2];omega
    have:=run_buildSlice (P:=P) w tt e len (parts.map fun (i,x)=>(i,a.eval x)) us' ie zv e1 i1 i4 hsm hpos (by
     rw[i2,←k1]
     congr 1
     simp)
    simp only[ho,Sem.run_bind,this];simp
 have rowCase:∀{xs:List t.den} {S S':List Nat},A4w σ t (parts.toList.map fun p=>σ.ev p.2)=some (xs,S)→(∀us,RdL (okS R S) w t us xs→RdL (okS R S') w t us xs)→nm o.dst ∉ S'→r=⟨True,.c (.ow (nm o.dst)),[nm o.dst],[nm o.dst],[(nm o.dst,.row e t xs S')]⟩→o.wp P a w K Q:=by
  intro xs S S' h3 hS hn' hr
  subst hr;obtain⟨k1,k2,k3⟩:=B43 hs t parts.toList xs S h3
  obtain⟨us',q1,q2,q3⟩:=core k3
  have hxl:xs.length=len:=by rw[k2,c2]
  refine A7s (cap:=len) (cur:=us') (w1:=w.alloc (.cells us' e)) hs hn hn' (by rw[hxl];exact q3) (.inl rfl) (by omega) (by omega) q1 ?_ hK
  rw[hxl,List.take_of_length_le (by rw[Array.length_toList,q1];exact Nat.le_refl _),q2]
  exact hS _ k1
 split at h
 · rename_i hf
   split at h
   case h_2=>cases h
   rename_i xs S e3
   cases h
   exact rowCase e3 (fun us hu=>⟨hu.1,fun i hi=>Rd.flat hf (hu.2 i hi)⟩) (by simp) rfl
 · split at h
   · rename_i xs ms e3
     split at h
     case isFalse=>cases h
     rename_i hcond
     obtain⟨d1,d2,d3⟩:=hcond;cases h
     have hlen:=B1w hs t parts.toList xs ms e3
     obtain⟨us',q1,q2,q3⟩:=core hlen.2
     have hxl:xs.length=len:=by rw[hlen.1,c2]
     refine A6L (cap:=len) (cur:=us') (w1:=w.alloc (.cells us' e)) hs hn (fun m hm=>by simpa using List.all_eq_true.1 d3 m hm) (by rw[hxl];exact q3) rfl (by omega) (by omega) q1 (fun R' hk=>?_) hK
     rw[hxl,List.take_of_length_le (by rw[Array.length_toList,q1];exact Nat.le_refl _),q2]
     exact(B2E hs t ms hk parts.toList xs ms e3 d1 (fun m hm=>hm)).1
   · split at h
     case h_2=>cases h
     rename_i xs S e3
     split at h
     · cases h
     rename_i hS
     cases h
     exact rowCase e3 (fun us hu=>hu) (by simpa using hS) rfl
def X6 (P:Program) (t:TypeId):Option (Nat × Nat):=(P.info? t).map fun i=>(i.size,i.bytes)
theorem A7X {P:Program} {t:TypeId} {s b:Nat} (h:X6 P t=some (s,b)):∃i,P.info? t=some i∧i.size=s∧i.bytes=b:=by
 cases hq:P.info? t with
 | none=>simp[X6,hq] at h
 | some i=>simp[X6,hq] at h;exact⟨i,rfl,h.1,h.2⟩
def Ty.ok2:Ty→Bool
 | .row _ t=>t.flat
 | .prod a b=>a.ok2 && b.ok2
 | _=>true
def B38 (P:Program) (G:TypeId→Option Ty) (σ:St) (d:Option Tmp) (tt:TypeId) (x y:Operand):Option Res :=
 match σ.ev x,σ.ev y with
 | .c (.sc (.int _ n)), .c (.sc (.int _ m)) => match P.underlying tt with
   | some (.slice e) => match G e, X6 P e with
     | some t,some (sz,by_)=>if sz=t.w then match t.flat with
      | true=>some ⟨m=n∧H7 P e=some (F2 t)∧0≤n∧(by_:Int) * n≤281474976710656∧n≤9223372036854775807,.c (.ow (nm d)),[nm d],[nm d],[(nm d,.row e t (List.replicate n.toNat t.dflt) [])]⟩
      | false=>if t.ok2 then some ⟨m=n∧H7 P e=some (F2 t)∧0≤n∧(by_:Int) * n≤281474976710656∧n≤9223372036854775807,.c (.ow (nm d)),[nm d],[nm d],[(nm d,.tree e t (List.replicate n.toNat t.dflt) none)]⟩ else none
      else none
     | _,_=>none
   | _=>none
 | _,_=>none
theorem N0 (t:Ty):(F2 t).length=t.w:=by
 induction t with
 | prod a b ha hb=>simp[F2,Ty.w,ha,hb]
 | _=>simp[F2,Ty.w]
theorem B4m (l:List Value) (hl:0 < l.length) (n:Nat) (z:Array Value) (hz:z.toList=l):(madeCells z (n * l.length)).toList=(List.replicate n l).flatten:=by
 have hsz:z.size=l.length:=by rw[←hz];simp
 apply List.ext_getElem?
 intro q;unfold madeCells;rw[hsz]
 by_cases hq:q < n * l.length
 · have e1:((Array.range (n * l.length)).map (z[· % l.length]!)).toList[q]?=l[q % l.length]?:=by
    have hm:q % l.length < z.size:=by rw[hsz];exact Nat.mod_lt _ hl
    have hm2:q % l.length < l.length:=Nat.mod_lt _ hl
    simp only[Array.toList_map,Array.toList_range,List.getElem?_map,List.getElem?_range hq,Option.map_some];rw[List.getElem?_eq_getElem hm2,getElem!_pos z _ hm]
    congr 1
    have:z[q % l.length]=z.toList[q % l.length]'(by simpa using hm):=by simp
    rw[this];congr 1
   rw[e1];clear e1
   induction n generalizing q with
   | zero=>simp at hq
   | succ n ih =>
     rw[List.replicate_succ,List.flatten_cons]
     by_cases h1:q < l.length
     · rw[List.getElem?_append_left h1,Nat.mod_eq_of_lt h1]
     · rw[List.getElem?_append_right (by omega),←ih (q - l.length) (by rw[Nat.add_mul] at hq;omega)]
       congr 1
       rw[Nat.mod_eq_sub_mod (by omega)]
 · rw[List.getElem?_eq_none (by simp;omega),List.getElem?_eq_none (by simp;omega)]
theorem B15 (t:Ty):∀v∈F2 t,∀b l k,v≠.slice (some b) l k:=by
 induction t with
 | prod a b ha hb =>
   intro v hv
   simp only[F2,List.mem_append] at hv
   rcases hv with hv|hv
   · exact ha v hv
   · exact hb v hv
 | _=>intro v hv b l k h;simp only[F2,List.mem_singleton] at hv;rw[hv] at h;cases h
theorem ElO.dflt {R:Rz} {w:World} {n:Nat}:∀{t:Ty},t.ok2=true→ElO R w n t (F2 t) t.dflt:=by
 intro t
 induction t with
 | prod a b ha hb =>
   intro h;simp only[Ty.ok2,Bool.and_eq_true] at h
   exact⟨_,_,rfl,ha h.1,hb h.2⟩
 | row e t ih=>intro h;exact⟨h,_,rfl,.inl ⟨rfl,rfl⟩⟩
 | _=>intro _;rfl
theorem TrL.replicate {R:Rz} {w:World} {n b0:Nat} {t:Ty} (h:t.ok2=true) (k:Nat):TrL R w n b0 t none ((List.replicate k (F2 t)).flatten) (List.replicate k t.dflt):=by
 have no:∀v∈(List.replicate k (F2 t)).flatten,∀b l q,v≠.slice (some b) l q:=fun v hv=>by
  obtain⟨l,h1,h2⟩:=List.mem_flatten.1 hv
  rw[(List.mem_replicate.1 h1).2] at h2
  exact B15 t v h2
 refine⟨?_,fun i hi _=>?_,fun c b l q hc hh hcell=>absurd rfl (no _ (List.mem_of_getElem? hcell) _ _ _)⟩
 · have:=(RdL.replicate (S:=fun _=>True) (w:=w) (t:=t) k).1
   simpa using this
 · have h0:i < k:=by simpa using hi
   have e:((List.replicate k (F2 t)).flatten.drop (i * t.w)).take t.w=F2 t:=by
    clear no hi
    induction k generalizing i with
    | zero=>omega
    | succ k ih =>
      rw[List.replicate_succ,List.flatten_cons];cases i with
      | zero=>rw[Nat.zero_mul,List.drop_zero,List.take_append_of_le_length (by rw[N0];exact Nat.le_refl _),List.take_of_length_le (by rw[N0];exact Nat.le_refl _)]
      | succ i =>
        have e2:(i+1) * t.w=(F2 t).length+i * t.w:=by rw[N0,Nat.add_mul];omega
        rw[e2,←List.drop_drop,List.drop_left];exact ih i (by simp[j5]) (by omega)
   rw[e,List.getElem_replicate];exact ElO.dflt h
theorem B6r {G:TypeId→Option Ty} {tt:TypeId} {x y:Operand} {r:Res} (ho:o.op=.makeSlice tt x y) (h:B38 P G σ o.dst tt x y=some r) (hc:r.c) (hs:Sim R0 w0 R σ a w)
 (hK:∀R' v w',Done R w r.N r.M r.r r.news R' v w'→K (a.put o.dst v) w'):o.wp P a w K Q:=by
 have h1:=hs.ev x
 have h2:=hs.ev y
 unfold B38 at h
 split at h
 case h_2=>cases h
 rename_i k n k' m e1 e2
 rw[e1] at h1;rw[e2] at h2
 simp only[VR,VRc] at h1 h2
 split at h
 case h_2=>cases h
 rename_i e e3
 split at h
 case h_2=>cases h
 rename_i t sz by_ e4 e5'
 split at h
 case isFalse=>cases h
 rename_i e6
 have hc':m=n∧H7 P e=some (F2 t)∧0≤n∧(by_:Int) * n≤281474976710656∧n≤9223372036854775807:=by
  split at h
  · cases h;exact hc
  · split at h
    · cases h;exact hc
    · cases h
 obtain⟨rfl,c2,c3,c4,c5⟩:=hc'
 obtain⟨i,zv,i1,i2,i3⟩:=V5 c2
 obtain⟨i',e5,i5,rfl⟩:=A7X e5'
 rw[e5] at i1;cases i1
 subst e6;have hlz:zv.cells.size=t.w:=by rw[←Array.length_toList,i3,N0]
 have hml:9223372036854775807=maxLen:=rfl
 have hr:=run_make (P:=P) w tt e i zv e3 e5 i2 k k' m m c3 (Int.le_refl _) c4 c5
 have hn:=A4o o.dst
 have hw:=t.w_pos
 have hfl:(madeCells zv.cells (m.toNat * i.size)).toList=(List.replicate m.toNat (F2 t)).flatten:=by
  have:=B4m (F2 t) (by rw[N0];exact hw) m.toNat zv.cells i3
  rwa [N0,←i5] at this
 have hexec:(execOp a.eval o).run P w=.ok (.value (.slice (some ⟨w.heap.size,0,none⟩) m.toNat m.toNat)) (w.alloc (.cells (madeCells zv.cells (m.toNat * i.size)) e)):=by
  unfold execOp;simp only[ho,h1,h2,Sem.run_bind,hr];simp
 split at h
 · cases h
   refine A7s (cap:=m.toNat) (cur:=madeCells zv.cells (m.toNat * i.size)) hs hn (by simp) (by rw[hexec];simp) (.inl rfl) (by simp) (by rw[←hml];omega) (by rw[size_madeCells,i5]) ?_ hK
   rw[List.take_of_length_le (by rw[Array.length_toList,size_madeCells,i5];simp),hfl]
   exact RdL.replicate _
 · split at h
   case isFalse=>cases h
   rename_i hok
   cases h
   refine A6L (ms:=[]) (cap:=m.toNat) (cur:=madeCells zv.cells (m.toNat * i.size)) hs hn (by simp) (by rw[hexec];simp) rfl (by simp) (by rw[←hml];omega) (by rw[size_madeCells,i5]) (fun R' _=>?_) hK
   rw[List.take_of_length_le (by rw[Array.length_toList,size_madeCells,i5];simp),hfl]
   exact TrL.replicate hok _
end
open Go.RowKit
def T1:(T:Ty)→Nat→(t:Ty)→(List t.den→List t.den)→T.den→Option T.den
 | .prod a b, o, t, f, x => if o < a.w then match T1 a o t f x.1 with
  | some y=>some (y,x.2)
  | none=>none
  else match T1 b (o - a.w) t f x.2 with
   | some y=>some (x.1,y)
   | none=>none
 | .row _ t',o,t,f,x=>if o=0 then if h:t'=t then some (h ▸ f (P9 h x)) else none else none
 | .int _,_,_,_,_=>none
 | .bool,_,_,_,_=>none
 | .str,_,_,_,_=>none
section
variable {R0 R R':Rz} {w0 w w':World} {σ:St} {a:Act} {n n':Nat}
theorem B7k (hs:Sim R0 w0 R σ a w) (pos:Option (Nat × Nat × Nat)):∀(t:Ty) {o:Nat} {l:List CV} {us:List Value} {x:t.den} {ms:List Nat},VRs R w l us→elT σ pos o t l=some (x,ms)→ms.Nodup →
 (∀n i wd,pos=some (n,i,wd)→n ∉ ms) →
 (∀(c b l' k:Nat),us[c]?=some (.slice (some ⟨b,0,none⟩) l' k)→R.root b∈ms∨∃n i wd,pos=some (n,i,wd)∧R.root b=n∧w.cell? ⟨R.bk n,i * wd+(o+c),none⟩=us[c]?) ∧
 (∀(c c' b l k l' k':Nat),us[c]?=some (.slice (some ⟨b,0,none⟩) l k)→us[c']?=some (.slice (some ⟨b,0,none⟩) l' k')→R.root b∈ms→c=c'):=by
 intro t
 have triv:∀{us:List Value} {ms:List Nat} {o:Nat} (u:Value),us=[u]→(∀(b l k:Nat),u=.slice (some ⟨b,0,none⟩) l k→R.root b∈ms∨∃n i wd,pos=some (n,i,wd)∧R.root b=n∧w.cell? ⟨R.bk n,i * wd+(o+0),none⟩=us[0]?) →
  (∀(c b l' k:Nat),us[c]?=some (.slice (some ⟨b,0,none⟩) l' k)→R.root b∈ms∨∃n i wd,pos=some (n,i,wd)∧R.root b=n∧w.cell? ⟨R.bk n,i * wd+(o+c),none⟩=us[c]?) ∧
  (∀(c c' b l k l' k':Nat),us[c]?=some (.slice (some ⟨b,0,none⟩) l k)→us[c']?=some (.slice (some ⟨b,0,none⟩) l' k')→R.root b∈ms→c=c'):=by
  rintro us ms o u rfl h
  refine⟨fun c b l' k hc=>?_,fun c c' b l k l' k' hc hc' _=>?_⟩
  · cases c with
    | zero=>exact h b l' k (by simpa using hc)
    | succ c=>simp at hc
  · cases c with
    | zero =>
      cases c' with
      | zero=>rfl
      | succ c=>simp at hc'
    | succ c=>simp at hc
 induction t with
 | int k =>
   intro o l us x ms h1 h2 _ _
   simp only[elT] at h2
   split at h2
   · split at h2
     · rename_i e;cases h2;subst e
       obtain⟨u,rfl,h3⟩:=E5 h1
       cases h3;exact triv _ rfl (by intro b l k h;cases h)
     · cases h2
   · cases h2
 | bool =>
   intro o l us x ms h1 h2 _ _
   simp only[elT] at h2
   split at h2
   · cases h2
     obtain⟨u,rfl,h3⟩:=E5 h1
     cases h3;exact triv _ rfl (by intro b l k h;cases h)
   · cases h2
 | str =>
   intro o l us x ms h1 h2 _ _
   simp only[elT] at h2
   split at h2
   · cases h2
     obtain⟨u,rfl,h3⟩:=E5 h1
     cases h3;exact triv _ rfl (by intro b l k h;cases h)
   · cases h2
 | row e t ih =>
   intro o l us x ms h1 h2 _ _
   simp only[elT] at h2
   split at h2
   · cases h2
   rename_i hf
   split at h2
   · cases h2
     obtain⟨u,rfl,h3⟩:=E5 h1
     cases h3
     exact triv _ rfl (by intro b l k h;cases h)
   · rename_i m
     split at h2
     · rename_i e' t' xs S he
       split at h2
       case isFalse=>cases h2
       rename_i hc
       obtain⟨rfl,hc⟩:=hc
       split at h2
       · rename_i ht;subst ht;cases h2
         obtain⟨u,rfl,h3⟩:=E5 h1
         refine triv _ rfl fun b l k hu=>.inl ?_
         have h3:u=R.hd m:=h3
         rcases hs.look he with⟨h4,_⟩|⟨cap,cur,h4,h5,_⟩
         · rw[←h3,hu] at h4;cases h4
         · rw[←h3,hu] at h4;cases h4
           simp[h5]
       · cases h2
     · cases h2
   · rename_i n i wd o' e' t' xs
     split at h2
     case isFalse=>cases h2
     rename_i hc
     obtain⟨hp,rfl,rfl⟩:=hc
     split at h2
     · rename_i ht;subst ht;cases h2
       obtain⟨u,rfl,h3⟩:=E5 h1
       refine triv _ rfl fun b l k hu=>.inr ⟨n,i,wd,hp,?_,h3.1⟩
       rcases h3.2.2 with⟨h4,_⟩|⟨b',cap,cur,h4,h5,_⟩
       · rw[hu] at h4;cases h4
       · rw[hu] at h4;cases h4;exact h5
     · cases h2
   · cases h2
 | prod p q hp hq =>
   intro o l us x ms h1 h2 hn hpos
   simp only[elT] at h2
   split at h2
   · rename_i y m1 z m2 e1 e2
     cases h2
     obtain⟨n1,n2,n3⟩:=List.nodup_append.1 hn
     obtain⟨a1,a2⟩:=hp (h1.take p.w) e1 n1 (fun n i wd h hm=>hpos n i wd h (List.mem_append_left _ hm))
     obtain⟨b1,b2⟩:=hq (h1.drop p.w) e2 n2 (fun n i wd h hm=>hpos n i wd h (List.mem_append_right _ hm))
     have cs:∀c v,us[c]?=some v→(c < p.w∧(us.take p.w)[c]?=some v)∨(p.w≤c∧(us.drop p.w)[c - p.w]?=some v):=fun c v hc=>by
      rcases Nat.lt_or_ge c p.w with hl|hl
      · exact .inl ⟨hl,by rw[List.getElem?_take_of_lt hl];exact hc⟩
      · exact .inr ⟨hl,by rw[List.getElem?_drop,(by omega:p.w+(c - p.w)=c)];exact hc⟩
     have na:∀(c b l k:Nat),(us.take p.w)[c]?=some (.slice (some ⟨b,0,none⟩) l k)→R.root b∈m1++m2→R.root b∈m1:=fun c b l k hc hb=>by
      rcases a1 c b l k hc with h|⟨n,i,wd,h,h',_⟩
      · exact h
      · exact absurd hb (by rw[h'];exact hpos n i wd h)
     have nb:∀(c b l k:Nat),(us.drop p.w)[c]?=some (.slice (some ⟨b,0,none⟩) l k)→R.root b∈m1++m2→R.root b∈m2:=fun c b l k hc hb=>by
      rcases b1 c b l k hc with h|⟨n,i,wd,h,h',_⟩
      · exact h
      · exact absurd hb (by rw[h'];exact hpos n i wd h)
     refine⟨fun c b l' k hc=>?_,fun c c' b l k l' k' hc hc' hb=>?_⟩
     · rcases cs c _ hc with⟨hl,q1⟩|⟨hl,q1⟩
       · rcases a1 c b l' k q1 with h|⟨n,i,wd,h,h',h''⟩
         · exact .inl (List.mem_append_left _ h)
         · exact .inr ⟨n,i,wd,h,h',by rw[h'',q1,hc]⟩
       · rcases b1 _ b l' k q1 with h|⟨n,i,wd,h,h',h''⟩
         · exact .inl (List.mem_append_right _ h)
         · refine .inr ⟨n,i,wd,h,h',?_⟩
           rw[(by omega:o+c=o+p.w+(c - p.w)),h'',q1,hc]
     · rcases cs c _ hc with⟨hl,q1⟩|⟨hl,q1⟩<;>rcases cs c' _ hc' with⟨hl',q1'⟩|⟨hl',q1'⟩
       · exact a2 c c' b l k l' k' q1 q1' (na _ _ _ _ q1 hb)
       · exact(n3 _ (na _ _ _ _ q1 hb) _ (nb _ _ _ _ q1' hb) rfl).elim
       · exact(n3 _ (na _ _ _ _ q1' hb) _ (nb _ _ _ _ q1 hb) rfl).elim
       · have:=b2 _ _ b l k l' k' q1 q1' (nb _ _ _ _ q1 hb);omega
   · cases h2
theorem ElO.block {t:Ty} {us:List Value} {x:t.den} (h:ElO R w n t us x) {c b l cap:Nat} (hc:us[c]?=some (.slice (some ⟨b,0,none⟩) l cap)):∃cur e,w.heap[b]?=some (.cells cur e (0,0)):=by
 induction t generalizing us c with
 | int _=>simp only[ElO] at h;subst h;cases c<;>simp at hc
 | bool=>simp only[ElO] at h;subst h;cases c<;>simp at hc
 | str=>simp only[ElO] at h;subst h;cases c<;>simp at hc
 | prod a b ha hb =>
   obtain⟨u1,u2,rfl,h1,h2⟩:=h
   by_cases hl:c < u1.length
   · rw[List.getElem?_append_left hl] at hc;exact ha h1 hc
   · rw[List.getElem?_append_right (by omega)] at hc;exact hb h2 hc
 | row e t ih =>
   obtain⟨h1,u,rfl,h2⟩:=h;cases c with
   | succ c=>simp at hc
   | zero =>
     simp only[List.getElem?_cons_zero,Option.some.injEq] at hc
     rcases h2 with⟨h2,_⟩|⟨b',cap',cur,h3,h4,h5,_⟩
     · rw[hc] at h2;cases h2
     · rw[hc] at h3;cases h3
       exact⟨cur,e,h5⟩
theorem ElO.upd {b l0 cap0:Nat} {t:Ty} {f:List t.den→List t.den}
 (step:∀e ys,RowO R w n e t (.slice (some ⟨b,0,none⟩) l0 cap0) ys→RowO R' w' n e t (.slice (some ⟨b,0,none⟩) l0 cap0) (f ys))
 (others:∀b',b'≠b→R.root b'=n→b' < w.heap.size→w'.heap[b']?=w.heap[b']?∧R'.root b'=n) :
 ∀ (T : Ty) {o : Nat} {us : List Value} {x z : T.den}, ElO R w n T us x → us[o]? = some (.slice (some ⟨b, 0, none⟩) l0 cap0) → T1 T o t f x = some z →
   (∀(c l k:Nat),us[c]?=some (.slice (some ⟨b,0,none⟩) l k)→c=o)→ElO R' w' n T us z:=by
 intro T
 induction T with
 | int k=>intro o us x z _ _ h;simp[T1] at h
 | bool=>intro o us x z _ _ h;simp[T1] at h
 | str=>intro o us x z _ _ h;simp[T1] at h
 | row e t' ih =>
   intro o us x z h1 h2 h3 _
   simp only[T1] at h3
   split at h3
   case isFalse=>cases h3
   rename_i ho
   subst ho
   split at h3
   case isFalse=>cases h3
   rename_i ht
   subst ht;cases h3
   obtain⟨k1,u,rfl,k2⟩:=h1;simp only[List.getElem?_cons_zero,Option.some.injEq] at h2
   subst h2;exact⟨k1,_,rfl,step e x k2⟩
 | prod p q hp hq =>
   intro o us x z h1 h2 h3 h4
   obtain⟨u1,u2,rfl,k1,k2⟩:=h1;have l1:=k1.rd.len
   simp only[T1] at h3
   split at h3
   · rename_i ho
     split at h3
     case h_2=>cases h3
     rename_i y e1
     cases h3
     rw[List.getElem?_append_left (by omega)] at h2
     refine⟨u1,u2,rfl,hp k1 h2 e1 fun c l k hc=>h4 c l k ?_,k2.mv fun c b' l k hc hr hlt=>others b' ?_ hr hlt⟩
     · rw[List.getElem?_append_left (List.getElem?_eq_some_iff.1 hc).1];exact hc
     · rintro rfl
       have:=h4 (u1.length+c) l k (by rw[List.getElem?_append_right (by omega)];simpa using hc)
       omega
   · rename_i ho
     split at h3
     case h_2=>cases h3
     rename_i y e1
     cases h3
     rw[List.getElem?_append_right (by omega),l1] at h2
     refine⟨u1,u2,rfl,k1.mv fun c b' l k hc hr hlt=>others b' ?_ hr hlt,hq k2 h2 e1 fun c l k hc=>?_⟩
     · rintro rfl
       have hl:=(List.getElem?_eq_some_iff.1 hc).1
       have:=h4 c l k (by rw[List.getElem?_append_left hl];exact hc)
       omega
     · have:=h4 (u1.length+c) l k (by rw[List.getElem?_append_right (by omega)];simpa using hc)
       omega
end
open Go.RowKit
def A92 (P:Program) (σ:St) (t:TypeId) (p x:Operand):Option Res :=
 match σ.ev p,A0x (σ.ev x) with
 | .c (.po n k), some cs => match σ.look n with
   | some (.box l)=>if P1 P t=some cs.length∧k+cs.length≤l.length∧cs.all (y4 σ)∧5 < n then
    some ⟨True,.c .bot,[n],[],[(n,.box ((splice l k cs).map (CV.kill [n] [])))]⟩ else none
   | _=>none
 | .c (.pe n i wd k), some cs => match σ.look n with
   | some (.row e t' xs S)=>if P1 P t=some cs.length∧wd=t'.w∧k+cs.length≤t'.w∧cs.all (y4 σ)∧5 < n then
    match rds σ t' (splice (cellsOf S t' (xs.getD i t'.dflt)) k cs) with
    | some (y, S') => match t'.flat with
      | true=>some ⟨i < xs.length,.c .bot,[n],[],[(n,.row e t' (xs.set i y) [])]⟩
      | false=>if (uni S S').contains n then none else some ⟨i < xs.length,.c .bot,[n],[],[(n,.row e t' (xs.set i y) (uni S S'))]⟩
    | none=>none
    else none
   | some (.tree e t' xs h)=>if P1 P t=some cs.length∧wd=t'.w∧k+cs.length≤t'.w∧cs.all (y4 σ)∧5 < n then
    match h with
    | none => match elT σ (some (n, i, wd)) 0 t' (splice (a9 n i wd 0 t' (xs.getD i t'.dflt)) k cs) with
      | some (y,ms)=>if ms.Nodup∧¬ms.contains n∧ms.all (fun m=>5 < m) then some ⟨i < xs.length,.c .bot,n::ms,ms,[(n,.tree e t' (xs.set i y) none)]⟩ else none
      | none=>none
    | some pq => if k = 0 ∧ cs.length = t'.w then match elT σ none 0 t' cs with
      | some (y,ms)=>if ms.Nodup∧¬ms.contains n∧ms.all (fun m=>5 < m) then some ⟨i < xs.length∧pq.1=i∧pq.2=i+1,.c .bot,n::ms,ms,[(n,.tree e t' (xs.set i y) none)]⟩ else none
      | none=>none else none
    else none
   | _=>none
 | .c (.pi n i wd o j t' x' k), some cs => match σ.look n with
   | some (.tree e T xs none)=>if P1 P t=some cs.length∧wd=T.w∧o < T.w∧k+cs.length≤t'.w∧cs.all (y4 σ)∧5 < n∧t'.flat=true then
    match rds σ t' (splice (cellsOf [n] t' x') k cs) with
    | some (y, _) => match T1 T o t' (fun l => l.set j y) (xs.getD i T.dflt) with
      | some z=>some ⟨i < xs.length,.c .bot,[n],[],[(n,.tree e T (xs.set i z) none)]⟩
      | none=>none
    | none=>none
    else none
   | _=>none
 | _,_=>none
section
variable {P:Program} {R0 R:Rz} {w0 w:World} {σ:St} {a:Act} {o:Oper} {K:Act→World→Prop} {Q:Exit→Act→World→Prop}
theorem t5 {w':World} {R':Rz} {r:Res} (hs:Sim R0 w0 R σ a w) (hrun:(execOp a.eval o).run P w=.ok .skip w')
 (hf:FR r.N r.M R w R' w') (h0:∀n∈r.N,5 < n) (hr:r.r=.c .bot) (hn:obsOk R' w' r.news)
 (hK:∀R' v w',Done R w r.N r.M r.r r.news R' v w'→K (a.put o.dst v) w'):o.wp P a w K Q:=by
 unfold Oper.wp
 rw[hrun];exact hK _ _ _ ⟨hf,h0,by rw[hr];simp[VR,VRc],hn⟩
theorem A7J {n:Nat} {cs:Array Value} (h:R.root (R.bk n)=n):FR [n] [] R w R (w.setRow (R.bk n) cs):=by
 refine⟨rfl,rfl,rfl,by simp,fun b hb hr=>⟨setRow_other w _ b cs ?_,rfl⟩,fun m _=>⟨rfl,rfl⟩,fun m _=>⟨rfl,rfl⟩⟩
 intro e;subst e;exact hr (by rw[h];simp)
theorem A29 {t:TypeId} {x:Operand} {p:Operand} {g k:Nat} {cur:Array Value} {T:TypeId} (ho:o.op=.store t p x) (hp:a.eval p=.pointer (some ⟨g,k,none⟩)) (hg:w.heap[g]?=some (.cells cur T (0,0)))
 (hsz:P1 P t=some (a.eval x).cells.size) (hl:k+(a.eval x).cells.size≤cur.size) (h1:∀v∈(a.eval x).cells.toList,v.oneCell'=true) :
 (execOp a.eval o).run P w=.ok .skip (w.setRow g (splice cur.toList k (a.eval x).cells.toList).toArray):=by
 obtain⟨i,e1,e2⟩:=V6 hsz
 have h2:=run_storeCells_at P g k T (a.eval x).cells.toList 0 cur w hg (by simpa using hl) h1
 simp only[Nat.add_zero] at h2
 unfold execOp;simp only[ho,hp,Instr.storeAt,Instr.sureAddr,storeVar,Sem.run_bind,Sem.run_pure,Result.andThen_ok,sizeOf,typeInfo,run_program,e1,e2];simp only[ne_eq,not_true_eq_false,if_false,h2,Result.andThen_ok,splice]
theorem A10 (L us:List Value) (i j k w':Nat) (hk:k+us.length≤w') (hL:i * w'+w'≤L.length) :
 ((splice L (i * w'+k) us).drop (j * w')).take w'=if j=i then splice ((L.drop (i * w')).take w') k us else (L.drop (j * w')).take w':=by
 apply List.ext_getElem?
 intro q
 by_cases hj:j=i
 · subst hj;rw[if_pos rfl]
   by_cases hq:q < w'
   · rw[B8 hq,O8 _ _ _ (by omega),O8 _ _ _ (by simp;omega),B8 hq]
     by_cases h1:k≤q∧q < k+us.length
     · rw[if_pos (by omega),if_pos h1];congr 1;omega
     · rw[if_neg (by omega),if_neg h1]
   · rw[List.getElem?_eq_none (by simp;omega),List.getElem?_eq_none (by rw[O9 _ _ _ (by simp;omega)];simp;omega)]
 · rw[if_neg hj]
   by_cases hq:q < w'
   · rw[B8 hq,B8 hq,O8 _ _ _ (by omega),if_neg]
     rintro⟨h1,h2⟩
     rcases Nat.lt_or_gt_of_ne hj with h3|h3
     · have:=Nat.mul_le_mul_right w' h3
       rw[Nat.succ_mul] at this;omega
     · have:=Nat.mul_le_mul_right w' h3
       rw[Nat.succ_mul] at this;omega
   · rw[List.getElem?_eq_none (by simp;omega),List.getElem?_eq_none (by simp;omega)]
theorem B4Q {t:TypeId} {p x:Operand} {r:Res} (ho:o.op=.store t p x) (h:A92 P σ t p x=some r) (hc:r.c) (hs:Sim R0 w0 R σ a w)
 (hK:∀R' v w',Done R w r.N r.M r.r r.news R' v w'→K (a.put o.dst v) w'):o.wp P a w K Q:=by
 have h1:=hs.ev p
 have h2:=hs.ev x
 unfold A92 at h
 split at h
 · rename_i n k cs e1 e2
   rw[e1] at h1;simp only[VR,VRc] at h1
   split at h
   case h_2=>cases h
   rename_i l e3
   split at h
   case isFalse=>cases h
   rename_i hcond
   obtain⟨c1,c2,c3,c4⟩:=hcond;cases h
   obtain⟨us,T,h3,h4,h5⟩:=hs.look e3
   obtain⟨h6,h7⟩:=T6 hs h2 e2 c3
   have hl6:=h6.length
   have hl5:=h5.length
   simp only[Array.length_toList] at hl6 hl5
   have hf:=A7J (w:=w) (cs:=(splice us.toList k (a.eval x).cells.toList).toArray) h4
   have h0:(0:Nat) ∉ [n]:=by simp;omega
   refine t5 hs (A29 ho h1 h3 (by rw[c1,hl6]) (by omega) h7) hf (by simpa using c4) rfl ?_ hK
   intro q hq
   simp only[List.mem_singleton] at hq
   subst hq;exact⟨_,T,setRow_heap w _ us _ T _ h3,h4,(h5.splice k h6).kill hf h0⟩
 · rename_i n i wd k cs e1 e2
   rw[e1] at h1;simp only[VR,VRc] at h1
   obtain⟨R1,hR1⟩:∃R1:List Nat→Rz,R1=fun ms=>{ R with root:=fun b=>if R.root b∈ms then n else R.root b }:=⟨_,rfl⟩
   have frT:∀(ms:List Nat) (cs:Array Value),R.root (R.bk n)=n→FR (n::ms) ms R w (R1 ms) (w.setRow (R.bk n) cs):=fun ms cs hr=>by
    subst hR1;refine⟨rfl,rfl,rfl,by simp,fun b hb hr'=>?_,fun m _=>⟨rfl,rfl⟩,fun m _=>⟨rfl,rfl⟩⟩
    simp only[List.mem_cons,not_or] at hr'
    exact⟨setRow_other w _ b cs (by rintro rfl;exact hr'.1 hr),by simp[hr'.2]⟩
   split at h
   · rename_i e t' xs S e3
     split at h
     case isFalse=>cases h
     rename_i hcond
     obtain⟨c1,rfl,c3,c4,c5⟩:=hcond
     split at h
     case h_2=>cases h
     rename_i y S' e4
     have core:∀(S1:List Nat),(∀us z,Rd (okS R (uni S S')) w t' us z→Rd (okS R S1) w t' us z)→n ∉ S1→r=⟨i < xs.length,.c .bot,[n],[],[(n,.row e t' (xs.set i y) S1)]⟩→o.wp P a w K Q:=by
      intro S1 hS1 hnS1 hr
      subst hr;have hc:i < xs.length:=hc
      obtain⟨h6,h7⟩:=T6 hs h2 e2 c4
      have hl6:=h6.length
      simp only[Array.length_toList] at hl6
      rcases hs.look e3 with⟨_,k2⟩|⟨cap,cur,k1,k2,k3,k4,k5,k6,k7⟩
      · subst k2;simp at hc
      have hle:i * t'.w+t'.w≤cur.size:=by
       rw[k6,←Nat.succ_mul];exact Nat.mul_le_mul_right _ (by omega)
      have hf:=A7J (w:=w) (cs:=(splice cur.toList (i * t'.w+k) (a.eval x).cells.toList).toArray) k2
      have h0:(0:Nat) ∉ [n]:=by simp;omega
      have e5:xs.getD i t'.dflt=xs[i]:=by simp[List.getD,hc]
      rw[e5] at e4
      have hnS:∀m∈S1,m ∉ [n]:=fun m hm=>by
       simp only[List.mem_singleton];intro e;exact hnS1 (e ▸ hm)
      have hy:Rd (okS R S1) w t' (splice ((cur.toList.drop (i * t'.w)).take t'.w) k (a.eval x).cells.toList) y :=
       hS1 _ _ ((j6 hs t' (((k7 i hc).cells).splice k h6) e4).mono (okS.mono fun _=>x8))
      refine t5 hs (A29 ho h1 k3 (by rw[c1,hl6]) (by omega) h7) hf (by simpa using c5) rfl ?_ hK
      intro q hq
      simp only[List.mem_singleton] at hq
      subst hq;refine .inr ⟨cap,_,by rw[List.length_set];exact k1,k2,setRow_heap w _ cur _ e _ k3,by rw[List.length_set];exact k4,k5,?_,fun j hj=>?_⟩
      · rw[←Array.length_toList,O9 _ _ _ (by simp;omega)];simpa using k6
      · rw[List.length_set] at hj;simp only[];rw[A10 _ _ i j k t'.w (by simp;omega) (by simpa using hle)]
        by_cases hji:j=i
        · subst hji;rw[if_pos rfl,List.getElem_set_self];exact hy.fr hf h0 hnS
        · rw[if_neg hji,List.getElem_set_ne (Ne.symm hji)]
          exact(hS1 _ _ ((k7 j hj).mono (okS.mono fun _=>s7))).fr hf h0 hnS
     split at h
     · rename_i hfl
       cases h
       exact core [] (fun us z hz=>Rd.flat hfl hz) (by simp) rfl
     · split at h
       case isTrue=>cases h
       rename_i c6
       cases h
       exact core (uni S S') (fun us z hz=>hz) (by simpa using c6) rfl
   · rename_i e t' xs hh e3
     split at h
     case isFalse=>cases h
     rename_i hcond
     obtain⟨c1,rfl,c3,c4,c5⟩:=hcond;obtain⟨h6,h7⟩:=T6 hs h2 e2 c4
     have hl6:=h6.length
     simp only[Array.length_toList] at hl6
     have tw:=t'.w_pos
     -- the element's new cells, read
     have core:∀{pos:Option (Nat × Nat × Nat)} {y:t'.den} {ms:List Nat} {l:List CV},i < xs.length→(∀j,j < xs.length→j≠i→¬j5 hh j)→(pos=none∨pos=some (n,i,t'.w)∧¬j5 hh i) →
      (∀us,us.length=t'.w→(¬j5 hh i→VRs R w (a9 n i t'.w 0 t' (xs.getD i t'.dflt)) us)→VRs R w l (splice us k (a.eval x).cells.toList)) →
      elT σ pos 0 t' l=some (y,ms)→ms.Nodup→n ∉ ms→(∀m∈ms,5 < m)→r=⟨r.c,.c .bot,n::ms,ms,[(n,.tree e t' (xs.set i y) none)]⟩→o.wp P a w K Q:=by
      intro pos y ms l hc hoth hpos hl e4 d1 d2 d3 hr
      rcases hs.look e3 with⟨_,k2⟩|⟨cap,cur,k1,k2,k3,k4,k5,k6,k7,k8⟩
      · subst k2;simp at hc
      have hle:i * t'.w+t'.w≤cur.size:=by
       rw[k6,←Nat.succ_mul];exact Nat.mul_le_mul_right _ (by omega)
      have hlen:((cur.toList.drop (i * t'.w)).take t'.w).length=t'.w:=by simp;omega
      have e5:xs.getD i t'.dflt=xs[i]:=by simp[List.getD,hc]
      have hcell:∀j,j < t'.w→w.cell? ⟨R.bk n,i * t'.w+j,none⟩=((cur.toList.drop (i * t'.w)).take t'.w)[j]?:=fun j hj=>by
       rw[B8 hj];simp[World.cell?,k3]
      have hV:=hl _ hlen (fun hi=>by rw[e5];exact(k7 i hc hi).cells k2 (fun j hj=>by rw[Nat.zero_add];exact hcell j hj))
      have hf:=frT ms (splice cur.toList (i * t'.w+k) (a.eval x).cells.toList).toArray k2
      have hposn:∀q i' wd,pos=some (q,i',wd)→q=n∧i'=i∧wd=t'.w∧¬j5 hh i:=fun q i' wd h=>by
       rcases hpos with h'|⟨h',h''⟩
       · rw[h'] at h;cases h
       · rw[h'] at h;cases h;exact⟨rfl,rfl,rfl,h''⟩
      obtain⟨src,inj⟩:=B7k hs pos t' hV e4 d1 (fun q i' wd h=>by rw[(hposn q i' wd h).1];exact d2)
      -- each of the new element's slices has A9a in, or was there
      have old:∀(c b l' q:Nat),c < t'.w→(splice ((cur.toList.drop (i * t'.w)).take t'.w) k (a.eval x).cells.toList)[c]?=some (.slice (some ⟨b,0,none⟩) l' q)→R.root b∈ms∨R.root b=n∧¬j5 hh i∧cur.toList[i * t'.w+c]?=some (.slice (some ⟨b,0,none⟩) l' q):=fun c b l' q hcw hc'=>by
       rcases src c b l' q hc' with h|⟨n1,i1,wd1,h,h',h''⟩
       · exact .inl h
       · obtain⟨rfl,rfl,rfl,h4⟩:=hposn _ _ _ h
         refine .inr ⟨h',h4,?_⟩
         rw[Nat.zero_add,hcell c hcw,B8 hcw,hc'] at h''
         exact h''
      have rt:∀b,R.root b=n→(R1 ms).root b=n:=fun b hb=>by subst hR1;simp[hb,d2]
      have hp:∀b,b≠R.bk n→(w.setRow (R.bk n) (splice cur.toList (i * t'.w+k) (a.eval x).cells.toList).toArray).heap[b]?=w.heap[b]?:=fun b hb=>setRow_other w _ b _ hb
      have olds:∀(c b l' q:Nat),c < xs.length * t'.w→¬j5 hh (c / t'.w)→cur.toList[c]?=some (.slice (some ⟨b,0,none⟩) l' q)→R.root b=n:=fun c b l' q hc1 hc2 hc3=>by
       have h1:=k7 (c / t'.w) (by rw[Nat.div_lt_iff_lt_mul tw];exact hc1) hc2
       have e:(c / t'.w) * t'.w+c % t'.w=c:=by rw[Nat.mul_comm];exact Nat.div_add_mod c t'.w
       exact(h1.root (c:=c % t'.w) (l:=l') (cap:=q) (by rw[B8 (Nat.mod_lt _ tw),e];exact hc3)).1
      have hbkm:∀b,R.root b∈ms→b≠R.bk n:=fun b hb=>by rintro rfl;rw[k2] at hb;exact d2 hb
      have hEl:ElO (R1 ms) (w.setRow (R.bk n) (splice cur.toList (i * t'.w+k) (a.eval x).cells.toList).toArray) n t' (splice ((cur.toList.drop (i * t'.w)).take t'.w) k (a.eval x).cells.toList) y:=by
       refine A94 hs ms (fun b hb _=>⟨hp b (hbkm b hb),by subst hR1;simp[hb]⟩) t' hV e4 (fun m hm=>hm) fun n1 i1 wd1 h c o1 e1 t1 xs1 b l' q hlc hus hr' hlt=>?_
       obtain⟨rfl,rfl,rfl,h4⟩:=hposn _ _ _ h
       have hcw:c < t'.w:=by
        have:=(List.getElem?_eq_some_iff.1 hus).1
        rw[O9 _ _ _ (by rw[hlen];simp;omega),hlen] at this
        exact this
       rcases old c b l' q hcw hus with hm|⟨_,_,ho⟩
       · exact absurd (hr' ▸ hm) d2
       · have hlt2:i1 * t'.w+c < xs.length * t'.w:=by
          have:(i1+1) * t'.w≤xs.length * t'.w:=Nat.mul_le_mul_right _ hc
          rw[Nat.succ_mul] at this;omega
         exact⟨hp b (k8 _ b l' q hlt2 (by rw[A2J _ hcw];exact h4) ho).1,rt b hr'⟩
      rw[hr] at hK;refine t5 (r:=⟨r.c,.c .bot,n::ms,ms,[(n,.tree e t' (xs.set i y) none)]⟩) hs (A29 ho h1 k3 (by rw[c1,hl6]) (by omega) h7) hf (fun m hm=>?_) rfl ?_ hK
      · rcases List.mem_cons.1 hm with rfl|hm
        · exact c5
        · exact d3 m hm
      intro q hq
      simp only[List.mem_singleton] at hq
      subst hq;have hbk:(R1 ms).bk n=R.bk n:=by subst hR1;rfl
      have hhd:(R1 ms).hd n=R.hd n:=by subst hR1;rfl
      have gnew:∀c,(splice cur.toList (i * t'.w+k) (a.eval x).cells.toList)[c]?=if i * t'.w≤c∧c < i * t'.w+t'.w then (splice ((cur.toList.drop (i * t'.w)).take t'.w) k (a.eval x).cells.toList)[c - i * t'.w]? else cur.toList[c]?:=fun c=>by
       rw[O8 _ _ _ (by simp;omega)]
       split
       · rename_i h
         rw[if_pos (by simp at h;omega),O8 _ _ _ (by rw[hlen];simp;omega),if_pos (by simp at h ⊢;omega)]
         congr 1;omega
       · rename_i h
         split
         · rename_i h'
           rw[O8 _ _ _ (by rw[hlen];simp;omega),if_neg (by simp at h ⊢;omega),B8 (by omega)]
           congr 1;omega
         · rfl
      refine .inr ⟨cap,(splice cur.toList (i * t'.w+k) (a.eval x).cells.toList).toArray,by rw[List.length_set,hbk,hhd];exact k1,by rw[hbk];exact rt _ k2,by rw[hbk];exact setRow_heap w _ cur _ e _ k3,by rw[List.length_set];exact k4,k5,?_,fun j hj _=>?_,fun c b l' q hc1 _ hcell'=>?_⟩
      · rw[←Array.length_toList,O9 _ _ _ (by simp;omega)];simpa using k6
      · rw[List.length_set] at hj;simp only[];rw[A10 _ _ i j k t'.w (by simp;omega) (by simpa using hle)]
        by_cases hji:j=i
        · subst hji;rw[if_pos rfl,List.getElem_set_self];exact hEl
        · rw[if_neg hji,List.getElem_set_ne (Ne.symm hji)]
          refine(k7 j hj (hoth j hj hji)).mv fun c b l' q hc2 hr' hlt=>⟨hp b ?_,rt b hr'⟩
          have hcw:c < t'.w:=by have:=(List.getElem?_eq_some_iff.1 hc2).1;simp at this;omega
          rw[B8 hcw] at hc2
          have hlt2:j * t'.w+c < xs.length * t'.w:=by
           have:(j+1) * t'.w≤xs.length * t'.w:=Nat.mul_le_mul_right _ hj
           rw[Nat.succ_mul] at this;omega
          exact(k8 _ b l' q hlt2 (by rw[A2J _ hcw];exact hoth j hj hji) hc2).1
      · rw[List.length_set] at hc1 ⊢
        simp only[] at hcell' ⊢
        rw[hbk]
        have cls:∀(c l' q:Nat),c < xs.length * t'.w→(splice cur.toList (i * t'.w+k) (a.eval x).cells.toList)[c]?=some (.slice (some ⟨b,0,none⟩) l' q) →
         (R.root b∈ms∧i * t'.w≤c∧c < i * t'.w+t'.w∧(splice ((cur.toList.drop (i * t'.w)).take t'.w) k (a.eval x).cells.toList)[c - i * t'.w]?=some (.slice (some ⟨b,0,none⟩) l' q)) ∨
         (R.root b=n∧¬j5 hh (c / t'.w)∧cur.toList[c]?=some (.slice (some ⟨b,0,none⟩) l' q)):=fun c l' q hc1 hc2=>by
         rw[gnew c] at hc2
         split at hc2
         · rename_i h
           rcases old _ b l' q (by omega) hc2 with hm|⟨h3,h4,h5⟩
           · exact .inl ⟨hm,h.1,h.2,hc2⟩
           · rw[(by omega:i * t'.w+(c - i * t'.w)=c)] at h5
             exact .inr ⟨h3,by rw[B55 h.1 h.2];exact h4,h5⟩
         · rename_i h
           have hne:c / t'.w≠i:=by
            intro h'
            apply h
            have e:t'.w * (c / t'.w)+c % t'.w=c:=Nat.div_add_mod c t'.w
            have:=Nat.mod_lt c tw
            rw[h',Nat.mul_comm] at e
            omega
           have hnh:=hoth (c / t'.w) (by rw[Nat.div_lt_iff_lt_mul tw];exact hc1) hne
           exact .inr ⟨olds c b l' q hc1 hnh hc2,hnh,hc2⟩
        rcases cls c l' q hc1 hcell' with⟨m1,m2,m3,m4⟩|⟨m1,m2,m3⟩
        · refine⟨hbkm b m1,fun c' l2 q2 hc1' _ hcell2=>?_⟩
          rcases cls c' l2 q2 hc1' hcell2 with⟨p1,p2,p3,p4⟩|⟨p1,p2,p3⟩
          · have:=inj _ _ b _ _ _ _ p4 m4 m1;omega
          · rw[p1] at m1;exact absurd m1 d2
        · obtain⟨g1,g2⟩:=k8 c b l' q hc1 m2 m3
          refine⟨g1,fun c' l2 q2 hc1' _ hcell2=>?_⟩
          rcases cls c' l2 q2 hc1' hcell2 with⟨p1,p2,p3,p4⟩|⟨p1,p2,p3⟩
          · rw[m1] at p1;exact absurd p1 d2
          · exact g2 c' l2 q2 hc1' p2 p3
     split at h
     · split at h
       case h_2=>cases h
       rename_i y ms e4
       split at h
       case isFalse=>cases h
       rename_i hcond
       obtain⟨d1,d2,d3⟩:=hcond;cases h
       exact core hc (fun _ _ _=>by simp[j5]) (.inr ⟨rfl,by simp[j5]⟩) (fun us _ hus=>(hus (by simp[j5])).splice k h6) e4 d1 (by simpa using d2) (fun m hm=>by simpa using List.all_eq_true.1 d3 m hm) rfl
     · rename_i pq
       split at h
       case isFalse=>cases h
       rename_i hk
       obtain⟨hk0,hkl⟩:=hk;subst hk0
       split at h
       case h_2=>cases h
       rename_i y ms e4
       split at h
       case isFalse=>cases h
       rename_i hcond
       obtain⟨d1,d2,d3⟩:=hcond;cases h
       obtain⟨hc1,hc2,hc3⟩:=hc;refine core hc1 (fun j _ hj=>by simp only[j5];omega) (.inl rfl) (fun us hus _=>?_) e4 d1 (by simpa using d2) (fun m hm=>by simpa using List.all_eq_true.1 d3 m hm) rfl
       have:splice us 0 (a.eval x).cells.toList=(a.eval x).cells.toList:=by
        unfold splice;rw[List.take_zero,List.drop_eq_nil_of_le (by simp;omega)]
        simp
       rw[this];exact h6
   · cases h
 · rename_i n i wd oo j t' x' k cs e1 e2
   rw[e1] at h1;simp only[VR] at h1
   split at h
   case h_2=>cases h
   rename_i e T xs e3
   split at h
   case isFalse=>cases h
   rename_i hcond
   obtain⟨c1,rfl,c2,c3,c4,c5,c6⟩:=hcond
   split at h
   case h_2=>cases h
   rename_i y S' e4
   split at h
   case h_2=>cases h
   rename_i z e5
   cases h
   have hc:i < xs.length:=hc
   obtain⟨h6,h7⟩:=T6 hs h2 e2 c4
   have hl6:=h6.length
   simp only[Array.length_toList] at hl6
   have tw:=T.w_pos
   obtain⟨b,l0,cap0,us,g1,g2,g3,g4,g5,g6,g7⟩:=h1;rcases hs.look e3 with⟨_,k2⟩|⟨cap,cur,k1,k2,k3,k4,k5,k6,k7,k8⟩
   · subst k2;simp at hc
   have hcur:cur.toList[i * T.w+oo]?=some (.slice (some ⟨b,0,none⟩) l0 cap0):=by
    have:=g1
    simpa [World.cell?,k3] using this
   have hlt2:i * T.w+oo < xs.length * T.w:=by
    have:(i+1) * T.w≤xs.length * T.w:=Nat.mul_le_mul_right _ hc
    rw[Nat.succ_mul] at this;omega
   obtain⟨hb0,huniq⟩:=k8 _ b l0 cap0 hlt2 (by simp[j5]) hcur
   have e6:xs.getD i T.dflt=xs[i]:=by simp[List.getD,hc]
   rw[e6] at e5;have hEl0:=k7 i hc (by simp[j5])
   obtain⟨cur2,e2',hb2⟩:=hEl0.block (c:=oo) (by rw[B8 c2];exact hcur)
   have tw':=t'.w_pos
   have hcell2:∀q,q < t'.w→cur2.toList[j * t'.w+q]?=us[q]?:=fun q hq=>by
    have:=g6 q hq
    simpa [World.cell?,hb2] using this
   have hin:j * t'.w+t'.w≤cur2.toList.length:=by
    have h8:=hcell2 (t'.w - 1) (by omega)
    rw[List.getElem?_eq_getElem (by omega:t'.w - 1 < us.length)] at h8
    have:=(List.getElem?_eq_some_iff.1 h8).1
    omega
   have hus:(cur2.toList.drop (j * t'.w)).take t'.w=us:=by
    apply List.ext_getElem?
    intro q
    by_cases hq:q < t'.w
    · rw[B8 hq,hcell2 q hq]
    · rw[List.getElem?_eq_none (by simp;omega),List.getElem?_eq_none (by omega)]
   have hy:Rd (okS R S') w t' (splice us k (a.eval x).cells.toList) y:=j6 hs t' (g7.cells.splice k h6) e4
   have hf:FR [n] [] R w R (w.setRow b (splice cur2.toList (j * t'.w+k) (a.eval x).cells.toList).toArray):=by
    refine⟨rfl,rfl,rfl,by simp,fun b' hb hr=>⟨setRow_other w _ b' _ ?_,rfl⟩,fun m _=>⟨rfl,rfl⟩,fun m _=>⟨rfl,rfl⟩⟩
    rintro rfl
    exact hr (by rw[g3];simp)
   have hp:∀b',b'≠b→(w.setRow b (splice cur2.toList (j * t'.w+k) (a.eval x).cells.toList).toArray).heap[b']?=w.heap[b']?:=fun b' hb=>setRow_other w _ b' _ hb
   refine t5 hs (A29 ho g4 hb2 (by rw[c1,hl6]) (by simp at hin;omega) h7) hf (by simpa using c5) rfl ?_ hK
   intro q hq
   simp only[List.mem_singleton] at hq
   subst hq;refine .inr ⟨cap,cur,by rw[List.length_set];exact k1,k2,by rw[hp _ (Ne.symm hb0)];exact k3,by rw[List.length_set];exact k4,k5,k6,fun j' hj _=>?_,by rw[List.length_set];exact k8⟩
   have hj':j' < xs.length:=by rw[List.length_set] at hj;exact hj
   by_cases hji:j'=i
   · subst hji;rw[List.getElem_set_self];refine ElO.upd (b:=b) (l0:=l0) (cap0:=cap0) (t:=t') (f:=fun l=>l.set j y) (fun e' ys hro=>?_) (fun b' hb hr hlt=>⟨hp b' hb,hr⟩) T (hEl0) (o:=oo) (by rw[B8 c2];exact hcur) e5 (fun c l k' hc'=>?_)
     · rcases hro with⟨h8,_⟩|⟨b',cap',cur',h8,h9,h10,h11,h12,h13,h14⟩
       · cases h8
       · cases h8
         rw[hb2] at h10;cases h10
         refine .inr ⟨b,cap0,(splice cur2.toList (j * t'.w+k) (a.eval x).cells.toList).toArray,by rw[List.length_set],h9,setRow_heap w _ cur2 _ _ _ hb2,by rw[List.length_set];exact h11,h12,?_,fun q hq=>?_⟩
         · rw[←Array.length_toList,O9 _ _ _ (by simp at hin ⊢;omega)];simpa using h13
         · rw[List.length_set] at hq;simp only[];rw[A10 _ _ j q k t'.w (by simp;omega) (by simpa using hin)]
           by_cases hqj:q=j
           · subst hqj;rw[if_pos rfl,List.getElem_set_self,hus];exact Rd.flat c6 hy
           · rw[if_neg hqj,List.getElem_set_ne (Ne.symm hqj)]
             exact Rd.flat c6 (h14 q hq)
     · have hcw:c < T.w:=by have:=(List.getElem?_eq_some_iff.1 hc').1;simp at this;omega
       rw[B8 hcw] at hc'
       have:=huniq (j' * T.w+c) l k' (by
        have:(j'+1) * T.w≤xs.length * T.w:=Nat.mul_le_mul_right _ hj'
        rw[Nat.succ_mul] at this;omega) (by simp[j5]) hc'
       omega
   · rw[List.getElem_set_ne (Ne.symm hji)]
     refine(k7 j' hj' (by simp[j5])).mv fun c b' l' q' hc' hr' hlt=>⟨hp b' ?_,hr'⟩
     rintro rfl
     have hcw:c < T.w:=by have:=(List.getElem?_eq_some_iff.1 hc').1;simp at this;omega
     rw[B8 hcw] at hc'
     have:=huniq (j' * T.w+c) l' q' (by
      have:(j'+1) * T.w≤xs.length * T.w:=Nat.mul_le_mul_right _ hj'
      rw[Nat.succ_mul] at this;omega) (by simp[j5]) hc'
     apply hji
     have e1:j'=(j' * T.w+c) / T.w:=(A2J _ hcw).symm
     rw[e1,this];exact A2J _ c2
 · cases h
theorem B1l (t ty e:TypeId) (i:TypeInfo) (z:Value) (size bytes:Nat) (ht:P.underlying t=some (.slice e)) (hi:P.info? e=some i) (hz:i.zero=some z)
 (hsize:i.size=size) (hby:i.bytes=bytes) (hzs:z.cells.size=size) (hsz:0 < size)
 (v:Value) (n:Nat) (xs:List Value) (hown:w.ownsRow 0 e size v n xs)
 (ad:Addr) (m c:Nat) (news:List Value) (hl:news.length=m * size) (hnews:∀j u,news[j]?=some u→w.cell? (ad.add j)=some u) (h1:∀u∈news,u.oneCell'=true)
 (h63:n+m≤maxLen) (hbytes:(n+m) * bytes≤140737488355328) :
 ∃ v' w', (Builtin.append_ #[t, t] ty #[v, .slice (some ad) m c]).run P w = .ok v' w' ∧ w'.ownsRow 0 e size v' (n + m) (xs ++ news) ∧ w.grownBy w' v.ownBlock ∧
   (∀g,v'.ownBlock=some g→v.ownBlock=some g∨w.heap.size≤g):=by
 obtain⟨v',w',hr,h2,h3,h4⟩:=run_append_own (P:=P) w 0 t ty e i z size bytes ht hi hz hsize hby hzs hsz v n xs hown ad m c news hl hnews h1 h63 hbytes (Nat.zero_le _)
 refine⟨v',w',hr,h2,h3,fun g hg=>?_⟩
 rcases hown.2 with⟨rfl,rfl⟩|⟨g0,cap,cur,rfl,_,hgg,hnc,hcm,hcs,htake⟩
 · have hx:xs=[]:=List.eq_nil_of_length_eq_zero (by simpa using hown.1)
   subst hx;obtain⟨v2,w2,hr2,k2,_,_⟩:=run_append_own (P:=P) w w.heap.size t ty e i z size bytes ht hi hz hsize hby hzs hsz _ 0 [] (World.ownsRow_nil w _ e size) ad m c news hl hnews h1 h63 hbytes (Nat.le_refl _)
   rw[hr] at hr2;cases hr2
   exact .inr (World.ownsRow.lt k2 g hg).1
 · subst hsize
   by_cases hroom:n+m≤cap
   · have hfit:n * i.size+news.length≤cur.size:=by rw[hl,hcs,←Nat.add_mul];exact Nat.mul_le_mul_right _ hroom
     have hr2:=run_append_room (P:=P) w t ty e i ht hi g0 n cap cur hgg ad m c news hl hnews h1 hroom hfit
     rw[hr] at hr2;cases hr2
     exact .inl hg
   · subst hby;have holds:∀j u,xs[j]?=some u→w.cell? ((⟨g0,0,none⟩:Addr).add j)=some u:=World.ownsRow.cells hown (g:=g0) rfl
     have hm:n+m≤9223372036854775807:=by unfold maxLen at h63;omega
     have hr2:=run_append_grow (P:=P) w t ty e i z ht hi hz ⟨g0,0,none⟩ n cap xs hown.1 holds ad m c news hl hnews (by omega) (by omega) (growslice_fits (by omega) hbytes)
     rw[hr] at hr2;cases hr2
     right
     simp only[Value.ownBlock,Option.some.injEq] at hg
     omega
theorem Rd.one {S:Nat→Prop} {t:Ty} {us:List Value} {x:t.den} (h:Rd S w t us x):∀v∈us,v.oneCell'=true:=by
 induction t generalizing us with
 | int k=>simp only[Rd] at h;subst h;simp[Value.oneCell']
 | bool=>simp only[Rd] at h;subst h;simp[Value.oneCell']
 | str=>simp only[Rd] at h;subst h;simp[Value.oneCell']
 | row e t ih=>obtain⟨a,cap,rfl,_⟩:=h;simp[Value.oneCell']
 | prod a b ha hb =>
   obtain⟨u1,u2,rfl,h1,h2⟩:=h;intro v hv
   rcases List.mem_append.1 hv with hv|hv
   · exact ha h1 v hv
   · exact hb h2 v hv
theorem RdL.one' {S:Nat→Prop} {t:Ty} {us:List Value} {xs:List t.den} (h:RdL S w t us xs):∀v∈us,v.oneCell'=true:=by
 intro v hv
 obtain⟨q,hq,rfl⟩:=List.mem_iff_getElem.1 hv
 have hw:=t.w_pos
 have h1:=h.1
 have hi:q / t.w < xs.length:=by rw[Nat.div_lt_iff_lt_mul hw];omega
 refine(h.2 _ hi).one _ ?_
 have hm:=Nat.mod_lt q hw
 have e:(q / t.w) * t.w+q % t.w=q:=by rw[Nat.mul_comm];exact Nat.div_add_mod q t.w
 have:((us.drop (q / t.w * t.w)).take t.w)[q % t.w]?=some us[q]:=by
  rw[B8 hm,e,List.getElem?_eq_getElem hq]
 exact List.mem_of_getElem? this
def l7 (σ:St):CV→List Nat
 | .rd S _ _ _=>S
 | .sub n _ _ _ _ _ _=>[n]
 | .ow n => match σ.look n with
   | some (.row _ _ _ S)=>S
   | some (.tree _ _ _ _)=>[n]
   | _=>[]
 | _=>[]
theorem B0i {S:Nat→Prop} {u:Value} {e:TypeId} {t:Ty} {ys:List t.den} (hp:Rd S w (.row e t) [u] ys) :
 ∃ad cap news,u=.slice ad ys.length cap∧ys.length≤cap∧RdL S w t news ys∧(ys.length=0∨∃ad0,ad=some ad0∧∀j v,news[j]?=some v→w.cell? (ad0.add j)=some v):=by
 obtain⟨ad,cap,h1,h2,h3,h4⟩:=hp;simp only[List.cons.injEq,and_true] at h1
 by_cases h0:ys.length=0
 · have:ys=[]:=List.eq_nil_of_length_eq_zero h0
   subst this;exact⟨ad,cap,[],h1,h2,RdL.nil _ _ _,.inl rfl⟩
 · obtain⟨b,q,rfl,hb,h5⟩:=h4 (by omega)
   have hw:=t.w_pos
   refine⟨_,cap,(List.range (ys.length * t.w)).map (fun j=>(w.cell? ⟨b,q+j,none⟩).getD undef),h1,h2,⟨by simp,fun i hi=>?_⟩,.inr ⟨_,rfl,fun j v hj=>?_⟩⟩
   · obtain⟨vs,k1,k2,k3⟩:=h5 i hi
     have hle:i * t.w+t.w≤ys.length * t.w:=by rw[←Nat.succ_mul];exact Nat.mul_le_mul_right _ hi
     have:(((List.range (ys.length * t.w)).map (fun j=>(w.cell? ⟨b,q+j,none⟩).getD undef)).drop (i * t.w)).take t.w=vs:=by
      apply List.ext_getElem?
      intro j
      by_cases hj:j < t.w
      · rw[B8 hj,List.getElem?_map,List.getElem?_range (by omega),Option.map_some,←Nat.add_assoc,k2 j hj,List.getElem?_eq_getElem (by omega)];rfl
      · rw[List.getElem?_eq_none (by simp;omega),List.getElem?_eq_none (by omega)]
     rw[this];exact k3
   · have hj2:j < ys.length * t.w:=by simpa using (List.getElem?_eq_some_iff.1 hj).1
     have hi:j / t.w < ys.length:=by rw[Nat.div_lt_iff_lt_mul hw];exact hj2
     obtain⟨vs,k1,k2,k3⟩:=h5 _ hi
     have e:(j / t.w) * t.w+j % t.w=j:=by rw[Nat.mul_comm];exact Nat.div_add_mod j t.w
     have k4:=k2 (j % t.w) (Nat.mod_lt _ hw)
     rw[Nat.add_assoc,e,List.getElem?_eq_getElem (by rw[k1];exact Nat.mod_lt _ hw)] at k4
     rw[List.getElem?_map,List.getElem?_range hj2,Option.map_some,k4] at hj
     rw[Addr.add_mid,k4];exact hj
theorem TrL.rdl {n b0:Nat} {t:Ty} {us:List Value} {xs:List t.den} (h:TrL R w n b0 t none us xs):RdL (okS R [n]) w t us xs:=⟨h.len,fun i hi=>(h.el i hi (by simp[j5])).rd⟩
theorem A7w {e:TypeId} {s k:Nat} {u:Value} {us:List Value} (h1:w.ownsRow 0 e s u k us):∃ad cap,u=.slice ad k cap∧k≤cap∧(k=0∨∃ad0,ad=some ad0∧∀j v,us[j]?=some v→w.cell? (ad0.add j)=some v):=by
 rcases h1.2 with⟨h4,h5⟩|⟨g,cap,cur,h4,h5,h6,h7,h8,h9,h10⟩
 · exact⟨none,0,by rw[h4,h5],by omega,.inl h5⟩
 · refine⟨_,cap,h4,h7,.inr ⟨_,rfl,fun j v hj=>?_⟩⟩
   rw[h4] at h1;exact World.ownsRow.cells h1 (g:=g) rfl j v hj
theorem n7 (hs:Sim R0 w0 R σ a w) {p:CV} {u:Value} (hp:VRc R w p u) {e:TypeId} {t:Ty} {ys:List t.den} (h:d6 σ p=some ⟨e,t,ys⟩) :
 ∃ad cap news,u=.slice ad ys.length cap∧ys.length≤cap∧RdL (okS R (l7 σ p)) w t news ys∧(ys.length=0∨∃ad0,ad=some ad0∧∀j v,news[j]?=some v→w.cell? (ad0.add j)=some v):=by
 unfold d6 at h
 split at h
 · cases h
   exact B0i hp
 · cases h
   exact B0i hp.2.2.rd
 · rename_i n
   split at h
   · rename_i e' t' xs S he
     cases h
     have hsrc:l7 σ (.ow n)=S:=by simp[l7,he]
     rw[hsrc];obtain⟨us,h1,h2,h3⟩:=A9b (hs.look he)
     have hu:u=R.hd n:=hp
     rw[hu];obtain⟨ad,cap,q1,q2,q3⟩:=A7w h1
     exact⟨ad,cap,us,q1,q2,h2,q3⟩
   · rename_i e' t' xs he
     cases h
     have hsrc:l7 σ (.ow n)=[n]:=by simp[l7,he]
     rw[hsrc];obtain⟨us,h1,h2,h3⟩:=A9M (hs.look he)
     have hu:u=R.hd n:=hp
     rw[hu];obtain⟨ad,cap,q1,q2,q3⟩:=A7w h1
     exact⟨ad,cap,us,q1,q2,h2.rdl,q3⟩
   · cases h
 · cases h
theorem A8P {tt e:TypeId} {s x:Operand} {t:Ty} {k m:Nat} {ie:TypeInfo} {z:Value} {us news:List Value} {ad:Option Addr} {cap:Nat}
 (ho:o.op=.call { callee:=.builtin .append,args:=#[s,x],argTypes:=#[tt,tt] }) (ht:P.underlying tt=some (.slice e)) (hi:P.info? e=some ie) (hsz:ie.size=t.w)
 (hz:ie.zero=some z) (hzs:z.cells.size=t.w) (hown:w.ownsRow 0 e t.w (a.eval s) k us)
 (hx:a.eval x=.slice ad m cap) (hnl:news.length=m * t.w) (h1:∀u∈news,u.oneCell'=true) (hne:m=0∨∃ad0,ad=some ad0∧∀j v,news[j]?=some v→w.cell? (ad0.add j)=some v)
 (hb:(k+m) * ie.bytes≤140737488355328) (hb0:ie.bytes≠0) :
 ∃v' w',(execOp a.eval o).run P w=.ok (.value v') w'∧w'.ownsRow 0 e t.w v' (k+m) (us++news)∧w.grownBy w' (a.eval s).ownBlock∧(∀g,v'.ownBlock=some g→(a.eval s).ownBlock=some g∨w.heap.size≤g):=by
 have h63:k+m≤maxLen:=by
  have:k+m≤(k+m) * ie.bytes:=Nat.le_mul_of_pos_right _ (by omega)
  unfold maxLen;omega
 have key:∃v' w',(Builtin.append_ #[tt,tt] o.type #[a.eval s,a.eval x]).run P w=.ok v' w'∧w'.ownsRow 0 e t.w v' (k+m) (us++news)∧w.grownBy w' (a.eval s).ownBlock ∧
  (∀g,v'.ownBlock=some g→(a.eval s).ownBlock=some g∨w.heap.size≤g):=by
  rcases hne with h0|⟨ad0,rfl,hcell⟩
  · have hnews:news=[]:=List.eq_nil_of_length_eq_zero (by rw[hnl,h0];simp)
    subst hnews;refine⟨a.eval s,w,?_,by rw[h0];simpa using hown,⟨rfl,rfl,rfl,Nat.le_refl _,fun _ _ _=>rfl⟩,fun g hg=>.inl hg⟩
    rw[hx,h0];rcases hown.2 with⟨h1,h2⟩|⟨g,cap',cur,h1,_,h2,h3,h4,h5,h6⟩
    · rw[h1];cases ad<;>simp[Builtin.append_,run_underlying ht,sizeOf,typeInfo,hi,Builtin.lenOf,Builtin.firstCells,loadCells,loadCellsFrom]
    · rw[h1];cases ad<;>simp[Builtin.append_,run_underlying ht,sizeOf,typeInfo,hi,Builtin.lenOf,Builtin.firstCells,loadCells,loadCellsFrom,h3,storeCells]
  · rw[hx];exact B1l tt o.type e ie z t.w ie.bytes ht hi hz hsz rfl hzs t.w_pos _ _ us hown ad0 m cap news hnl hcell h1 h63 hb
 obtain⟨v',w',hr,h2,h3,h4⟩:=key;refine⟨v',w',?_,h2,h3,h4⟩
 unfold execOp;simp only[ho,resolve,invoke,builtin,Sem.run_bind,Sem.run_pure,Result.andThen_ok,List.map_toArray,List.map_cons,List.map_nil,hr]
def Rz.apT (R:Rz) (Ns Bs:List Nat) (d:Nat) (v:Value):Rz :=
  { root:=fun b=>if v.ownBlock=some b then d else if b∈Bs then 1 else if R.root b∈Ns then d else if R.root b=d then 1 else R.root b
    hd:=fun m=>if m=d then v else R.hd m
    bk:=fun m=>if m=d then v.ownBlock.getD 0 else R.bk m }
def Rz.apS (R:Rz) (d:Nat) (v:Value):Rz :=
  { root:=fun b=>if v.ownBlock=some b then d else if R.root b=d then 1 else R.root b
    hd:=fun m=>if m=d then v else R.hd m
    bk:=fun m=>if m=d then v.ownBlock.getD 0 else R.bk m }
theorem A8g {R':Rz} {e:TypeId} {t:Ty} {k d:Nat} {v:Value} {us:List Value} (h:w.ownsRow 0 e t.w v k us) (hh:R'.hd d=v) (hb:R'.bk d=v.ownBlock.getD 0) (hr:∀b,v.ownBlock=some b→R'.root b=d) :
 (R'.hd d=.slice none 0 0∧k=0)∨∃cap cur,R'.hd d=.slice (some ⟨R'.bk d,0,none⟩) k cap∧R'.root (R'.bk d)=d∧w.heap[R'.bk d]?=some (.cells cur e (0,0))∧k≤cap∧cap≤maxLen∧cur.size=cap * t.w∧cur.toList.take (k * t.w)=us∧v.ownBlock=some (R'.bk d):=by
 rcases h.2 with⟨h4,h5⟩|⟨g,cap',cur,h4,_,h5,h6,h7,h8,h9⟩
 · exact .inl ⟨by rw[hh,h4],h5⟩
 · have e1:v.ownBlock=some g:=by rw[h4];rfl
   have e2:R'.bk d=g:=by rw[hb,e1];rfl
   exact .inr ⟨cap',cur,by rw[hh,h4,e2],by rw[e2];exact hr g e1,by rw[e2];exact h5,h6,h7,h8,h9,by rw[e2];exact e1⟩
theorem A3k {tt e:TypeId} {s x:Operand} {t:Ty} {xs ys:List t.den} {S:List Nat} {Ns:List Nat} {d:Nat} {ie:TypeInfo} {z:Value} {us news:List Value} {ad:Option Addr} {cap:Nat}
 (hs:Sim R0 w0 R σ a w) (ho:o.op=.call { callee:=.builtin .append,args:=#[s,x],argTypes:=#[tt,tt] }) (ht:P.underlying tt=some (.slice e)) (hi:P.info? e=some ie) (hsz:ie.size=t.w)
 (hz:ie.zero=some z) (hzs:z.cells.size=t.w) (hown:w.ownsRow 0 e t.w (a.eval s) xs.length us) (hblk:∀b,(a.eval s).ownBlock=some b→R.root b∈Ns)
 (hx:a.eval x=.slice ad ys.length cap) (hnl:news.length=ys.length * t.w) (hone:∀u∈news,u.oneCell'=true) (hrd:RdL (okS R S) w t (us++news) (xs++ys)) (hne:ys.length=0∨∃ad0,ad=some ad0∧∀j v,news[j]?=some v→w.cell? (ad0.add j)=some v)
 (hN:∀n∈Ns,5 < n) (hd0:100≤d) (hS:∀m∈S,m ∉ Ns∧m≠d) (hb:(xs.length+ys.length) * ie.bytes≤140737488355328) (hb0:ie.bytes≠0)
 (hK:∀R' v w',Done R w (d::Ns) (d::Ns) (.c (.ow d)) [(d,.row e t (xs++ys) S)] R' v w'→K (a.put o.dst v) w'):o.wp P a w K Q:=by
 obtain⟨v',w',hrun,h1,h2,h3⟩:=A8P ho ht hi hsz hz hzs hown hx hnl hone hne hb hb0
 have hf:FR (d::Ns) (d::Ns) R w (R.apT Ns [] d v') w':=by
  refine⟨h2.os,h2.tape,h2.output,h2.size,fun b hb hr=>?_,fun m hm=>?_,fun m hm=>?_⟩
  · simp only[List.mem_cons,not_or] at hr
    have h4:(a.eval s).ownBlock≠some b:=fun e=>hr.2 (hblk b e)
    have h5:v'.ownBlock≠some b:=fun e=>by
     rcases h3 b e with h6|h6
     · exact h4 h6
     · omega
    exact⟨h2.block b hb (fun e=>h4 e.symm),by simp[Rz.apT,h5,hr.1,hr.2]⟩
  · simp only[List.mem_cons,not_or] at hm
    simp[Rz.apT,hm.1]
  · have:m≠d:=by omega
    simp[Rz.apT,this]
 have h0:(0:Nat) ∉ d::Ns:=by simp only[List.mem_cons,not_or];exact⟨by omega,fun h=>by have:=hN 0 h;omega⟩
 refine V7 (r:=⟨True,.c (.ow d),d::Ns,d::Ns,[(d,.row e t (xs++ys) S)]⟩) hs hrun hf (fun n hn=>?_) (by simp[VR,VRc,Rz.apT]) ?_ hK
 · rcases List.mem_cons.1 hn with rfl|hn
   · omega
   · exact hN n hn
 intro p hp
 simp only[List.mem_singleton] at hp
 subst hp;have hrd':=hrd.fr hf h0 (fun m hm=>by simp only[List.mem_cons,not_or];exact⟨(hS m hm).2,(hS m hm).1⟩)
 have hlen:(xs++ys).length=xs.length+ys.length:=by simp
 rcases A8g (R':=R.apT Ns [] d v') (d:=d) h1 (by simp[Rz.apT]) (by simp[Rz.apT]) (fun b hb=>by simp[Rz.apT,hb]) with⟨q1,q2⟩|⟨cap',cur,q1,q2,q3,q4,q5,q6,q7,_⟩
 · exact .inl ⟨q1,List.eq_nil_of_length_eq_zero (by omega)⟩
 · exact B26 (cap:=cap') (cur:=cur) (by rw[hlen];exact q1) q2 q3 (by omega) q5 q6 (by rw[hlen,q7];exact hrd')
theorem B0K {tt e:TypeId} {s x:Operand} {t:Ty} {xs ys:List t.den} {Ns Bs:List Nat} {d:Nat} {ie:TypeInfo} {z:Value} {us news:List Value} {ad:Option Addr} {cap:Nat}
 (hs:Sim R0 w0 R σ a w) (ho:o.op=.call { callee:=.builtin .append,args:=#[s,x],argTypes:=#[tt,tt] }) (ht:P.underlying tt=some (.slice e)) (hi:P.info? e=some ie) (hsz:ie.size=t.w)
 (hz:ie.zero=some z) (hzs:z.cells.size=t.w) (hown:w.ownsRow 0 e t.w (a.eval s) xs.length us) (hblk:∀b,(a.eval s).ownBlock=some b→R.root b∈Ns∧b∈Bs)
 (hx:a.eval x=.slice ad ys.length cap) (hnl:news.length=ys.length * t.w) (hone:∀u∈news,u.oneCell'=true) (hBs:∀b∈Bs,R.root b∈Ns)
 (hrd:∀(R':Rz) (w':World) (b1:Nat),(∀b,R.root b∈Ns→b ∉ Bs→b < w.heap.size→w'.heap[b]?=w.heap[b]?∧R'.root b=d∧b≠b1)→TrL R' w' d b1 t none (us++news) (xs++ys))
 (hne:ys.length=0∨∃ad0,ad=some ad0∧∀j v,news[j]?=some v→w.cell? (ad0.add j)=some v)
 (hN:∀n∈Ns,5 < n) (hd0:100≤d) (hb:(xs.length+ys.length) * ie.bytes≤140737488355328) (hb0:ie.bytes≠0)
 (hK:∀R' v w',Done R w (d::Ns) (d::Ns) (.c (.ow d)) [(d,.tree e t (xs++ys) none)] R' v w'→K (a.put o.dst v) w'):o.wp P a w K Q:=by
 obtain⟨v',w',hrun,h1,h2,h3⟩:=A8P ho ht hi hsz hz hzs hown hx hnl hone hne hb hb0
 have hf:FR (d::Ns) (d::Ns) R w (R.apT Ns Bs d v') w':=by
  refine⟨h2.os,h2.tape,h2.output,h2.size,fun b hb hr=>?_,fun m hm=>?_,fun m hm=>?_⟩
  · simp only[List.mem_cons,not_or] at hr
    have h4:(a.eval s).ownBlock≠some b:=fun e=>hr.2 (hblk b e).1
    have h5:v'.ownBlock≠some b:=fun e=>by
     rcases h3 b e with h6|h6
     · exact h4 h6
     · omega
    have h6:b ∉ Bs:=fun h=>hr.2 (hBs b h)
    exact⟨h2.block b hb (fun e=>h4 e.symm),by simp[Rz.apT,h5,h6,hr.1,hr.2]⟩
  · simp only[List.mem_cons,not_or] at hm
    simp[Rz.apT,hm.1]
  · have:m≠d:=by omega
    simp[Rz.apT,this]
 refine V7 (r:=⟨True,.c (.ow d),d::Ns,d::Ns,[(d,.tree e t (xs++ys) none)]⟩) hs hrun hf (fun n hn=>?_) (by simp[VR,VRc,Rz.apT]) ?_ hK
 · rcases List.mem_cons.1 hn with rfl|hn
   · omega
   · exact hN n hn
 intro p hp
 simp only[List.mem_singleton] at hp
 subst hp;have hlen:(xs++ys).length=xs.length+ys.length:=by simp
 rcases A8g (R':=R.apT Ns Bs d v') (d:=d) h1 (by simp[Rz.apT]) (by simp[Rz.apT]) (fun b hb=>by simp[Rz.apT,hb]) with⟨q1,q2⟩|⟨cap',cur,q1,q2,q3,q4,q5,q6,q7,q8⟩
 · exact .inl ⟨q1,List.eq_nil_of_length_eq_zero (by omega)⟩
 · refine B2c (cap:=cap') (cur:=cur) (by rw[hlen];exact q1) q2 q3 (by omega) q5 q6 ?_
   rw[hlen,q7];refine hrd _ _ _ fun b hb hB hlt=>?_
   have h4:(a.eval s).ownBlock≠some b:=fun e=>hB (hblk b e).2
   have h5:v'.ownBlock≠some b:=fun e=>by
    rcases h3 b e with h6|h6
    · exact h4 h6
    · omega
   refine⟨h2.block b hlt (fun e=>h4 e.symm),by simp[Rz.apT,h5,hB,hb],?_⟩
   rintro rfl
   exact h5 q8
theorem B7C {tt e e2:TypeId} {s x:Operand} {t T:Ty} {XS:List T.den} {n i:Nat} {xs ys:List t.den} {d:Nat} {ie:TypeInfo} {z:Value} {news:List Value} {ad:Option Addr} {cap:Nat}
 (hs:Sim R0 w0 R σ a w) (ho:o.op=.call { callee:=.builtin .append,args:=#[s,x],argTypes:=#[tt,tt] }) (ht:P.underlying tt=some (.slice e)) (hi:P.info? e=some ie) (hsz:ie.size=t.w)
 (hz:ie.zero=some z) (hzs:z.cells.size=t.w) (hf1:t.flat=true) (hT:T.w=1) (htr:OR R w n (.tree e2 T XS none)) (hin:i < XS.length) (hsub:VRc R w (.sub n i 1 0 e t xs) (a.eval s))
 (hx:a.eval x=.slice ad ys.length cap) {S':List Nat} (hrn:RdL (okS R S') w t news ys) (hne:ys.length=0∨∃ad0,ad=some ad0∧∀j v,news[j]?=some v→w.cell? (ad0.add j)=some v)
 (hn:5 < n) (hnd:n≠d) (hd0:100≤d) (hb:(xs.length+ys.length) * ie.bytes≤140737488355328) (hb0:ie.bytes≠0)
 (hK:∀R' v w',Done R w [n,d] [d] (.c (.ow d)) [(n,.tree e2 T XS (some (i,i+1))),(d,.row e t (xs++ys) [])] R' v w'→K (a.put o.dst v) w'):o.wp P a w K Q:=by
 obtain⟨hc1,hc2,hc3⟩:=hsub;simp only[Nat.mul_one,Nat.add_zero] at hc1
 -- the slice's cells
 have hrow:∃us,w.ownsRow 0 e t.w (a.eval s) xs.length us∧RdL (okS R []) w t us xs∧∀b,(a.eval s).ownBlock=some b→R.root b=n∧∃l k,a.eval s=.slice (some ⟨b,0,none⟩) l k:=by
  rcases hc3 with⟨h1,h2⟩|⟨b,cap',cur,h1,h2,h3,h4,h5,h6,h7⟩
  · subst h2;rw[h1];exact⟨[],World.ownsRow_nil _ _ _ _,RdL.nil _ _ _,fun b hb=>by cases hb⟩
  · rw[h1];have hle:xs.length * t.w≤cur.size:=by rw[h6];exact Nat.mul_le_mul_right _ h4
    have hl:(cur.toList.take (xs.length * t.w)).length=xs.length * t.w:=by simp;omega
    refine⟨cur.toList.take (xs.length * t.w),⟨hl,.inr ⟨b,cap',cur,rfl,Nat.zero_le _,h3,h4,h5,h6,rfl⟩⟩,⟨hl,fun j hj=>?_⟩,fun b' hb=>by cases hb;exact⟨h2,_,_,rfl⟩⟩
    have h8:=h7 j hj
    have hle:j * t.w+t.w≤xs.length * t.w:=by rw[←Nat.succ_mul];exact Nat.mul_le_mul_right _ hj
    rw[List.drop_take,List.take_take,Nat.min_eq_left (by omega)]
    exact h8
 obtain⟨us,hown,hru,hblk⟩:=hrow;have hone:=hrn.one'
 obtain⟨v',w',hrun,h1,h2,h3⟩:=A8P ho ht hi hsz hz hzs hown hx hrn.1 hone hne hb hb0
 have hvb:∀b,b < w.heap.size→(a.eval s).ownBlock≠some b→v'.ownBlock≠some b:=fun b hlt h4 e=>by
  rcases h3 b e with h6|h6
  · exact h4 h6
  · omega
 have hf:FR [n,d] [d] R w (R.apS d v') w':=by
  refine⟨h2.os,h2.tape,h2.output,h2.size,fun b hb hr=>?_,fun m hm=>?_,fun m hm=>?_⟩
  · simp only[List.mem_cons,List.not_mem_nil,or_false,not_or] at hr
    have h4:(a.eval s).ownBlock≠some b:=fun e=>hr.1 (hblk b e).1
    exact⟨h2.block b hb (fun e=>h4 e.symm),by simp[Rz.apS,hvb b hb h4,hr.2]⟩
  · simp only[List.mem_singleton] at hm
    simp[Rz.apS,hm]
  · have:m≠d:=by omega
    simp[Rz.apS,this]
 refine V7 (r:=⟨True,.c (.ow d),[n,d],[d],[(n,.tree e2 T XS (some (i,i+1))),(d,.row e t (xs++ys) [])]⟩) hs hrun hf (by simp;omega) (by simp[VR,VRc,Rz.apS]) ?_ hK
 intro p hp
 simp only[List.mem_cons,List.not_mem_nil,or_false] at hp
 rcases hp with rfl|rfl
 · rcases htr with⟨_,k2⟩|⟨cap',cur,k1,k2,k3,k4,k5,k6,k7,k8⟩
   · subst k2;simp at hin
   have ehd:(R.apS d v').hd n=R.hd n:=by simp[Rz.apS,hnd]
   have ebk:(R.apS d v').bk n=R.bk n:=by simp[Rz.apS,hnd]
   have hcur:cur.toList[i]?=some (a.eval s):=by simpa [World.cell?,k3] using hc1
   -- other blocks of the tree
   have oth:∀b,b < w.heap.size→R.root b=n→(a.eval s).ownBlock≠some b→w'.heap[b]?=w.heap[b]?∧(R.apS d v').root b=n:=fun b hlt hr h4 =>
    ⟨h2.block b hlt (fun e=>h4 e.symm),by simp[Rz.apS,hvb b hlt h4,hr,hnd]⟩
   have hlt:R.bk n < w.heap.size:=(Array.getElem?_eq_some_iff.1 k3).1
   have hne0:(a.eval s).ownBlock≠some (R.bk n):=fun e=>by
    obtain⟨_,l,k,e2⟩:=hblk _ e
    rw[e2] at hcur;exact(k8 i _ l k (by rw[hT];omega) (by simp[j5]) hcur).1 rfl
   obtain⟨o1,o2⟩:=oth _ hlt k2 hne0
   refine .inr ⟨cap',cur,by rw[ehd,ebk];exact k1,by rw[ebk];exact o2,by rw[ebk,o1];exact k3,k4,k5,k6,fun j hj hh=>?_,fun c b l k hc hh hcell=>?_⟩
   · have hji:j≠i:=by simp only[j5] at hh;omega
     refine(k7 j hj (by simp[j5])).mv fun c b l k hc hr hlt'=>oth b hlt' hr fun e=>?_
     obtain⟨_,l2,q2,e2⟩:=hblk _ e
     have hcw:c < T.w:=by have:=(List.getElem?_eq_some_iff.1 hc).1;simp at this;omega
     rw[B8 hcw] at hc;rw[e2] at hcur;have:=(k8 i b l2 q2 (by rw[hT];omega) (by simp[j5]) hcur).2 (j * T.w+c) l k (by rw[hT] at hcw ⊢;omega) (by simp[j5]) hc
     rw[hT] at this hcw
     omega
   · rw[ebk];obtain⟨q1,q2⟩:=k8 c b l k hc (by simp[j5]) hcell
     exact⟨q1,fun c' l' k' hc' _ hcell'=>q2 c' l' k' hc' (by simp[j5]) hcell'⟩
 · have hlen:(xs++ys).length=xs.length+ys.length:=by simp
   have hrd':RdL (okS (R.apS d v') []) w' t (us++news) (xs++ys):=by
    have:=(hru.mono (S':=fun _=>True) (fun _ _=>trivial)).append (hrn.mono (S':=fun _=>True) (fun _ _=>trivial))
    exact⟨this.1,fun j hj=>Rd.flat hf1 (this.2 j hj)⟩
   rcases A8g (R':=R.apS d v') (d:=d) h1 (by simp[Rz.apS]) (by simp[Rz.apS]) (fun b hb=>by simp[Rz.apS,hb]) with⟨q1,q2⟩|⟨cap',cur,q1,q2,q3,q4,q5,q6,q7,_⟩
   · exact .inl ⟨q1,List.eq_nil_of_length_eq_zero (by omega)⟩
   · exact B26 (cap:=cap') (cur:=cur) (by rw[hlen];exact q1) q2 q3 (by omega) q5 q6 (by rw[hlen,q7];exact hrd')
def A5T (σ:St):CV→Option (Nat × ((t:Ty) × List t.den))
 | .ow m => match σ.look m with
   | some (.tree _ t ys none)=>some (m,⟨t,ys⟩)
   | _=>none
 | _=>none
def B9D (σ:St) (d:Nat) (e:TypeId) (sz by_:Nat):CV→CV→Option Res
 | .ow n, q => match σ.look n with
   | some (.row e' t xs S)=>if e'=e∧sz=t.w∧5 < n then match t.flat with
    | true => match d6 σ q with
      | some ⟨_,t',ys⟩=>if h:t'=t then some ⟨(xs.length+ys.length) * by_≤140737488355328,.c (.ow d),[d,n],[d,n],[(d,.row e t (xs++P9 h ys) [])]⟩ else none
      | none=>none
    | false => match d6 σ q with
      | some ⟨_,t',ys⟩=>if h:t'=t then if ¬(uni S (l7 σ q)).contains n∧¬(uni S (l7 σ q)).contains d then
       some ⟨(xs.length+ys.length) * by_≤140737488355328,.c (.ow d),[d,n],[d,n],[(d,.row e t (xs++P9 h ys) (uni S (l7 σ q)))]⟩ else none else none
      | none=>none
    else none
   | some (.tree e' t xs none) => if e' = e ∧ sz = t.w ∧ 5 < n then match A5T σ q with
    | some (m,⟨t',ys⟩)=>if h:t'=t then if m≠n∧5 < m then
     some ⟨(xs.length+ys.length) * by_≤140737488355328,.c (.ow d),[d,n,m],[d,n,m],[(d,.tree e t (xs++P9 h ys) none)]⟩ else none else none
    | none => match xs with
      | [] => match d6 σ q with
        | some ⟨_,t',ys⟩=>if h:t'=t then if ¬(l7 σ q).contains n∧¬(l7 σ q).contains d then
         some ⟨ys.length * by_≤140737488355328,.c (.ow d),[d,n],[d,n],[(d,.row e t (P9 h ys) (l7 σ q))]⟩ else none else none
        | none=>none
      | _::_=>none
    else none
   | _=>none
 | .sc (.slice none 0 0), q => match A5T σ q with
   | some (m,⟨t,ys⟩)=>if sz=t.w∧5 < m then some ⟨ys.length * by_≤140737488355328,.c (.ow d),[d,m],[d,m],[(d,.tree e t ys none)]⟩ else none
   | none => match d6 σ q with
     | some ⟨_,t,ys⟩=>if sz=t.w then match t.flat with
      | true=>some ⟨ys.length * by_≤140737488355328,.c (.ow d),[d],[d],[(d,.row e t ys [])]⟩
      | false=>if (l7 σ q).contains d then none else some ⟨ys.length * by_≤140737488355328,.c (.ow d),[d],[d],[(d,.row e t ys (l7 σ q))]⟩
      else none
     | none=>none
 | .sub n i wd o e' t xs, q => match σ.look n with
   | some (.tree e2 T XS none)=>if wd=1∧o=0∧T.w=1∧e'=e∧sz=t.w∧t.flat=true∧5 < n∧n≠d then match d6 σ q with
    | some ⟨_,t',ys⟩=>if h:t'=t then some ⟨i < XS.length∧(xs.length+ys.length) * by_≤140737488355328,.c (.ow d),[n,d],[d],[(n,.tree e2 T XS (some (i,i+1))),(d,.row e t (xs++P9 h ys) [])]⟩ else none
    | none=>none
    else none
   | _=>none
 | _,_=>none
def B7O (P:Program) (σ:St) (d:Option Tmp) (tt:TypeId) (s x:Operand):Option Res :=
 match P.underlying tt with
 | some (.slice e) => match X6 P e with
   | some (sz,by_)=>if by_≠0∧(H7 P e).map List.length=some sz then match σ.ev s,σ.ev x with
    | .c p,.c q=>B9D σ (nm d) e sz by_ p q
    | _,_=>none
    else none
   | none=>none
 | _=>none
theorem B7U {tt:TypeId} {s x:Operand} {r:Res} (ho:o.op=.call { callee:=.builtin .append,args:=#[s,x],argTypes:=#[tt,tt] }) (h:B7O P σ o.dst tt s x=some r) (hc:r.c) (hs:Sim R0 w0 R σ a w)
 (hK:∀R' v w',Done R w r.N r.M r.r r.news R' v w'→K (a.put o.dst v) w'):o.wp P a w K Q:=by
 have h1:=hs.ev s
 have h2:=hs.ev x
 have hnd:=A4o o.dst
 unfold B7O at h
 split at h
 case h_2=>cases h
 rename_i e e1
 split at h
 case h_2=>cases h
 rename_i sz by_ e2
 split at h
 case isFalse=>cases h
 rename_i hcond
 obtain⟨c1,c2⟩:=hcond;obtain⟨i,e3,rfl,rfl⟩:=A7X e2
 obtain⟨zl,z1,z2⟩:=Option.map_eq_some_iff.1 c2
 obtain⟨i',zv,z3,z4,z5⟩:=V5 z1
 rw[e3] at z3;cases z3
 have hzs:zv.cells.size=i.size:=by rw[←Array.length_toList,z5,z2]
 split at h
 case h_2=>cases h
 rename_i p q e4 e5
 rw[e4] at h1;rw[e5] at h2
 simp only[VR] at h1 h2
 -- the block of a row of its own
 have blkRow:∀{n:Nat},(R.hd n=.slice none 0 0∨(R.hd n).ownBlock=some (R.bk n)∧R.root (R.bk n)=n)→∀b,(R.hd n).ownBlock=some b→R.root b=n∧b=R.bk n:=fun k3 b hb=>by
  rcases k3 with k3|⟨k3,k8⟩
  · rw[k3] at hb;cases hb
  · rw[k3] at hb;cases hb;exact⟨k8,rfl⟩
 unfold B9D at h
 split at h
 · -- onto a row or a tree of the call's own
   rename_i q' n
   have h1:a.eval s=R.hd n:=h1
   split at h
   · rename_i e' t xs S he
     split at h
     case isFalse=>cases h
     rename_i hcond
     obtain⟨rfl,d1,d2⟩:=hcond;obtain⟨us,k1,k2,k3⟩:=A9b (hs.look he)
     split at h
     · rename_i hf
       split at h
       case h_2=>cases h
       rename_i t' ys e6
       split at h
       case isFalse=>cases h
       rename_i ht
       subst ht;cases h
       obtain⟨ad,cap,news,k4,k5,k6,k7⟩:=n7 hs h2 e6
       have hu:=(k2.mono (S':=fun _=>True) (fun _ _=>trivial)).append (k6.mono (S':=fun _=>True) (fun _ _=>trivial))
       exact A3k (Ns:=[n]) (S:=[]) hs ho e1 e3 d1 z4 (by rw[hzs,d1]) (by rw[h1];exact k1) (fun b hb=>by rw[h1] at hb;simp[(blkRow k3 b hb).1]) k4 k6.1 k6.one' ⟨hu.1,fun j hj=>Rd.flat hf (hu.2 j hj)⟩ k7
        (by simpa using d2) hnd (by simp) hc c1 hK
     · split at h
       case h_2=>cases h
       rename_i t' ys e6
       split at h
       case isFalse=>cases h
       rename_i ht
       subst ht
       split at h
       case isFalse=>cases h
       rename_i hn
       cases h
       obtain⟨ad,cap,news,k4,k5,k6,k7⟩:=n7 hs h2 e6
       exact A3k (Ns:=[n]) hs ho e1 e3 d1 z4 (by rw[hzs,d1]) (by rw[h1];exact k1) (fun b hb=>by rw[h1] at hb;simp[(blkRow k3 b hb).1]) k4 k6.1 k6.one' ((k2.mono (okS.mono fun _=>s7)).append (k6.mono (okS.mono fun _=>x8))) k7
        (by simpa using d2) hnd (fun m hm=>⟨fun hm'=>by simp only[List.mem_singleton] at hm';subst hm';exact hn.1 (by simpa using hm),fun hm'=>by subst hm';exact hn.2 (by simpa using hm)⟩) hc c1 hK
   · rename_i e' t xs he
     split at h
     case isFalse=>cases h
     rename_i hcond
     obtain⟨rfl,d1,d2⟩:=hcond;obtain⟨us,k1,k2,k3⟩:=A9M (hs.look he)
     split at h
     · rename_i m t' ys e6
       split at h
       case isFalse=>cases h
       rename_i ht
       subst ht
       split at h
       case isFalse=>cases h
       rename_i hn
       cases h
       unfold A5T at e6
       split at e6
       case h_2=>cases e6
       rename_i m'
       split at e6
       case h_2=>cases e6
       rename_i e'' t'' ys'' he2
       cases e6
       obtain⟨news,q1,q2,q3⟩:=A9M (hs.look he2)
       obtain⟨ad,cap,q4,q5,q6⟩:=A7w q1
       have h2:a.eval x=R.hd m:=h2
       refine B0K (Ns:=[n,m]) (Bs:=(a.eval s).ownBlock.toList++(a.eval x).ownBlock.toList) hs ho e1 e3 d1 z4 (by rw[hzs,d1]) (by rw[h1];exact k1) (fun b hb=>⟨?_,by simp[hb]⟩) (by rw[h2];exact q4) q2.len q2.rdl.one' (fun b hb=>?_) (fun R' w' b1 hk=>?_) q6 (by simp[d2,hn.2]) hnd hc c1 hK
       · rw[h1] at hb;simp[(blkRow k3 b hb).1]
       · simp only[List.mem_append,Option.mem_toList,h1,h2] at hb
         rcases hb with hb|hb
         · simp[(blkRow k3 b hb).1]
         · simp[(blkRow q3 b hb).1]
       · have nb:∀b,R.root b=n→b≠R.bk n→b ∉ (a.eval s).ownBlock.toList++(a.eval x).ownBlock.toList:=fun b hr hb hm=>by
          simp only[List.mem_append,Option.mem_toList,h1,h2] at hm
          rcases hm with hm|hm
          · exact hb (blkRow k3 b hm).2
          · have:=(blkRow q3 b hm).1;rw[hr] at this;exact hn.1 this.symm
         have nb2:∀b,R.root b=m→b≠R.bk m→b ∉ (a.eval s).ownBlock.toList++(a.eval x).ownBlock.toList:=fun b hr hb hm=>by
          simp only[List.mem_append,Option.mem_toList,h1,h2] at hm
          rcases hm with hm|hm
          · have:=(blkRow k3 b hm).1;rw[hr] at this;exact hn.1 this
          · exact hb (blkRow q3 b hm).2
         refine(k2.mv fun b hr hb hlt=>hk b (by simp[hr]) (nb b hr hb) hlt).append (q2.mv fun b hr hb hlt=>hk b (by simp[hr]) (nb2 b hr hb) hlt) fun c c' b l k l' k' hc hc'=>?_
         have g1:=(k2.root hc (by simp[j5])).1
         have g2:=(q2.root hc' (by simp[j5])).1
         rw[g1] at g2;exact hn.1 g2.symm
     · split at h
       case h_2=>cases h
       split at h
       case h_2=>cases h
       rename_i t' ys e6
       split at h
       case isFalse=>cases h
       rename_i ht
       subst ht
       split at h
       case isFalse=>cases h
       rename_i hn
       cases h
       obtain⟨ad,cap,news,k4,k5,k6,k7⟩:=n7 hs h2 e6
       have hus:us=[]:=List.eq_nil_of_length_eq_zero (by rw[k2.len];simp)
       subst hus
       exact A3k (Ns:=[n]) (xs:=[]) (us:=[]) (S:=l7 σ q) hs ho e1 e3 d1 z4 (by rw[hzs,d1]) (by rw[h1];exact k1) (fun b hb=>by rw[h1] at hb;simp[(blkRow k3 b hb).1]) k4 k6.1 k6.one' k6 k7
        (by simpa using d2) hnd (fun m hm=>⟨fun hm'=>by simp only[List.mem_singleton] at hm';subst hm';exact hn.1 (by simpa using hm),fun hm'=>by subst hm';exact hn.2 (by simpa using hm)⟩) (by simpa using hc) c1 hK
   · cases h
 · -- onto nothing
   rename_i q'
   have h1:a.eval s=.slice none 0 0:=h1
   split at h
   · rename_i m t ys e6
     split at h
     case isFalse=>cases h
     rename_i hn
     obtain⟨d1,d2⟩:=hn;cases h
     unfold A5T at e6
     split at e6
     case h_2=>cases e6
     rename_i m'
     split at e6
     case h_2=>cases e6
     rename_i e'' t'' ys'' he2
     cases e6
     obtain⟨news,q1,q2,q3⟩:=A9M (hs.look he2)
     obtain⟨ad,cap,q4,q5,q6⟩:=A7w q1
     have h2:a.eval x=R.hd m:=h2
     refine B0K (Ns:=[m]) (Bs:=(a.eval x).ownBlock.toList) (xs:=[]) (us:=[]) hs ho e1 e3 d1 z4 (by rw[hzs,d1]) (by rw[h1];exact World.ownsRow_nil _ _ _ _) (fun b hb=>by rw[h1] at hb;cases hb) (by rw[h2];exact q4) q2.len q2.rdl.one' (fun b hb=>?_) (fun R' w' b1 hk=>?_) q6 (by simpa using d2) hnd (by simpa using hc) c1 hK
     · simp only[Option.mem_toList,h2] at hb
       simp[(blkRow q3 b hb).1]
     · exact q2.mv fun b hr hb hlt=>hk b (by simp[hr]) (fun hm=>by simp only[Option.mem_toList,h2] at hm;exact hb (blkRow q3 b hm).2) hlt
   · split at h
     case h_2=>cases h
     rename_i t ys e6
     split at h
     case isFalse=>cases h
     rename_i d1
     obtain⟨ad,cap,news,k4,k5,k6,k7⟩:=n7 hs h2 e6
     split at h
     · rename_i hf
       cases h
       exact A3k (Ns:=[]) (xs:=[]) (us:=[]) (S:=[]) hs ho e1 e3 d1 z4 (by rw[hzs,d1]) (by rw[h1];exact World.ownsRow_nil _ _ _ _) (fun b hb=>by rw[h1] at hb;cases hb) k4 k6.1 k6.one' ⟨k6.1,fun j hj=>Rd.flat hf (k6.2 j hj)⟩ k7
        (by simp) hnd (by simp) (by simpa using hc) c1 hK
     · split at h
       case isTrue=>cases h
       rename_i hn
       cases h
       exact A3k (Ns:=[]) (xs:=[]) (us:=[]) (S:=l7 σ q) hs ho e1 e3 d1 z4 (by rw[hzs,d1]) (by rw[h1];exact World.ownsRow_nil _ _ _ _) (fun b hb=>by rw[h1] at hb;cases hb) k4 k6.1 k6.one' k6 k7
        (by simp) hnd (fun m hm=>⟨by simp,fun hm'=>by subst hm';exact hn (by simpa using hm)⟩) (by simpa using hc) c1 hK
 · rename_i q' n ii wd oo e' t xs
   split at h
   case h_2=>cases h
   rename_i e2' T XS he
   split at h
   case isFalse=>cases h
   rename_i hcond
   obtain⟨rfl,rfl,d1,rfl,d2,d3,d4,d5⟩:=hcond
   split at h
   case h_2=>cases h
   rename_i t' ys e6
   split at h
   case isFalse=>cases h
   rename_i ht
   subst ht;cases h
   obtain⟨ad,cap,news,k4,k5,k6,k7⟩:=n7 hs h2 e6
   exact B7C hs ho e1 e3 d2 z4 (by rw[hzs,d2]) d3 d1 (hs.look he) hc.1 h1 k4 k6 k7 d4 d5 hnd hc.2 c1 hK
 · cases h
end
open Go.RowKit
section
variable {R R':Rz} {w w':World}
theorem MapV.mono {S S':List Nat} {t:Ty} {x:t.den} {v:Option Value} (h:MapV R w S t x v) (k:∀b,okS R S b→okS R' S' b):MapV R' w S' t x v:=by
 cases v with
 | none=>exact h
 | some v=>exact Rd.mono h k
theorem MapV.flat {S S':List Nat} {t:Ty} (ht:t.flat=true) {x:t.den} {v:Option Value} (h:MapV R w S t x v):MapV R' w S' t x v:=by
 cases v with
 | none=>exact h
 | some v=>exact Rd.flat ht h
end
theorem A3R {e:MapEntry} {k:Int} (h:e.key=.int .i64 k):B0F e=some k:=by unfold B0F;rw[h]
def A5b (k:Int):List MapEntry→Nat→Option (Nat × Value)
 | [],_=>none
 | e::l,i=>if B0F e=some k then some (i,e.val) else A5b k l (i+1)
theorem A4r (q:IntKind) (k:Int):∀(l:List MapEntry) (i:Nat),(∀e∈l,∃k,e.key=.int .i64 k)→Instr.findNow (.int q) (.int .i64 k) l i=some (A5b k l i)
 | [],i,_=>rfl
 | e :: l, i, h => by
   obtain⟨k',hk⟩:=h e List.mem_cons_self
   have ih:=A4r q k l (i+1) fun e he=>h e (List.mem_cons_of_mem _ he)
   unfold Instr.findNow A5b
   rw[A3R hk];rw[hk];simp only[Instr.sameNow,if_true]
   by_cases hkk:k=k'
   · subst hkk;simp
   · have h1:(k == k')=false:=by simpa using hkk
     rw[h1,if_neg (by intro e;exact hkk (Option.some.inj e).symm)]
     exact ih
theorem A4Q {k:Int}:∀{l:List MapEntry} {i j:Nat} {v:Value},A5b k l i=some (j,v)→∃m,j=i+m∧(∃e,l[m]?=some e∧B0F e=some k)∧U6 k l=some v ∧
 ∀f:MapEntry→MapEntry,(∀e,B0F e=some k→B0F (f e)=some k)→∀v',(∀e,(f e).val=v')→∀k',U6 k' (l.modify m f)=if k'=k then some v' else U6 k' l
 | [],i,j,v,h=>by simp[A5b] at h
 | e :: l, i, j, v, h => by
   unfold A5b at h
   split at h
   · rename_i hk
     cases h
     refine⟨0,rfl,⟨e,rfl,hk⟩,by simp[U6,hk],fun f hf v' hv k'=>?_⟩
     simp only[List.modify_zero_cons,U6,hf e hk,hv,hk]
     by_cases hkk:k'=k
     · subst hkk;simp
     · rw[if_neg hkk,if_neg fun e=>hkk (Option.some.inj e).symm,if_neg fun e=>hkk (Option.some.inj e).symm]
   · rename_i hk
     obtain⟨m,h1,⟨e',h2,h3⟩,h4,h5⟩:=A4Q h
     refine⟨m+1,by omega,⟨e',by simpa using h2,h3⟩,by simp only[U6,if_neg hk];exact h4,fun f hf v' hv k'=>?_⟩
     simp only[List.modify_succ_cons,U6,h5 f hf v' hv k']
     by_cases hkk:k'=k
     · subst hkk;simp[hk]
     · simp only[if_neg hkk]
theorem A4a {k:Int}:∀{l:List MapEntry} {i:Nat},A5b k l i=none→U6 k l=none∧∀e':MapEntry,B0F e'=some k→∀k',U6 k' (l++[e'])=if k'=k then some e'.val else U6 k' l
 | [],i,_=>⟨rfl,fun e' he k'=>by
  simp only[List.nil_append,U6,he]
  by_cases hkk:k'=k
  · subst hkk;simp
  · rw[if_neg hkk,if_neg fun e=>hkk (Option.some.inj e).symm]⟩
 | e :: l, i, h => by
   unfold A5b at h
   split at h
   · cases h
   · rename_i hk
     obtain⟨h1,h2⟩:=A4a h
     refine⟨by simp only[U6,if_neg hk];exact h1,fun e' he k'=>?_⟩
     simp only[List.cons_append,U6,h2 e' he k']
     by_cases hkk:k'=k
     · subst hkk;simp[hk]
     · simp only[if_neg hkk]
section
variable {P:Program} {w:World} {tt kt e:TypeId} {q:IntKind} {b ck:Nat} {es:Array MapEntry}
theorem B1z (h2:P.underlying kt=some (.int q)) (em:Bool) (n:Nat) (k:Int):(Instr.checkKey em (n+1) kt (.int .i64 k)).run P w=.ok () w:=by
 unfold Instr.checkKey
 simp[Sem.run_bind,run_underlying h2,Result.andThen]
theorem B2P (h2:P.underlying kt=some (.int q)) (hk:∀e∈es.toList,∃k,e.key=.int .i64 k) (k:Int):(Instr.findKey kt (.int .i64 k) es.toList).run P w=.ok (A5b k es.toList 0) w:=by
 unfold Instr.findKey
 rw[Sem.run_bind,run_underlying h2];simp only[Result.andThen];rw[A4r q k _ 0 hk];simp
theorem B42 (h1:P.underlying tt=some (.map kt e)) (h2:P.underlying kt=some (.int q)) (hb:w.heap[b]?=some (.map es ck)) (hk:∀e∈es.toList,∃k,e.key=.int .i64 k) {z:Value} (hz:(zeroValue e).run P w=.ok z w) (k:Int) :
 (Instr.lookup tt (.map (some b)) (.int .i64 k) false).run P w=.ok ((U6 k es.toList).getD z) w:=by
 unfold Instr.lookup
 simp only[Sem.run_bind,run_underlying h1,Result.andThen,MapKept.run_getObj_map hb,B1z h2,B2P h2 hk,Sem.run_pure,pure_bind];cases h:A5b k es.toList 0 with
 | none=>simp[(A4a h).1,Sem.run_bind,hz,Result.andThen]
 | some x =>
   obtain⟨j,v⟩:=x;obtain⟨m,_,_,h4,_⟩:=A4Q h
   simp[h4]
theorem A8B (n:Nat) (k:Int):Instr.sameBits n (.int .i64 k) (.int .i64 k)=true:=by cases n<;>simp[Instr.sameBits]
theorem B5q (h1:P.underlying tt=some (.map kt e)) (h2:P.underlying kt=some (.int q)) (hb:w.heap[b]?=some (.map es ck)) (hk:∀e∈es.toList,∃k,e.key=.int .i64 k) (k:Int) (v:Value) :
 ∃es' ck',(Instr.mapUpdate tt (.map (some b)) (.int .i64 k) v).run P w=.ok () { w with heap:=w.heap.setIfInBounds b (.map es' ck') }∧(∀e∈es'.toList,∃k,e.key=.int .i64 k)∧∀k',U6 k' es'.toList=if k'=k then some v else U6 k' es.toList:=by
 cases h:A5b k es.toList 0 with
 | none =>
   refine⟨es.push { key:=.int .i64 k,val:=v,born:=ck },ck+1,?_,?_,?_⟩
   · unfold Instr.mapUpdate
     simp only[Sem.run_bind,run_underlying h1,Result.andThen,MapKept.run_getObj_map hb,B1z h2,B2P h2 hk,h,MapKept.run_setObj_map _ hb]
   · intro e he
     simp only[Array.toList_push,List.mem_append,List.mem_singleton] at he
     rcases he with he|rfl
     · exact hk e he
     · exact⟨k,rfl⟩
   · intro k'
     rw[Array.toList_push];exact(A4a h).2 _ (A3R rfl) k'
 | some x =>
   obtain⟨j,v0⟩:=x;obtain⟨m,h0,⟨e',h3,h3'⟩,h4,h5⟩:=A4Q h
   have hj:j=m:=by omega
   subst hj
   have hkey:((es[j]?).map (·.key)).getD (.int .i64 k)=.int .i64 k:=by
    have h6:es[j]?=some e':=by simpa using h3
    obtain⟨k2,hk2⟩:=hk e' (List.mem_of_getElem? h3)
    rw[A3R hk2] at h3'
    cases h3'
    simp[h6,hk2]
   refine⟨es.modify j fun e=>{ e with key:=.int .i64 k,val:=v },ck,?_,?_,?_⟩
   · unfold Instr.mapUpdate
     simp only[Sem.run_bind,run_underlying h1,Result.andThen,MapKept.run_getObj_map hb,B1z h2,B2P h2 hk,h,hkey,Instr.keyThatStays,A8B,if_true,Sem.run_pure,MapKept.run_setObj_map _ hb]
   · intro e he
     rw[Array.toList_modify] at he;obtain⟨p,hp⟩:=List.mem_iff_getElem?.1 he
     rw[List.getElem?_modify] at hp
     cases h6:es.toList[p]? with
     | none=>rw[h6] at hp;simp at hp
     | some e2 =>
       rw[h6] at hp;simp only[Option.map_eq_map,Option.map_some,Option.some.injEq] at hp
       split at hp
       · subst hp;exact⟨k,rfl⟩
       · subst hp;exact hk _ (List.mem_of_getElem? h6)
   · intro k'
     rw[Array.toList_modify];exact h5 (fun e=>{ e with key:=.int .i64 k,val:=v }) (fun e _=>A3R rfl) v (fun e=>rfl) k'
end
def A5B (P:Program) (t:TypeId):Bool:=match (P.info? t).bind (·.zero) with
 | some (.agg _)=>false
 | some _=>true
 | none=>false
def B8d (t:Ty):List t.den:=List.replicate 24 t.dflt
theorem B5f (t:Ty):(B8d t).length=24:=by simp[B8d]
def A9O (P:Program) (G:TypeId→Option Ty) (d:Option Tmp) (tt:TypeId):Option Res :=
 match P.underlying tt with
 | some (.map _ e) => match G e with
   | some t=>some ⟨True,.c (.ow (nm d)),[nm d],[nm d],[(nm d,.map t (B8d t) [])]⟩
   | none=>none
 | _=>none
def B2k (P:Program) (σ:St) (tt:TypeId) (m x:Operand):Option Res :=
 match σ.ev m,σ.ev x with
 | .c (.ow n), .c (.sc (.int .i64 k)) => match σ.look n with
   | some (.map t xs S) => match P.underlying tt with
     | some (.map kt e) => match P.underlying kt with
       | some (.int _)=>some ⟨(H7 P e=some (F2 t)∧A5B P e=true)∧0≤k∧k < xs.length,.c (B8n S t (xs.getD k.toNat t.dflt)),[],[],[]⟩
       | _=>none
     | _=>none
   | _=>none
 | _,_=>none
def B7z (σ:St):(t:Ty)→CV→Option (t.den × List Nat × List Nat)
 | .int kk,.sc (.int k' x)=>if k'=kk then some (x,[],[]) else none
 | .bool,.sc (.bool x)=>some (x,[],[])
 | .row _ t,.rd S _ t' xs=>if h:t'=t then some (P9 h xs,S,[]) else none
 | .row _ t, .ow m => match σ.look m with
   | some (.row _ t' xs _)=>if t'.flat then if h:t'=t then some (P9 h xs,[],[m]) else none else none
   | _=>none
 | _,_=>none
def B7J (P:Program) (σ:St) (tt:TypeId) (m x v:Operand):Option Res :=
 match σ.ev m,σ.ev x,σ.ev v with
 | .c (.ow n), .c (.sc (.int .i64 k)), .c q => match σ.look n with
   | some (.map t xs S) => match P.underlying tt with
     | some (.map kt _) => match P.underlying kt with
       | some (.int _) => match B7z σ t q with
         | some (y,S',ms)=>if 5 < n∧(uni S S').contains n=false∧ms.contains n=false∧ms.all (fun m=>5 < m)=true then
          some ⟨0≤k∧k < xs.length,.c .bot,n::ms,[],[(n,.map t (xs.set k.toNat y) (uni S S'))]⟩ else none
         | none=>none
       | _=>none
     | _=>none
   | _=>none
 | _,_,_=>none
def A5E (P:Program) (σ:St) (tt:TypeId) (x:Operand) (lo hi:Option Operand):Option Res :=
 match σ.ev x with
 | .c (.sc (.string s)) => match A64 σ 0 lo, A64 σ s.size hi with
   | some l, some h => match P.underlying tt with
     | some .string=>some ⟨0≤l∧l≤h∧h≤s.size,.c (.sc (.string (s.extract l.toNat h.toNat))),[],[],[]⟩
     | _=>none
   | _,_=>none
 | _=>none
def B7A (xs:List Int):ByteArray:=xs.foldl (fun r n=>r.push (UInt8.ofNat n.toNat)) ByteArray.empty
def A8S:((e:TypeId) × (t:Ty) × List t.den)→Option (List Int)
 | ⟨_,.int .u8,xs⟩=>some xs
 | _=>none
def A89 (P:Program) (σ:St) (s d:TypeId) (x:Operand):Option Res :=
 match σ.ev x with
 | .c p => match d6 σ p with
   | some r => match A8S r with
     | some xs => match P.underlying s, P.underlying d with
       | some (.slice e), some .string => match P.underlying e with
         | some (.int .u8)=>N6 (.c (.sc (.string (B7A xs))))
         | _=>none
       | _,_=>none
     | none=>none
   | none=>none
 | _=>none
section
variable {P:Program} {G:TypeId→Option Ty} {R0 R:Rz} {w0 w:World} {σ:St} {a:Act} {o:Oper} {K:Act→World→Prop} {Q:Exit→Act→World→Prop}
theorem B3P {tt:TypeId} {r:Res} (ho:o.op=.makeMap tt none) (h:A9O P G o.dst tt=some r) (hs:Sim R0 w0 R σ a w)
 (hK:∀R' v w',Done R w r.N r.M r.r r.news R' v w'→K (a.put o.dst v) w'):o.wp P a w K Q:=by
 unfold A9O at h
 split at h
 case h_2=>cases h
 rename_i kt e e1
 split at h
 case h_2=>cases h
 rename_i t e2
 cases h
 have hn:=A4o o.dst
 refine V7 (v:=.map (some w.heap.size)) hs (by unfold execOp;simp only[ho,Sem.run_bind,Option.map_none,run_makeMap];simp[Result.andThen]) (B58 R w (nm o.dst) hn (.map (some w.heap.size)) (.map #[] 0)) (by simp;omega) ?_ ?_ hK
 · simp[VR,VRc,Rz.nw]
 · intro p hp
   simp only[List.mem_singleton] at hp
   subst hp;refine⟨#[],0,by simp[Rz.nw],by simp[Rz.nw],?_,by simp,fun i hi=>?_⟩
   · simp only[Rz.nw,if_true];exact heap_alloc_new w _
   · show MapV _ _ _ _ _ none
     exact List.eq_of_mem_replicate (List.getElem_mem hi)
theorem Rd.dfltc {S:Nat→Prop} {w:World}:∀{t:Ty},Rd S w t (F2 t) t.dflt:=by
 intro t
 induction t with
 | prod a b ha hb=>exact⟨_,_,rfl,ha,hb⟩
 | row e t ih=>exact⟨none,0,rfl,Nat.le_refl _,Nat.zero_le _,fun h=>by simp[Ty.dflt] at h⟩
 | _=>rfl
theorem Rd.cv1 {S:List Nat} {t:Ty} {v:Value} {x:t.den} (h:Rd (okS R S) w t [v] x):VRc R w (B8n S t x) v:=by
 cases t with
 | int k=>simp only[Rd,List.cons.injEq,and_true] at h;exact h
 | bool=>simp only[Rd,List.cons.injEq,and_true] at h;exact h
 | str=>simp only[Rd,List.cons.injEq,and_true] at h;exact h
 | row e t=>exact h
 | prod a b=>trivial
theorem B69 {tt:TypeId} {m x:Operand} {r:Res} (ho:o.op=.lookup tt m x false) (h:B2k P σ tt m x=some r) (hc:r.c) (hs:Sim R0 w0 R σ a w)
 (hK:∀R' v w',Done R w r.N r.M r.r r.news R' v w'→K (a.put o.dst v) w'):o.wp P a w K Q:=by
 have h1:=hs.ev m
 have h2:=hs.ev x
 unfold B2k at h
 split at h
 case h_2=>cases h
 rename_i n k e1 e2
 rw[e1] at h1;rw[e2] at h2
 simp only[VR,VRc] at h1 h2
 split at h
 case h_2=>cases h
 rename_i t xs S he
 split at h
 case h_2=>cases h
 rename_i kt e e3
 split at h
 case h_2=>cases h
 rename_i q e4
 cases h
 obtain⟨⟨c1,c2⟩,c3,c4⟩:=hc
 obtain⟨es,ck,k1,k2,k3,k4,k5⟩:=hs.look he
 obtain⟨i,z,z1,z2,z3⟩:=V5 c1
 have hz:(zeroValue e).run P w=.ok z w:=by simp[zeroValue,typeInfo,z1,z2]
 have hzc:[z]=F2 t:=by
  rw[←z3];have:A5B P e=match some z with|some (.agg _)=>false|some _=>true|none=>false:=by unfold A5B;rw[z1];simp[z2]
  rw[this] at c2;cases z<;>simp_all [Value.cells]
 have hlt:k.toNat < xs.length:=by omega
 have hkk:((k.toNat:Nat):Int)=k:=Int.toNat_of_nonneg c3
 have h5:=k5 k.toNat hlt
 rw[hkk] at h5;have hg:xs.getD k.toNat t.dflt=xs[k.toNat]:=by simp[List.getD,hlt]
 refine E0 (v:=(U6 k es.toList).getD z) hs ?_ ?_ hK
 · unfold execOp;simp only[ho,h1,h2,k1,Sem.run_bind,B42 e3 e4 k3 k4 hz];simp[Result.andThen]
 · simp only[VR];rw[hg];refine Rd.cv1 ?_
   cases hf:U6 k es.toList with
   | some v=>rw[hf] at h5;exact h5
   | none =>
     rw[hf] at h5;have h5:xs[k.toNat]=t.dflt:=h5
     rw[h5];show Rd _ w t [z] _
     rw[hzc];exact Rd.dfltc
theorem B7I (hs:Sim R0 w0 R σ a w) {t:Ty} {q:CV} {u:Value} {y:t.den} {S ms:List Nat} (hq:VRc R w q u) (h:B7z σ t q=some (y,S,ms)) :
 Rd (fun b=>R.root b=0∨R.root b∈S∨R.root b∈ms) w t [u] y:=by
 unfold B7z at h
 split at h
 · split at h
   · rename_i e;subst e;cases h;exact congrArg (fun v=>[v]) hq
   · cases h
 · cases h;exact congrArg (fun v=>[v]) hq
 · split at h
   · rename_i e;subst e;cases h
     exact Rd.mono (show Rd (okS R S) w (.row _ _) [u] _ from hq) fun b hb=>hb.elim .inl fun h=>.inr (.inl h)
   · cases h
 · rename_i m
   split at h
   case h_2=>cases h
   rename_i e' t' xs S' he
   split at h
   case isFalse=>cases h
   rename_i hf
   split at h
   case isFalse=>cases h
   rename_i ht
   subst ht;cases h
   have hq:u=R.hd m:=hq
   rw[hq];rcases hs.look he with⟨h1,h2⟩|⟨cap,cur,h1,h2,h3,h4,h5,h6,h7⟩
   · rw[h1,h2];exact⟨none,0,rfl,Nat.le_refl _,Nat.zero_le _,fun h=>by simp[P9] at h⟩
   · refine⟨some ⟨R.bk m,0,none⟩,cap,by rw[h1];rfl,h4,h5,fun _=>⟨R.bk m,0,rfl,.inr (.inr (by rw[h2];simp)),fun i hi=>?_⟩⟩
     have h9:=Rd.flat (S':=fun b=>R.root b=0∨R.root b∈([]:List Nat)∨R.root b∈[m]) (w':=w) hf (h7 i hi)
     refine⟨_,Rd.len h9,fun j hj=>?_,h9⟩
     rw[B8 hj];simp[World.cell?,h3]
 · cases h
theorem B7i {tt:TypeId} {m x v:Operand} {r:Res} (ho:o.op=.mapUpdate tt m x v) (h:B7J P σ tt m x v=some r) (hc:r.c) (hs:Sim R0 w0 R σ a w)
 (hK:∀R' v w',Done R w r.N r.M r.r r.news R' v w'→K (a.put o.dst v) w'):o.wp P a w K Q:=by
 have h1:=hs.ev m
 have h2:=hs.ev x
 have h3:=hs.ev v
 unfold B7J at h
 split at h
 case h_2=>cases h
 rename_i n k q e1 e2 e3
 rw[e1] at h1;rw[e2] at h2;rw[e3] at h3
 simp only[VR,VRc] at h1 h2
 simp only[VR] at h3
 split at h
 case h_2=>cases h
 rename_i t xs S he
 split at h
 case h_2=>cases h
 rename_i kt e e4
 split at h
 case h_2=>cases h
 rename_i qk e5
 split at h
 case h_2=>cases h
 rename_i y S' ms e6
 split at h
 case isFalse=>cases h
 rename_i hcond
 obtain⟨d1,d2,d3,d4⟩:=hcond;cases h
 obtain⟨c1,c2⟩:=hc;obtain⟨es,ck,k1,k2,k3,k4,k5⟩:=hs.look he
 have hv:=B7I hs h3 e6
 have d2':n ∉ uni S S':=fun hh=>by simp[hh] at d2
 have d3':n ∉ ms:=fun hh=>by simp[hh] at d3
 have d4':∀m∈ms,5 < m:=fun m hm=>by simpa using List.all_eq_true.1 d4 m hm
 obtain⟨es',ck',u1,u2,u3⟩:=B5q (w:=w) e4 e5 k3 k4 k (a.eval v)
 obtain⟨g1,g2⟩:=MapKept.heap_set (o':=.map es' ck') k3
 obtain⟨R1,hR1⟩:∃R1:Rz,R1={ R with root:=fun b=>if R.root b∈ms then 0 else R.root b }:=⟨_,rfl⟩
 have hrt:∀b,R.root b ∉ ms→R1.root b=R.root b:=fun b hb=>by rw[hR1];exact if_neg hb
 have hok:∀b,(R.root b=0∨R.root b∈uni S S'∨R.root b∈ms)→okS R1 (uni S S') b∧b≠R.bk n:=fun b hb=>by
  constructor
  · by_cases hm:R.root b∈ms
    · left;rw[hR1];exact if_pos hm
    · rcases hb with hb|hb|hb
      · left;rw[hrt b hm];exact hb
      · right;rw[hrt b hm];exact hb
      · exact absurd hb hm
  · rintro rfl
    rw[k2] at hb;rcases hb with hb|hb|hb
    · omega
    · exact d2' hb
    · exact d3' hb
 have hf:FR (n::ms) [] R w R1 { w with heap:=w.heap.setIfInBounds (R.bk n) (.map es' ck') }:=by
  refine⟨rfl,rfl,rfl,by simp,fun b hb hr=>?_,fun m _=>by rw[hR1];exact⟨rfl,rfl⟩,fun m _=>by rw[hR1];exact⟨rfl,rfl⟩⟩
  simp only[List.mem_cons,not_or] at hr
  exact⟨g2 b (fun e=>hr.1 (by rw[e];exact k2)),hrt b hr.2⟩
 refine t5 hs (w':={ w with heap:=w.heap.setIfInBounds (R.bk n) (.map es' ck') }) (R':=R1) ?_ hf (fun m hm=>?_) rfl (fun p hp=>?_) hK
 · unfold execOp;simp only[ho,h1,h2,k1,Sem.run_bind,u1];simp[Result.andThen]
 · rcases List.mem_cons.1 hm with rfl|hm
   · exact d1
   · exact d4' m hm
 · simp only[List.mem_singleton] at hp
   subst hp;have eh:R1.hd n=R.hd n:=by rw[hR1]
   have eb:R1.bk n=R.bk n:=by rw[hR1]
   have tr:∀{us:List Value} {z:t.den},Rd (fun b=>R.root b=0∨R.root b∈uni S S'∨R.root b∈ms) w t us z→Rd (okS R1 (uni S S')) { w with heap:=w.heap.setIfInBounds (R.bk n) (.map es' ck') } t us z :=
    fun hr=>hr.frame fun b _ hb=>⟨(hok b hb).1,g2 b (hok b hb).2⟩
   refine⟨es',ck',by rw[eh,eb];exact k1,by rw[eb,hrt _ (by rw[k2];exact d3')];exact k2,by rw[eb];exact g1,u2,fun i hi=>?_⟩
   simp only[List.length_set] at hi
   rw[u3]
   by_cases hik:(i:Int)=k
   · have:k.toNat=i:=by omega
     rw[if_pos hik];simp only[this,List.getElem_set_self];exact tr (hv.mono fun b hb=>hb.elim .inl fun h=>.inr (h.elim (fun h=>.inl (x8 h)) .inr))
   · have:k.toNat≠i:=by omega
     rw[if_neg hik];simp only[List.getElem_set_ne this];have h6:=k5 i hi
     cases hfi:U6 (i:Int) es.toList with
     | none=>rw[hfi] at h6;exact h6
     | some vv =>
       rw[hfi] at h6;exact tr (Rd.mono h6 fun b hb=>hb.elim .inl fun h=>.inr (.inl (s7 h)))
theorem B2F {tt:TypeId} {x:Operand} {lo hi:Option Operand} {r:Res} (ho:o.op=.slice tt x lo hi none) (h:A5E P σ tt x lo hi=some r) (hc:r.c) (hs:Sim R0 w0 R σ a w)
 (hK:∀R' v w',Done R w r.N r.M r.r r.news R' v w'→K (a.put o.dst v) w'):o.wp P a w K Q:=by
 have h1:=hs.ev x
 unfold A5E at h
 split at h
 case h_2=>cases h
 rename_i s e1
 rw[e1] at h1;simp only[VR,VRc] at h1
 split at h
 case h_2=>cases h
 rename_i l hh e2 e3
 split at h
 case h_2=>cases h
 rename_i e4
 cases h
 obtain⟨c1,c2,c3⟩:=hc;have bnd:∀{k:IntKind} {i:Int} {y:Nat} {code:BoundsCode},0≤i→i≤y→(Instr.sliceBound (.int k i) y code).run P w=.ok i.toNat w:=fun h0 h1=>run_sliceBound w _ _ _ _ h0 h1
 have hhn:((hh.toNat:Nat):Int)=hh:=Int.toNat_of_nonneg (by omega)
 refine E0 (v:=.string (s.extract l.toNat hh.toNat)) hs ?_ (by simp[VR,VRc]) hK
 have hlo:∀d y,A64 σ d lo=some y→(lo=none∧y=d)∨∃z k,lo=some z∧a.eval z=.int k y:=fun d y hy=>by
  unfold A64 at hy
  split at hy
  · cases hy;exact .inl ⟨rfl,rfl⟩
  · rename_i z
    split at hy
    · rename_i k i ez
      cases hy
      have:=hs.ev z
      rw[ez] at this;exact .inr ⟨z,k,rfl,this⟩
    · cases hy
 have hhi:∀d y,A64 σ d hi=some y→(hi=none∧y=d)∨∃z k,hi=some z∧a.eval z=.int k y:=fun d y hy=>by
  unfold A64 at hy
  split at hy
  · cases hy;exact .inl ⟨rfl,rfl⟩
  · rename_i z
    split at hy
    · rename_i k i ez
      cases hy
      have:=hs.ev z
      rw[ez] at this;exact .inr ⟨z,k,rfl,this⟩
    · cases hy
 unfold execOp;rw[ho];simp only[h1,Option.map_none];rw[Sem.run_bind,run_sliceAt_string w _ _ _ _ _ e4]
 have key:(Instr.slice tt (.string s) (lo.map a.eval) (hi.map a.eval) none).run P w=.ok (.string (s.extract l.toNat hh.toNat)) w:=by
  unfold Instr.slice
  rcases hlo _ _ e2 with⟨rfl,rfl⟩|⟨z,k,rfl,hz⟩<;>rcases hhi _ _ e3 with⟨rfl,rfl⟩|⟨z',k',rfl,hz'⟩
  · simp[run_underlying e4,Instr.sliceBounds,Sem.run_bind,Result.andThen]
  · simp[run_underlying e4,Instr.sliceBounds,Sem.run_bind,Result.andThen,hz',bnd (show (0:Int)≤hh by omega) c3]
  · simp[run_underlying e4,Instr.sliceBounds,Sem.run_bind,Result.andThen,hz,bnd c1 c2]
  · simp[run_underlying e4,Instr.sliceBounds,Sem.run_bind,Result.andThen,hz,hz',bnd (show (0:Int)≤hh by omega) c3,bnd c1 (show l≤((hh.toNat:Nat):Int) by omega)]
 rw[key];simp[Result.andThen]
theorem B4G {s d:TypeId} {x:Operand} {r:Res} (ho:o.op=.convert s d x) (h:A89 P σ s d x=some r) (hs:Sim R0 w0 R σ a w)
 (hK:∀R' v w',Done R w r.N r.M r.r r.news R' v w'→K (a.put o.dst v) w'):o.wp P a w K Q:=by
 have h1:=hs.ev x
 unfold A89 at h
 split at h
 case h_2=>cases h
 rename_i p e1
 rw[e1] at h1;simp only[VR] at h1
 split at h
 case h_2=>cases h
 rename_i rr e2
 split at h
 case h_2=>cases h
 rename_i xs e3
 split at h
 case h_2=>cases h
 rename_i e e4 e5
 split at h
 case h_2=>cases h
 rename_i e6
 cases h
 unfold A8S at e3
 split at e3
 case h_2=>cases e3
 rename_i ee ys
 cases e3
 obtain⟨ad,cap,news,k1,k2,k3,k4⟩:=n7 hs h1 e2
 have hl:news.length=xs.length:=by simpa [Ty.w] using k3.1
 have hn:news=xs.map (Value.int .u8):=by
  refine List.ext_getElem (by simp[hl]) fun i hi hi2=>?_
  have hi':i < xs.length:=by omega
  have:=k3.2 i hi'
  simp only[Rd,Ty.w,Nat.mul_one] at this
  rw[List.getElem_map]
  have h9:(news.drop i).take 1=[news[i]]:=by
   rw[List.drop_eq_getElem_cons hi,List.take_succ_cons,List.take_zero]
  rw[h9] at this
  simpa using this
 refine E0 (v:=.string (B7A xs)) hs ?_ (by simp[VR,VRc]) hK
 have hrun:(Conv.bytesToString (a.eval x)).run P w=.ok (.string (B7A xs)) w:=by
  rcases k4 with k4|⟨ad0,rfl,k4⟩
  · have hx:xs=[]:=List.eq_nil_of_length_eq_zero k4
    subst hx;rw[k1];cases ad with
    | none=>simp[Conv.bytesToString,B7A,Sem.run_pure]
    | some ad0=>exact run_bytesToString w ad0 _ cap [] (by simpa using run_loadCells_list (P:=P) w ad0 [] (fun j v hj=>by simp at hj))
  · rw[k1];refine run_bytesToString w ad0 _ cap xs ?_
    have:=run_loadCells_list (P:=P) w ad0 (xs.map (Value.int .u8)) (fun j v hj=>k4 j v (by rw[hn];exact hj))
    simpa using this
 unfold execOp;rw[ho];rw[k1] at hrun;simp only[k1];rw[Sem.run_bind,run_convert_bytes_string w s d e _ _ _ e4 e6 e5,hrun];simp[Result.andThen]
end
end Go.Proofs.YtenjbehedcegdaaGreat
