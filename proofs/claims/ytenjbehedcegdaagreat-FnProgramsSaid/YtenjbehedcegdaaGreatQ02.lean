/-
  Texts of this claim, joined (part 2). No condition beyond those of the theorems.
-/
import Derived.Test.YtenjbehedcegdaaGreatQ01
import Derived.Orders
import Derived.WalkKit
import Derived.WalkSpells
import Derived.WalkLawsBesides
import Derived.Deep.QuietTactic
import Derived.IntWalk
set_option linter.unusedSimpArgs false
set_option linter.unusedVariables false
namespace Go.Proofs.YtenjbehedcegdaaGreat
open Go.RowKit
inductive PK where
 | val (t:Ty)
 | ptr (t:Ty)
 | one (t:Ty)
@[reducible] def PK.den:PK→Type
 | .val t=>t.den
 | .ptr t=>t.den
 | .one t=>t.den
@[reducible] def A8Q:List PK→Type
 | []=>Unit
 | p::l=>p.den × A8Q l
structure RK where
 t:Ty
 own:Bool
@[reducible] def d8:List RK→Type
 | []=>Unit
 | [r]=>r.t.den
 | r::l=>r.t.den × d8 l
def Ty.av (S:List Nat):(t:Ty)→t.den→AV
 | .int k,x=>.c (.sc (.int k x))
 | .bool,x=>.c (.sc (.bool x))
 | .str,x=>.c (.sc (.string x))
 | .row e t,xs=>.c (.rd S e t xs)
 | .prod a b,x=>.agg (cellsOf S (.prod a b) x)
def PK.av:(p:PK)→p.den→AV
 | .val t,x=>t.av [] x
 | .ptr t,x=>.c (.pt [] t x 0)
 | .one t,x=>.agg (cellsOf [] t x)
def avs:(ps:List PK)→A8Q ps→List AV
 | [],_=>[]
 | p::l,x=>p.av x.1::avs l x.2
def Ty.rows:Ty→Nat
 | .row _ _=>1
 | .prod a b=>a.rows+b.rows
 | _=>0
def A3B (f:Nat→Nat) (own:Bool) (S:List Nat):Nat→(t:Ty)→t.den→List CV
 | _,.int k,x=>[.sc (.int k x)]
 | _,.bool,x=>[.sc (.bool x)]
 | _,.str,x=>[.sc (.string x)]
 | k,.row e t,xs=>[if own then .ow (f k) else .rd S e t xs]
 | k,.prod a b,x=>A3B f own S k a x.1++A3B f own S (k+a.rows) b x.2
def Y5 (f:Nat→Nat) (S:List Nat):Nat→(t:Ty)→t.den→List (Nat × Ob)
 | _,.int _,_=>[]
 | _,.bool,_=>[]
 | _,.str,_=>[]
 | k, .row e t, xs => [(f k, match t.flat with
   | true=>.row e t xs []
   | false=>.tree e t xs none)]
 | k,.prod a b,x=>Y5 f S k a x.1++Y5 f S (k+a.rows) b x.2
def A1B (f:Nat→Nat) (own:Bool) (S:List Nat) (k:Nat):(t:Ty)→t.den→AV
 | .int q,x=>.c (.sc (.int q x))
 | .bool,x=>.c (.sc (.bool x))
 | .str,x=>.c (.sc (.string x))
 | .row e t,xs=>.c (if own then .ow (f k) else .rd S e t xs)
 | .prod a b,x=>.agg (A3B f own S k (.prod a b) x)
def T8 (f:Nat→Nat) (S:List Nat):Nat→(rs:List RK)→d8 rs→List AV
 | _,[],_=>[]
 | k,[r],x=>[A1B f r.own S k r.t x]
 | k,r::q::l,x=>A1B f r.own S k r.t x.1::T8 f S (k+r.t.rows) (q::l) x.2
def S0 (f:Nat→Nat) (S:List Nat) (rs:List RK) (x:d8 rs):AV :=
 match T8 f S 0 rs x with
 | [v]=>v
 | l=>.tup l
def X4 (f:Nat→Nat) (S:List Nat):Nat→(rs:List RK)→d8 rs→List (Nat × Ob)
 | _,[],_=>[]
 | k,[r],x=>if r.own then Y5 f S k r.t x else []
 | k,r::q::l,x=>(if r.own then Y5 f S k r.t x.1 else [])++X4 f S (k+r.t.rows) (q::l) x.2
def R9:List RK→Nat
 | []=>0
 | r::l=>r.t.rows+R9 l
structure Con where
 ps:List PK
 rs:List RK
 c:A8Q ps→Prop
 r:A8Q ps→d8 rs
def y5 (k:Nat):Nat:=10+k
structure Keeps (R:Rz) (w:World) (R':Rz) (w':World):Prop where
 os:w'.os=w.os
 tape:w'.tape=w.tape
 output:w'.output=w.output
 size:w.heap.size≤w'.heap.size
 keep:∀b,b < w.heap.size→R.root b≤5→w'.heap[b]?=w.heap[b]?∧R'.root b=R.root b
def C8 (P:Program) (f:FuncId) (k:Con):Prop :=
 ∀ x, k.c x → ∀ (R : Rz) (w : World) (vs : Array Value), Glob R w → VRt R w (avs k.ps x) vs.toList →
   Calls P f vs w fun e w'=>∃v R',e=.returned v∧VR R' w' (S0 y5 [] k.rs (k.r x)) v∧obsOk R' w' (X4 y5 [] 0 k.rs (k.r x))∧Keeps R w R' w'
inductive GF where
 | rd (t:Ty)
 | ow (k:Nat)
 | fn (f:FuncId) (ks:List Nat)
inductive GP where
 | val (t:Ty)
 | ptr (t:Ty)
 | one (t:Ty)
 | po (k:Nat)
 | ow (k:Nat)
 | ag (fs:List GF)
 | fn (f:FuncId) (ks:List Nat)
inductive GO where
 | box (l:List GF)
 | row (e:TypeId) (t:Ty)
 | tree (e:TypeId) (t:Ty)
 | map (t:Ty)
@[reducible] def GF.den:GF→Type
 | .rd t=>t.den
 | .ow _=>Unit
 | .fn _ _=>Unit
@[reducible] def A4z:List GF→Type
 | []=>Unit
 | p::l=>p.den × A4z l
@[reducible] def GP.den:GP→Type
 | .val t | .ptr t | .one t=>t.den
 | .po _ | .ow _=>Unit
 | .ag fs=>A4z fs
 | .fn _ _=>Unit
@[reducible] def A1Z:List GP→Type
 | []=>Unit
 | p::l=>p.den × A1Z l
@[reducible] def GO.den:GO→Type
 | .box l=>A4z l
 | .row _ t | .tree _ t | .map t=>List t.den
@[reducible] def A2T:List GO→Type
 | []=>Unit
 | p::l=>p.den × A2T l
def ioN (k:Nat):Nat:=30+k
def gfs:(fs:List GF)→A4z fs→List CV
 | [],_=>[]
 | .rd t::l,x=>cellsOf [] t x.1++gfs l x.2
 | .ow k::l,x=>.ow (ioN k)::gfs l x.2
 | .fn f ks::l,x=>.fn f (ks.map ioN)::gfs l x.2
def GP.av:(p:GP)→p.den→AV
 | .val t,x=>t.av [] x
 | .ptr t,x=>.c (.pt [] t x 0)
 | .one t,x=>.agg (cellsOf [] t x)
 | .po k,_=>.c (.po (ioN k) 0)
 | .ow k,_=>.c (.ow (ioN k))
 | .ag fs,x=>.agg (gfs fs x)
 | .fn f ks,_=>.c (.fn f (ks.map ioN))
def A0b:(ps:List GP)→A1Z ps→List AV
 | [],_=>[]
 | p::l,x=>p.av x.1::A0b l x.2
def GO.ob:(o:GO)→o.den→Ob
 | .box l,x=>.box (gfs l x)
 | .row e t,x=>.row e t x []
 | .tree e t,x=>.tree e t x none
 | .map t,x=>.map t x []
def A57:Nat→(os:List GO)→A2T os→List (Nat × Ob)
 | _,[],_=>[]
 | i,o::l,x=>(ioN i,o.ob x.1)::A57 (i+1) l x.2
def nmOk (n m:Nat):Bool:=(decide (10≤m) && decide (m < 26)) || (decide (30≤m) && decide (m < 30+n))
def CV.nmOk (n:Nat) (c:CV):Bool:=c.srcs.all (Go.Proofs.YtenjbehedcegdaaGreat.nmOk n) && c.ids.all (Go.Proofs.YtenjbehedcegdaaGreat.nmOk n)
mutual
def AV.nmOk (n:Nat):AV→Bool
 | .c x=>x.nmOk n
 | .agg l=>l.all (CV.nmOk n)
 | .tup l=>AV.nmOkL n l
def AV.nmOkL (n:Nat):List AV→Bool
 | []=>true
 | x::l=>x.nmOk n && AV.nmOkL n l
end
def Ob.nmOk (n:Nat):Ob→Bool
 | .box l=>l.all (CV.nmOk n)
 | .row _ _ _ S=>S.all (Go.Proofs.YtenjbehedcegdaaGreat.nmOk n)
 | .tree _ _ _ _=>true
 | .map _ _ S=>S.all (Go.Proofs.YtenjbehedcegdaaGreat.nmOk n)
def A5K (n:Nat):List (Nat × Ob)→Bool
 | []=>true
 | p::l=>Go.Proofs.YtenjbehedcegdaaGreat.nmOk n p.1 && p.2.nmOk n && A5K n l
structure GCon where
 ps:List GP
 os:List GO
 c:A1Z ps × A2T os→Prop
 r:A1Z ps × A2T os→AV
 o:A1Z ps × A2T os→List (Nat × Ob)
 ok:∀x,(r x).nmOk os.length=true∧A5K os.length (o x)=true∧os.length≤16
def l6 (P:Program) (f:FuncId) (k:GCon):Prop :=
 ∀ x, k.c x → ∀ (R : Rz) (w : World) (vs : Array Value), Glob R w → VRt R w (A0b k.ps x.1) vs.toList → obsOk R w (A57 0 k.os x.2) →
   Calls P f vs w fun e w'=>∃v R',e=.returned v∧VR R' w' (k.r x) v∧obsOk R' w' (k.o x)∧Keeps R w R' w'∧∀n,30≤n→n < 46→R'.hd n=R.hd n∧R'.bk n=R.bk n
inductive CK where
 | p (k:Con)
 | g (k:GCon)
def C11 (P:Program) (f:FuncId):CK→Prop
 | .p k=>C8 P f k
 | .g k=>l6 P f k
abbrev G4:=FuncId→Option CK
def B75 (P : Program) (f : FuncId) : Prop := ∃ fn c, P.funcs[f]? = some fn ∧ fn.body = some c ∧ fn.name ≠ "runtime.NumGoroutine"
def B5 (P:Program) (T:G4):Prop:=∀f k,T f=some k→C11 P f k∧B75 P f
def A81 (σ:St):(t:Ty)→AV→Option (t.den × List Nat)
 | .prod a b, v => match v with
   | .agg l=>rds σ (.prod a b) l
   | _=>none
 | .int k, v => match v with
   | .c x=>rds σ (.int k) [x]
   | _=>none
 | .bool, v => match v with
   | .c x=>rds σ .bool [x]
   | _=>none
 | .str, v => match v with
   | .c x=>rds σ .str [x]
   | _=>none
 | .row e t, v => match v with
   | .c x=>rds σ (.row e t) [x]
   | _=>none
def B2t {t' t:Ty} (h:t'=t) (x:t'.den):t.den:=h ▸ x
theorem A67 {t:Ty} (h:t=t) (x:t.den):B2t h x=x:=rfl
def B6f (σ:St) (t:Ty):AV→Option (Prop × t.den × List Nat)
 | .c (.pt S t' x 0)=>if h:t'=t then some (True,B2t h x,S) else none
 | .c (.po n o) => match σ.look n with
   | some (.box l) => if o + t.w ≤ l.length then match rds σ t ((l.drop o).take t.w) with
     | some (x,S)=>some (True,x,n::S)
     | none=>none else none
   | _=>none
 | .c (.pe n i wd 0) => match σ.look n with
   | some (.row _ t' xs S)=>if h:t'=t then if wd=t'.w then some (i < xs.length,B2t h (xs.getD i t'.dflt),n::S) else none else none
   | some (.tree _ t' xs hh)=>if h:t'=t then if wd=t'.w then some (i < xs.length∧okH hh i,B2t h (xs.getD i t'.dflt),[n]) else none else none
   | _=>none
 | _=>none
def A6G (σ:St):(ps:List PK)→List AV→Option (Prop × A8Q ps × List Nat)
 | [],[]=>some (True,(),[])
 | .val t :: ps, v :: vs => match A81 σ t v, A6G σ ps vs with
   | some (x,S),some (c,y,S')=>some (c,(x,y),uni S S')
   | _,_=>none
 | .ptr t :: ps, v :: vs => match B6f σ t v, A6G σ ps vs with
   | some (c,x,S),some (c',y,S')=>some (c∧c',(x,y),uni S S')
   | _,_=>none
 | .one t :: ps, v :: vs => match v, A6G σ ps vs with
   | .agg l, some (c, y, S') => match rds σ t l with
     | some (x,S)=>some (c,(x,y),uni S S')
     | none=>none
   | _,_=>none
 | _,_=>none
def Rz.hide (R:Rz) (S:List Nat):Rz:={ R with root:=fun b=>if R.root b=0∨R.root b∈S then 0 else 5 }
section
variable {P:Program} {R0 R:Rz} {w0 w:World} {σ:St} {a:Act} {o:Oper} {K:Act→World→Prop} {Q:Exit→Act→World→Prop}
theorem B6M {S S':List Nat} (h:∀n∈S',n∈S):∀b,okS R S' b→okS (R.hide S) [] b:=by
 intro b hb
 left
 show (if R.root b=0∨R.root b∈S then 0 else 5)=0
 rw[if_pos];exact hb.elim .inl fun h'=>.inr (h _ h')
theorem Rd.av {S:List Nat} {t:Ty} {x:t.den} {us:List Value} {v:Value} (h:Rd (okS R S) w t us x) (hv:(t.flat=t.flat)∧((∃a b,t=.prod a b)→v=.agg us.toArray)∧((¬∃a b,t=.prod a b)→us=[v])):VR R w (t.av S x) v:=by
 cases t with
 | int k=>have:=hv.2.2 (by simp);subst this;simp only[Rd] at h;simp only[Ty.av,VR,VRc];simpa using h
 | bool=>have:=hv.2.2 (by simp);subst this;simp only[Rd] at h;simp only[Ty.av,VR,VRc];simpa using h
 | str=>have:=hv.2.2 (by simp);subst this;simp only[Rd] at h;simp only[Ty.av,VR,VRc];simpa using h
 | row e t=>have:=hv.2.2 (by simp);subst this;simpa only [Ty.av,VR,VRc] using h
 | prod p q =>
   have:=hv.2.1 ⟨p,q,rfl⟩
   subst this;simp only[Ty.av,VR];exact⟨_,rfl,by simpa using h.cells⟩
theorem B2W (hs:Sim R0 w0 R σ a w) {t:Ty} {v:AV} {u:Value} {x:t.den} {S S1:List Nat} {R1:Rz} (hR:∀S',(∀n∈S',n∈S1)→∀b,okS R S' b→okS R1 [] b) (hv:VR R w v u) (h:A81 σ t v=some (x,S)) (hS:∀n∈S,n∈S1):VR R1 w (t.av [] x) u:=by
 have conv:∀us,Rd (okS R S) w t us x→Rd (okS R1 []) w t us x:=fun us h=>h.mono (hR _ hS)
 cases t with
 | prod p q =>
   simp only[A81] at h
   split at h
   · rename_i l
     simp only[VR] at hv
     obtain⟨us,rfl,h1⟩:=hv;exact Rd.av (conv _ (j6 hs _ h1 h)) ⟨rfl,fun _=>by simp,fun hn=>absurd ⟨p,q,rfl⟩ hn⟩
   · cases h
 | int k =>
   simp only[A81] at h
   split at h
   · simp only[VR] at hv
     exact Rd.av (conv _ (j6 hs _ (show VRs R w [_] [u] from ⟨u,[],rfl,hv,rfl⟩) h)) ⟨rfl,fun hn=>by simp at hn,fun _=>rfl⟩
   · cases h
 | bool =>
   simp only[A81] at h
   split at h
   · simp only[VR] at hv
     exact Rd.av (conv _ (j6 hs _ (show VRs R w [_] [u] from ⟨u,[],rfl,hv,rfl⟩) h)) ⟨rfl,fun hn=>by simp at hn,fun _=>rfl⟩
   · cases h
 | str =>
   simp only[A81] at h
   split at h
   · simp only[VR] at hv
     exact Rd.av (conv _ (j6 hs _ (show VRs R w [_] [u] from ⟨u,[],rfl,hv,rfl⟩) h)) ⟨rfl,fun hn=>by simp at hn,fun _=>rfl⟩
   · cases h
 | row e t =>
   simp only[A81] at h
   split at h
   · simp only[VR] at hv
     exact Rd.av (conv _ (j6 hs _ (show VRs R w [_] [u] from ⟨u,[],rfl,hv,rfl⟩) h)) ⟨rfl,fun hn=>by simp at hn,fun _=>rfl⟩
   · cases h
theorem B2e (hs:Sim R0 w0 R σ a w) {t:Ty} {v:AV} {u:Value} {c:Prop} {x:t.den} {S S1:List Nat} {R1:Rz} (hR:∀S',(∀n∈S',n∈S1)→∀b,okS R S' b→okS R1 [] b) (hv:VR R w v u) (h:B6f σ t v=some (c,x,S)) (hc:c) (hS:∀n∈S,n∈S1) :
 VR R1 w (.c (.pt [] t x 0)) u:=by
 simp only[VR,VRc];unfold B6f at h
 split at h
 · rename_i S' t' y
   split at h
   · rename_i ht
     subst ht;cases h
     simp only[VR,VRc] at hv
     obtain⟨b,q,us,rfl,hb,hl,hcell,hr⟩:=hv;exact⟨b,q,us,rfl,hR _ hS b hb,hl,hcell,hr.mono (hR _ hS)⟩
   · cases h
 · rename_i n k
   split at h
   · rename_i l he
     split at h
     case isFalse=>cases h
     rename_i hle
     split at h
     · rename_i y S' e1
       cases h
       simp only[VR,VRc] at hv
       obtain⟨us,T,h1,h2,h3⟩:=hs.look he
       have hl3:=h3.length
       simp only[Array.length_toList] at hl3
       have hr:=j6 hs t ((h3.drop k).take t.w) e1
       refine⟨R.bk n,k,_,hv,hR _ hS _ (.inr (by rw[h2];simp)),hr.len,fun j hj=>?_,hr.mono fun b hb=>hR _ (fun m hm=>hS m (List.mem_cons_of_mem _ hm)) b hb⟩
       rw[B8 hj];simp[World.cell?,h1]
     · cases h
   · cases h
 · rename_i n i wd
   split at h
   · rename_i e t' xs S' he
     split at h
     case isFalse=>cases h
     rename_i ht
     subst ht
     split at h
     case isFalse=>cases h
     rename_i hwd
     subst hwd;cases h
     have hc:i < xs.length:=hc
     simp only[VR,VRc] at hv
     rcases hs.look he with⟨_,h2⟩|⟨cap,cur,h1,h2,h3,h4,h5,h6,h7⟩
     · subst h2;simp at hc
     have h8:=h7 i hc
     have e1:xs.getD i t'.dflt=xs[i]:=by simp[List.getD,hc]
     rw[A67,e1];refine⟨R.bk n,i * t'.w,_,hv,hR _ hS _ (.inr (by rw[h2];simp)),h8.len,fun j hj=>?_,h8.mono fun b hb=>hR _ (fun m hm=>hS m (List.mem_cons_of_mem _ hm)) b hb⟩
     rw[B8 hj];simp[World.cell?,h3]
   · rename_i e t' xs hh he
     split at h
     case isFalse=>cases h
     rename_i ht
     subst ht
     split at h
     case isFalse=>cases h
     rename_i hwd
     subst hwd;cases h
     obtain⟨hc,hk⟩:i < xs.length∧okH hh i:=hc
     simp only[VR,VRc] at hv
     rcases hs.look he with⟨_,h2⟩|⟨cap,cur,h1,h2,h3,h4,h5,h6,h7,h8⟩
     · subst h2;simp at hc
     have h9:=(h7 i hc (B3B.1 hk)).rd
     have e1:xs.getD i t'.dflt=xs[i]:=by simp[List.getD,hc]
     rw[A67,e1];refine⟨R.bk n,i * t'.w,_,hv,hR _ hS _ (.inr (by rw[h2];simp)),h9.len,fun j hj=>?_,h9.mono fun b hb=>hR _ (fun m hm=>hS m hm) b hb⟩
     rw[B8 hj];simp[World.cell?,h3]
   · cases h
 · cases h
theorem B77 (hs:Sim R0 w0 R σ a w) {S1:List Nat} {R1:Rz} (hR:∀S',(∀n∈S',n∈S1)→∀b,okS R S' b→okS R1 [] b):∀{ps:List PK} {l:List AV} {us:List Value} {c:Prop} {x:A8Q ps} {S:List Nat},VRt R w l us→A6G σ ps l=some (c,x,S)→c→(∀n∈S,n∈S1)→VRt R1 w (avs ps x) us:=by
 intro ps
 induction ps with
 | nil =>
   intro l us c x S h1 h2 _ _
   cases l with
   | nil=>simp only[VRt] at h1;subst h1;simp[avs,VRt]
   | cons v l=>simp[A6G] at h2
 | cons p ps ih =>
   intro l us c x S h1 h2 hc hS
   cases l with
   | nil=>cases p<;>simp[A6G] at h2
   | cons v l =>
     simp only[VRt] at h1
     obtain⟨u,us',rfl,h3,h4⟩:=h1;cases p with
     | val t =>
       simp only[A6G] at h2
       split at h2
       · rename_i y S2 c' z S3 e1 e2
         cases h2
         simp only[avs,VRt,PK.av];exact⟨u,us',rfl,B2W hs hR h3 e1 (fun n hn=>hS n (s7 hn)),ih h4 e2 hc (fun n hn=>hS n (x8 hn))⟩
       · cases h2
     | ptr t =>
       simp only[A6G] at h2
       split at h2
       · rename_i c1 y S2 c' z S3 e1 e2
         cases h2
         simp only[avs,VRt,PK.av];exact⟨u,us',rfl,B2e hs hR h3 e1 hc.1 (fun n hn=>hS n (s7 hn)),ih h4 e2 hc.2 (fun n hn=>hS n (x8 hn))⟩
       · cases h2
     | one t =>
       simp only[A6G] at h2
       split at h2
       · rename_i q c' z S3 e2
         split at h2
         case h_2=>cases h2
         rename_i y S2 e1
         cases h2
         simp only[avs,VRt,PK.av];refine⟨u,us',rfl,?_,ih h4 e2 hc (fun n hn=>hS n (x8 hn))⟩
         simp only[VR] at h3 ⊢
         obtain⟨vs,rfl,h5⟩:=h3;exact⟨vs,rfl,((j6 hs t h5 e1).mono (hR _ fun n hn=>hS n (s7 hn))).cells⟩
       · cases h2
end
open Go.RowKit
def nms (d:Option Tmp):List Nat:=[nm d,nm d+1,nm d+2,nm d+3,nm d+4,nm d+5,nm d+6,nm d+7,nm d+8,nm d+9,nm d+10,nm d+11,nm d+12,nm d+13,nm d+14,nm d+15]
theorem A0v {d:Option Tmp} {n:Nat}:n∈nms d↔nm d≤n∧n < nm d+16:=by
 simp only[nms,List.mem_cons,List.not_mem_nil,or_false];omega
def A01 (d:Option Tmp) (k:Nat):Nat:=nm d+k
def A8Y (k:Con) (σ:St) (d:Option Tmp) (args:List AV):Option Res :=
 match A6G σ k.ps args with
 | some (c,x,S)=>if S.any (fun n=>(nms d).contains n)∨8 < R9 k.rs then none else
  some ⟨c∧k.c x,S0 (A01 d) S k.rs (k.r x),if R9 k.rs=0 then [] else nms d,if R9 k.rs=0 then [] else nms d,X4 (A01 d) S 0 k.rs (k.r x)⟩
 | none=>none
def Rz.take (R:Rz) (d:Option Tmp) (n:Nat) (R':Rz):Rz :=
  { root:=fun b=>if b < n then (if R.root b∈nms d then 1 else R.root b) else if 10≤R'.root b∧R'.root b < 26 then nm d+(R'.root b - 10) else if R'.root b=0 then 0 else 1
    hd:=fun m=>if nm d≤m∧m < nm d+16 then R'.hd (m - nm d+10) else R.hd m
    bk:=fun m=>if nm d≤m∧m < nm d+16 then R'.bk (m - nm d+10) else R.bk m }
section
variable {P:Program} {R0 R R':Rz} {w0 w w':World} {σ:St} {a:Act} {o:Oper} {K:Act→World→Prop} {Q:Exit→Act→World→Prop} {d:Option Tmp} {S:List Nat}
theorem B8E (h:Keeps (R.hide S) w R' w'):FR (nms d) (nms d) R w (R.take d w.heap.size R') w':=by
 refine⟨h.os,h.tape,h.output,h.size,fun b hb hr=>?_,fun m hm=>?_,fun m hm=>?_⟩
 · obtain⟨h1,_⟩:=h.keep b hb (by show (if _ then _ else _)≤5;split<;>omega)
   exact⟨h1,by simp[Rz.take,hb,hr]⟩
 · rw[A0v] at hm;simp[Rz.take,hm]
 · have h1:=A4o d
   have:¬(nm d≤m∧m < nm d+16):=by omega
   simp[Rz.take,this]
theorem B6E (h:Keeps (R.hide S) w R' w') (hS:∀n∈S,n ∉ nms d) {L:List Nat} (hL:∀n∈L,10≤n∧n < 26) {b:Nat} (hb:okS R' L b) :
 okS (R.take d w.heap.size R') (L.map (fun n=>nm d+(n - 10))++S) b:=by
 unfold okS
 by_cases hlt:b < w.heap.size
 · obtain⟨_,h2⟩:=h.keep b hlt (by show (if _ then _ else _)≤5;split<;>omega)
   have hz:R'.root b=0:=by
    rcases hb with hb|hb
    · exact hb
    · have:=(hL _ hb).1
      rw[h2] at this;have:(if R.root b=0∨R.root b∈S then 0 else 5)≥10:=this
      split at this<;>omega
   rw[h2] at hz;have hz:(if R.root b=0∨R.root b∈S then 0 else 5)=0:=hz
   have hz:R.root b=0∨R.root b∈S:=by
    by_cases h:R.root b=0∨R.root b∈S
    · exact h
    · rw[if_neg h] at hz;omega
   have hn:R.root b ∉ nms d:=by
    rcases hz with hz|hz
    · rw[hz,A0v];have:=B31 d;omega
    · exact hS _ hz
   have e:(R.take d w.heap.size R').root b=R.root b:=by simp[Rz.take,hlt,hn]
   rw[e];exact hz.elim .inl fun h=>.inr (List.mem_append_right _ h)
 · rcases hb with hb|hb
   · left;simp[Rz.take,hlt,hb]
   · right
     have h1:=hL _ hb
     have e:(R.take d w.heap.size R').root b=nm d+(R'.root b - 10):=by simp[Rz.take,hlt,h1]
     rw[e];exact List.mem_append_left _ (List.mem_map.2 ⟨_,hb,rfl⟩)
theorem B7o (h:Keeps (R.hide S) w R' w') (hS:∀n∈S,n ∉ nms d) {L:List Nat} (hL:∀n∈L,10≤n∧n < 26) {t:Ty} {us:List Value} {x:t.den} (hr:Rd (okS R' L) w' t us x) :
 Rd (okS (R.take d w.heap.size R') (L.map (fun n=>nm d+(n - 10))++S)) w' t us x :=
 hr.frame fun _ _ hb=>⟨B6E h hS hL hb,rfl⟩
theorem B2g {k:Nat} (hk:k < 16):(R.take d w.heap.size R').hd (A01 d k)=R'.hd (y5 k)∧(R.take d w.heap.size R').bk (A01 d k)=R'.bk (y5 k):=by
 have e1:nm d≤A01 d k∧A01 d k < nm d+16:=by unfold A01;omega
 have e2:A01 d k - nm d+10=y5 k:=by unfold A01 y5;omega
 constructor
 · show (if _ then R'.hd _ else _)=_;rw[if_pos e1,e2]
 · show (if _ then R'.bk _ else _)=_;rw[if_pos e1,e2]
theorem A7P (h:Keeps (R.hide S) w R' w') (hS:∀n∈S,n ∉ nms d) {own:Bool}:∀{t:Ty} {k:Nat} {x:t.den} {us:List Value},k+t.rows≤8→VRs R' w' (A3B y5 own [] k t x) us→VRs (R.take d w.heap.size R') w' (A3B (A01 d) own S k t x) us:=by
 intro t
 induction t with
 | int q=>intro k x us _ h1;exact h1
 | bool=>intro k x us _ h1;exact h1
 | str=>intro k x us _ h1;exact h1
 | row e t ih =>
   intro k x us hk h1
   simp only[A3B] at h1 ⊢
   obtain⟨u,rfl,h2⟩:=E5 h1
   refine⟨u,[],rfl,?_,rfl⟩
   cases own with
   | true =>
     simp only[if_true,VRc] at h2 ⊢
     simp only[Ty.rows] at hk
     rw[h2,(B2g (by omega)).1]
   | false =>
     simp only[Bool.false_eq_true,if_false,VRc] at h2 ⊢
     have:=B7o h hS (L:=[]) (by simp) h2
     simpa using this
 | prod p q hp hq =>
   intro k x us hk h1
   simp only[A3B,Ty.rows] at h1 hk ⊢
   have e:∀{l1 l2:List CV} {us:List Value},VRs R' w' (l1++l2) us→∃u1 u2,us=u1++u2∧VRs R' w' l1 u1∧VRs R' w' l2 u2:=by
    intro l1
    induction l1 with
    | nil=>intro l2 us h;exact⟨[],us,rfl,rfl,h⟩
    | cons c l1 ih =>
      intro l2 us h
      obtain⟨u,us',rfl,h3,h4⟩:=h;obtain⟨u1,u2,rfl,h5,h6⟩:=ih h4
      exact⟨u::u1,u2,rfl,⟨u,u1,rfl,h3,h5⟩,h6⟩
   obtain⟨u1,u2,rfl,h2,h3⟩:=e h1
   exact(hp (by omega) h2).append (hq (by omega) h3)
theorem A7r (h:Keeps (R.hide S) w R' w') (hS:∀n∈S,n ∉ nms d):∀{t:Ty} {k:Nat} {x:t.den},k+t.rows≤8→obsOk R' w' (Y5 y5 [] k t x)→obsOk (R.take d w.heap.size R') w' (Y5 (A01 d) S k t x):=by
 intro t
 induction t with
 | int q=>intro k x _ _ p hp;simp[Y5] at hp
 | bool=>intro k x _ _ p hp;simp[Y5] at hp
 | str=>intro k x _ _ p hp;simp[Y5] at hp
 | row e t ih =>
   intro k x hk h1 p hp
   simp only[Y5,List.mem_singleton] at hp
   subst hp;simp only[Ty.rows] at hk
   obtain⟨e1,e2⟩:=B2g (R:=R) (R':=R') (w:=w) (d:=d) (k:=k) (by omega)
   have rt:∀b,R'.root b=y5 k→(R.take d w.heap.size R').root b=A01 d k:=fun b hb=>by
    have hge:¬b < w.heap.size:=fun hlt=>by
     obtain⟨_,h10⟩:=h.keep _ hlt (by show (if _ then _ else _)≤5;split<;>omega)
     rw[hb] at h10;have h10:y5 k=(if _ then _ else _):=h10
     unfold y5 at h10
     split at h10<;>omega
    have hb:R'.root b=10+k:=hb
    show (if _ then _ else _)=_
    rw[if_neg hge,hb,if_pos (by omega)]
    unfold A01;omega
   cases hf:t.flat with
   | true =>
     have h2:=h1 (y5 k,.row e t x []) (by simp[Y5,hf])
     simp only
     rcases h2 with⟨h3,h4⟩|⟨cap,cur,h3,h4,h5,h6,h7,h8,h9⟩
     · exact .inl ⟨by rw[e1];exact h3,h4⟩
     · exact .inr ⟨cap,cur,by rw[e1,e2];exact h3,by rw[e2];exact rt _ h4,by rw[e2];exact h5,h6,h7,h8,fun i hi=>Rd.flat hf (h9 i hi)⟩
   | false =>
     have h2:=h1 (y5 k,.tree e t x none) (by simp[Y5,hf])
     simp only
     rcases h2 with⟨h3,h4⟩|⟨cap,cur,h3,h4,h5,h6,h7,h8,h9,h10⟩
     · exact .inl ⟨by rw[e1];exact h3,h4⟩
     · exact .inr ⟨cap,cur,by rw[e1,e2];exact h3,by rw[e2];exact rt _ h4,by rw[e2];exact h5,h6,h7,h8,fun i hi hh=>(h9 i hi hh).mv fun c b l k hc hr hlt=>⟨rfl,rt b hr⟩,by rw[e2];exact h10⟩
 | prod p q hp hq =>
   intro k x hk h1 z hz
   simp only[Y5,Ty.rows,List.mem_append] at h1 hk hz
   rcases hz with hz|hz
   · exact hp (by omega) (fun p hp'=>h1 p (by simp only[Y5,List.mem_append];exact .inl hp')) z hz
   · exact hq (by omega) (fun p hp'=>h1 p (by simp only[Y5,List.mem_append];exact .inr hp')) z hz
theorem A7T (h:Keeps (R.hide S) w R' w') (hS:∀n∈S,n ∉ nms d) {own:Bool} {t:Ty} {k:Nat} {x:t.den} {u:Value} (hk:k+t.rows≤8) (h1:VR R' w' (A1B y5 own [] k t x) u):VR (R.take d w.heap.size R') w' (A1B (A01 d) own S k t x) u:=by
 cases t with
 | int q=>exact h1
 | bool=>exact h1
 | str=>exact h1
 | row e t =>
   have:=A7P (R:=R) (d:=d) h hS (own:=own) (t:=.row e t) (x:=x) (k:=k) (us:=[u]) hk (by
    simp only[A3B];simp only[A1B,VR] at h1;exact⟨u,[],rfl,h1,rfl⟩)
   simp only[A3B] at this
   obtain⟨u',e1,h2⟩:=E5 this
   simp only[List.cons.injEq,and_true] at e1
   subst e1;simp only[A1B,VR];exact h2
 | prod p q =>
   simp only[A1B,VR] at h1 ⊢
   obtain⟨us,rfl,h2⟩:=h1;exact⟨us,rfl,A7P h hS hk h2⟩
theorem B3v (h:Keeps (R.hide S) w R' w') (hS:∀n∈S,n ∉ nms d):∀{rs:List RK} {k:Nat} {x:d8 rs} {us:List Value},k+R9 rs≤8→VRt R' w' (T8 y5 [] k rs x) us→VRt (R.take d w.heap.size R') w' (T8 (A01 d) S k rs x) us:=by
 intro rs
 induction rs with
 | nil=>intro k x us _ h1;simpa only [T8,VRt] using h1
 | cons r l ih =>
   intro k x us hk h1
   simp only[R9] at hk
   cases l with
   | nil =>
     simp only[T8,VRt] at h1 ⊢
     obtain⟨u,us',rfl,h2,h3⟩:=h1;exact⟨u,us',rfl,A7T h hS (by omega) h2,h3⟩
   | cons q l =>
     simp only[T8,VRt] at h1 ⊢
     obtain⟨u,us',rfl,h2,h3⟩:=h1;exact⟨u,us',rfl,A7T h hS (by omega) h2,ih (by omega) h3⟩
theorem B1q (h:Keeps (R.hide S) w R' w') (hS:∀n∈S,n ∉ nms d):∀{rs:List RK} {k:Nat} {x:d8 rs},k+R9 rs≤8→obsOk R' w' (X4 y5 [] k rs x)→obsOk (R.take d w.heap.size R') w' (X4 (A01 d) S k rs x):=by
 intro rs
 induction rs with
 | nil=>intro k x _ _ p hp;simp[X4] at hp
 | cons r l ih =>
   intro k x hk h1
   simp only[R9] at hk
   cases l with
   | nil =>
     simp only[X4] at h1 ⊢
     cases ho:r.own with
     | true=>rw[ho] at h1;simp only[if_true] at h1 ⊢;exact A7r h hS (by omega) h1
     | false=>simp only[Bool.false_eq_true,if_false];intro p hp;cases hp
   | cons q l =>
     simp only[X4] at h1 ⊢
     intro p hp
     rcases List.mem_append.1 hp with hp|hp
     · cases ho:r.own with
       | true =>
         rw[ho] at h1 hp
         simp only[if_true] at h1 hp
         exact A7r h hS (by omega) (fun z hz=>h1 z (List.mem_append_left _ hz)) p hp
       | false=>rw[ho] at hp;simp at hp
     · exact ih (by omega) (fun z hz=>h1 z (List.mem_append_right _ hz)) p hp
theorem A9z (h:Keeps (R.hide S) w R' w') (hS:∀n∈S,n ∉ nms d) {rs:List RK} {x:d8 rs} {v:Value} (hk:R9 rs≤8) (h1:VR R' w' (S0 y5 [] rs x) v):VR (R.take d w.heap.size R') w' (S0 (A01 d) S rs x) v:=by
 have hl:∀us,VRt R' w' (T8 y5 [] 0 rs x) us→VRt (R.take d w.heap.size R') w' (T8 (A01 d) S 0 rs x) us:=fun us=>B3v h hS (by omega)
 have hlen:(T8 y5 [] 0 rs x).length=(T8 (A01 d) S 0 rs x).length:=by
  have:∀(rs:List RK) (f g:Nat→Nat) (S S':List Nat) (k:Nat) (x:d8 rs),(T8 f S k rs x).length=(T8 g S' k rs x).length:=by
   intro rs
   induction rs with
   | nil=>intros;rfl
   | cons r l ih =>
     intro f g S S' k x
     cases l with
     | nil=>rfl
     | cons q l=>simp only[T8,List.length_cons];rw[ih]
  exact this _ _ _ _ _ _ _
 unfold S0 at h1 ⊢
 generalize T8 y5 [] 0 rs x=l1 at *
 generalize T8 (A01 d) S 0 rs x=l2 at *
 match l1,l2,hlen with
 | [], [], _ =>
   simp only[VR] at h1 ⊢
   obtain⟨us,rfl,h2⟩:=h1;exact⟨us,rfl,hl _ h2⟩
 | [p], [q], _ =>
   have:=hl [v] (by simp only[VRt];exact⟨v,[],rfl,h1,rfl⟩)
   simp only[VRt,List.cons.injEq] at this
   obtain⟨u,us',⟨rfl,_⟩,h2,_⟩:=this
   exact h2
 | p :: p' :: l1, q :: q' :: l2, _ =>
   simp only[VR] at h1 ⊢
   obtain⟨us,rfl,h2⟩:=h1;exact⟨us,rfl,hl _ h2⟩
theorem B4P {f f':Nat→Nat} {own own':Bool} {S S':List Nat} {R R':Rz} {w:World}:∀{t:Ty} {k k':Nat} {x:t.den} {us:List Value},t.rows=0→VRs R' w (A3B f own S k t x) us→VRs R w (A3B f' own' S' k' t x) us:=by
 intro t
 induction t with
 | int q=>intro k k' x us _ h1;exact h1
 | bool=>intro k k' x us _ h1;exact h1
 | str=>intro k k' x us _ h1;exact h1
 | row e t ih=>intro k k' x us h0;simp[Ty.rows] at h0
 | prod p q hp hq =>
   intro k k' x us h0 h1
   simp only[A3B] at h1 ⊢
   simp only[Ty.rows] at h0
   have e:∀{l1 l2:List CV} {us:List Value},VRs R' w (l1++l2) us→∃u1 u2,us=u1++u2∧VRs R' w l1 u1∧VRs R' w l2 u2:=by
    intro l1
    induction l1 with
    | nil=>intro l2 us h;exact⟨[],us,rfl,rfl,h⟩
    | cons c l1 ih =>
      intro l2 us h
      obtain⟨u,us',rfl,h3,h4⟩:=h;obtain⟨u1,u2,rfl,h5,h6⟩:=ih h4
      exact⟨u::u1,u2,rfl,⟨u,u1,rfl,h3,h5⟩,h6⟩
   obtain⟨u1,u2,rfl,h2,h3⟩:=e h1
   exact(hp (by omega) h2).append (hq (by omega) h3)
theorem A41 {f f':Nat→Nat} {own own':Bool} {S S':List Nat} {R R':Rz} {w:World} {t:Ty} {k k':Nat} {x:t.den} {v:Value} (h0:t.rows=0) (h1:VR R' w (A1B f own S k t x) v):VR R w (A1B f' own' S' k' t x) v:=by
 cases t with
 | int q=>simpa only [A1B,VR,VRc] using h1
 | bool=>simpa only [A1B,VR,VRc] using h1
 | str=>simpa only [A1B,VR,VRc] using h1
 | row e t=>simp[Ty.rows] at h0
 | prod p q =>
   simp only[A1B,VR] at h1 ⊢
   obtain⟨us,rfl,h2⟩:=h1;exact⟨us,rfl,B4P h0 h2⟩
theorem B4n {f f':Nat→Nat} {S S':List Nat} {R R':Rz} {w:World}:∀{rs:List RK} {k k':Nat} {x:d8 rs} {us:List Value},R9 rs=0→VRt R' w (T8 f S k rs x) us→VRt R w (T8 f' S' k' rs x) us:=by
 intro rs
 induction rs with
 | nil=>intro k k' x us _ h;simpa only [T8,VRt] using h
 | cons r l ih =>
   intro k k' x us h0 h
   simp only[R9] at h0
   cases l with
   | nil =>
     simp only[T8,VRt] at h ⊢
     obtain⟨u,us',rfl,h1,h2⟩:=h;exact⟨u,us',rfl,A41 (by omega) h1,h2⟩
   | cons q l =>
     simp only[T8,VRt] at h ⊢
     obtain⟨u,us',rfl,h1,h2⟩:=h;exact⟨u,us',rfl,A41 (by omega) h1,ih (by omega) h2⟩
theorem B07 {f f':Nat→Nat} {S S':List Nat} {R R':Rz} {w:World} {rs:List RK} {x:d8 rs} {v:Value} (h0:R9 rs=0) (h:VR R' w (S0 f S rs x) v):VR R w (S0 f' S' rs x) v:=by
 match rs,x with
 | [], x =>
   simp only[S0,T8,VR] at h ⊢
   obtain⟨us,rfl,h1⟩:=h;exact⟨us,rfl,by simpa only [VRt] using h1⟩
 | [r], x =>
   simp only[S0,T8] at h ⊢
   exact A41 (by simpa [R9] using h0) h
 | r :: q :: l, x =>
   have e1:∀(f:Nat→Nat) (S:List Nat),S0 f S (r::q::l) x=.tup (T8 f S 0 (r::q::l) x):=fun f S=>by
    unfold S0;cases l with
    | nil=>simp only[T8]
    | cons p l=>simp only[T8]
   rw[e1] at h ⊢
   simp only[VR] at h ⊢
   obtain⟨us,rfl,h1⟩:=h;exact⟨us,rfl,B4n h0 h1⟩
theorem A7t {f:Nat→Nat} {S:List Nat}:∀{t:Ty} {k:Nat} {x:t.den},t.rows=0→Y5 f S k t x=[]:=by
 intro t
 induction t with
 | row e t ih=>intro k x h0;simp[Ty.rows] at h0
 | prod p q hp hq=>intro k x h0;simp only[Ty.rows] at h0;simp only[Y5,hp (k:=k) (x:=x.1) (by omega),hq (k:=k+p.rows) (x:=x.2) (by omega),List.append_nil]
 | _=>intro k x _;rfl
theorem B1c {f:Nat→Nat} {S:List Nat}:∀{rs:List RK} {k:Nat} {x:d8 rs},R9 rs=0→X4 f S k rs x=[]:=by
 intro rs
 induction rs with
 | nil=>intro k x _;rfl
 | cons r l ih =>
   intro k x h0
   simp only[R9] at h0
   cases l with
   | nil=>simp only[X4];rw[A7t (by omega)];simp
   | cons q l=>simp only[X4];rw[A7t (by omega),ih (by omega)];simp
def A4V (P:Program) (a:Act) (o:Oper) (w:World) (f:FuncId) (us:Array Value):Prop:=(execOp a.eval o).run P w=.ok (.enter f us) w
theorem B3h {f:FuncId} {k:Con} {args:List AV} {us:Array Value} {r:Res} (hT:C8 P f k) (hrun:A4V P a o w f us) (hargs:VRt R w args us.toList)
 (h:A8Y k σ o.dst args=some r) (hc:r.c) (hs:Sim R0 w0 R σ a w)
 (hK:∀R' v w',Done R w r.N r.M r.r r.news R' v w'→K (a.put o.dst v) w'):o.wp P a w K Q:=by
 unfold A8Y at h
 split at h
 case h_2=>cases h
 rename_i c x S e2
 split at h
 · cases h
 rename_i hcond
 simp only[not_or,Nat.not_lt,Bool.not_eq_true] at hcond
 cases h
 have hS:=W4 hcond.1
 have h1:=B77 hs (S1:=S) (R1:=R.hide S) (fun _ h=>B6M h) hargs e2 hc.1 (fun n hn=>hn)
 have h2:=hT x hc.2 (R.hide S) w us (hs.globR.keep (fun b _ h=>⟨rfl,by show (if _ then _ else _)=0;rw[if_pos (.inl h)]⟩) (Nat.le_refl _)) h1
 unfold Oper.wp
 rw[show (execOp a.eval o).run P w=_ from hrun,Oper.upon_enter]
 refine h2.mono fun e w' hh=>?_
 obtain⟨v,R',rfl,h3,h4,h5⟩:=hh;simp only
 by_cases h0:R9 k.rs=0
 · refine hK R _ _ ⟨?_,fun n hn=>?_,B07 h0 h3,?_⟩
   · simp only[h0,if_true];refine⟨h5.os,h5.tape,h5.output,h5.size,fun b hb _=>⟨(h5.keep b hb ?_).1,rfl⟩,fun n _=>⟨rfl,rfl⟩,fun n _=>⟨rfl,rfl⟩⟩
     show (if _ then _ else _)≤5
     split<;>omega
   · simp only[h0,if_true] at hn;cases hn
   · rw[B1c h0];intro p hp;cases hp
 have en:(if R9 k.rs=0 then [] else nms o.dst)=nms o.dst:=if_neg h0
 refine hK (R.take o.dst w.heap.size R') _ _ ⟨?_,fun n hn=>?_,A9z h5 hS hcond.2 h3,B1q h5 hS (by omega) h4⟩
 · simp only[en];exact B8E h5
 · simp only[en] at hn;rw[A0v] at hn;have:=B31 o.dst;omega
end
open Go.RowKit
set_option linter.unusedSectionVars false
def B53:List (Nat × Nat)→Nat→Option Nat
 | [],_=>none
 | (k,n)::l,m=>if k=m then some n else B53 l m
def A0G (σ:St):(fs:List GF)→List CV→Option (A4z fs × List Nat × List (Nat × Nat))
 | [],[]=>some ((),[],[])
 | .rd t :: fs, l => match rds σ t (l.take t.w), A0G σ fs (l.drop t.w) with
   | some (x,S),some (y,S',B)=>some ((x,y),uni S S',B)
   | _,_=>none
 | .ow k :: fs, c :: l => match c, A0G σ fs l with
   | .ow n,some (y,S',B)=>some (((),y),S',(k,n)::B)
   | _,_=>none
 | .fn f ks :: fs, c :: l => match c, A0G σ fs l with
   | .fn g ms,some (y,S',B)=>if g=f∧ms.length=ks.length then some (((),y),S',ks.zip ms++B) else none
   | _,_=>none
 | _,_=>none
def X3 (σ:St):(ps:List GP)→List AV→Option (Prop × A1Z ps × List Nat × List (Nat × Nat))
 | [],[]=>some (True,(),[],[])
 | .val t :: ps, v :: vs => match A81 σ t v, X3 σ ps vs with
   | some (x,S),some (c,y,S',B)=>some (c,(x,y),uni S S',B)
   | _,_=>none
 | .ptr t :: ps, v :: vs => match B6f σ t v, X3 σ ps vs with
   | some (c,x,S),some (c',y,S',B)=>some (c∧c',(x,y),uni S S',B)
   | _,_=>none
 | .one t :: ps, v :: vs => match v, X3 σ ps vs with
   | .agg l, some (c, y, S', B) => match rds σ t l with
     | some (x,S)=>some (c,(x,y),uni S S',B)
     | none=>none
   | _,_=>none
 | .po k :: ps, v :: vs => match v, X3 σ ps vs with
   | .c (.po n 0),some (c,y,S',B)=>some (c,((),y),S',(k,n)::B)
   | _,_=>none
 | .ow k :: ps, v :: vs => match v, X3 σ ps vs with
   | .c (.ow n),some (c,y,S',B)=>some (c,((),y),S',(k,n)::B)
   | _,_=>none
 | .ag fs :: ps, v :: vs => match v, X3 σ ps vs with
   | .agg l, some (c, y, S', B) => match A0G σ fs l with
     | some (x,S,B')=>some (c,(x,y),uni S S',B'++B)
     | none=>none
   | _,_=>none
 | .fn f ks :: ps, v :: vs => match v, X3 σ ps vs with
   | .c (.fn g ms),some (c,y,S',B)=>if g=f∧ms.length=ks.length then some (c,((),y),S',ks.zip ms++B) else none
   | _,_=>none
 | _,_=>none
def B1b (σ:St):(o:GO)→Nat→Option (o.den × List Nat × List (Nat × Nat))
 | .box fs, n => match σ.look n with
   | some (.box l)=>A0G σ fs l
   | _=>none
 | .row e t, n => match σ.look n with
   | some (.row e' t' xs _)=>if e'=e∧t.flat=true then if h:t'=t then some (P9 h xs,[],[]) else none else none
   | _=>none
 | .tree e t, n => match σ.look n with
   | some (.tree e' t' xs none)=>if e'=e then if h:t'=t then some (P9 h xs,[],[]) else none else none
   | _=>none
 | .map t, n => match σ.look n with
   | some (.map t' xs [])=>if h:t'=t then some (P9 h xs,[],[]) else none
   | _=>none
def A4x (σ:St):(i:Nat)→(os:List GO)→List (Nat × Nat)→Option (A2T os × List Nat × List Nat × List (Nat × Nat))
 | _,[],B=>some ((),[],[],B)
 | i, o :: os, B => match B53 B i with
   | some n => match B1b σ o n with
     | some (x, S, B') => match A4x σ (i + 1) os (B ++ B') with
       | some (y,S',ns,B2)=>some ((x,y),uni S S',n::ns,B2)
       | none=>none
     | none=>none
   | none=>none
def l8 (d:Option Tmp) (ns:List Nat) (r:Nat):Nat:=if 10≤r∧r < 26 then nm d+(r - 10) else if 30≤r∧r < 30+ns.length then ns.getD (r - 30) 0 else if r=0 then 0 else 1
def CV.gr (f:Nat→Nat) (S:List Nat):CV→CV
 | .sc v=>.sc v
 | .rd L e t xs=>.rd (L.map f++S) e t xs
 | .pt L t x o=>.pt (L.map f++S) t x o
 | .ow n=>.ow (f n)
 | .po n o=>.po (f n) o
 | .pe n i wd o=>.pe (f n) i wd o
 | .fn g l=>.fn g (l.map f)
 | _=>.bot
mutual
def AV.gr (f:Nat→Nat) (S:List Nat):AV→AV
 | .c x=>.c (x.gr f S)
 | .agg l=>.agg (l.map (CV.gr f S))
 | .tup l=>.tup (AV.grL f S l)
def AV.grL (f:Nat→Nat) (S:List Nat):List AV→List AV
 | []=>[]
 | x::l=>x.gr f S::AV.grL f S l
end
def Ob.gr (f:Nat→Nat) (S:List Nat):Ob→Ob
 | .box l=>.box (l.map (CV.gr f S))
 | .row e t xs L=>.row e t xs (match t.flat with|true=>[]|false=>L.map f++S)
 | .tree e t xs h=>.tree e t xs h
 | .map t xs L=>.map t xs (match t.flat with|true=>[]|false=>L.map f++S)
def A7U (f:Nat→Nat) (S:List Nat):List (Nat × Ob)→List (Nat × Ob)
 | []=>[]
 | p::l=>(f p.1,p.2.gr f S)::A7U f S l
def A4J:List Nat→Bool
 | []=>true
 | n::l=>!l.contains n && A4J l
def B2a (ns:List Nat) (B:List (Nat × Nat)):Bool:=B.all fun p=>match ns[p.1]? with
 | some n=>n == p.2
 | none=>false
def A8m (k:GCon) (σ:St) (d:Option Tmp) (args:List AV):Option Res :=
 match X3 σ k.ps args with
 | some (c, x, S, B) => match A4x σ 0 k.os B with
   | some (y,S',ns,B2)=>if A4J ns && B2a ns B2 && ns.all (fun n=>decide (5 < n) && !(nms d).contains n && !(uni S S').contains n) && (uni S S').all (fun n=>!(nms d).contains n) then
    some ⟨c∧k.c (x,y),(k.r (x,y)).gr (l8 d ns) (uni S S'),nms d++ns,nms d,A7U (l8 d ns) (uni S S') (k.o (x,y))⟩ else none
   | none=>none
 | none=>none
def Rz.io (R:Rz) (S ns:List Nat):Rz :=
  { root:=fun b=>if R.root b=0∨R.root b∈S then 0 else if R.root b∈ns then 30+ns.idxOf (R.root b) else 5
    hd:=fun m=>match ns[m - 30]? with|some n=>R.hd n|none=>.slice none 0 0
    bk:=fun m=>match ns[m - 30]? with|some n=>R.bk n|none=>0 }
def Rz.tk (R:Rz) (d:Option Tmp) (ns:List Nat) (n:Nat) (R':Rz):Rz :=
  { root:=fun b=>if b < n then (if R.root b∈ns then l8 d ns (R'.root b) else if R.root b∈nms d then 1 else R.root b) else l8 d ns (R'.root b)
    hd:=fun m=>if nm d≤m∧m < nm d+16 then R'.hd (m - nm d+10) else R.hd m
    bk:=fun m=>if nm d≤m∧m < nm d+16 then R'.bk (m - nm d+10) else R.bk m }
section
variable {P:Program} {R0 R R':Rz} {w0 w w':World} {σ:St} {a:Act} {o:Oper} {K:Act→World→Prop} {Q:Exit→Act→World→Prop} {d:Option Tmp} {S ns:List Nat}
theorem B1K {l:List Nat}:A4J l=true↔l.Nodup:=by
 induction l with
 | nil=>simp[A4J]
 | cons n l ih=>simp[A4J,ih]
theorem A83 {S':List Nat} (h:∀n∈S',n∈S):∀b,okS R S' b→okS (R.io S ns) [] b:=by
 intro b hb
 left
 show (if R.root b=0∨R.root b∈S then 0 else _)=0
 rw[if_pos];exact hb.elim .inl fun h'=>.inr (h _ h')
theorem A7I {k n:Nat} (h:ns[k]?=some n):(R.io S ns).hd (ioN k)=R.hd n∧(R.io S ns).bk (ioN k)=R.bk n:=by
 have e:ioN k - 30=k:=by unfold ioN;omega
 constructor<;>simp[Rz.io,e,h]
theorem B8p {l:List Nat} (hn:l.Nodup):∀{k n:Nat},l[k]?=some n→l.idxOf n=k:=by
 induction l with
 | nil=>intro k n h;simp at h
 | cons m l ih =>
   intro k n h
   simp only[List.nodup_cons] at hn
   cases k with
   | zero=>simp at h;subst h;simp
   | succ k =>
     simp only[List.getElem?_cons_succ] at h
     have hne:m≠n:=by rintro rfl;exact hn.1 (List.mem_of_getElem? h)
     have hbe:(m == n)=false:=by simpa using hne
     rw[List.idxOf_cons,hbe,ih hn.2 h]
     rfl
theorem A3Z {k n b:Nat} (hn:ns.Nodup) (h:ns[k]?=some n) (h0:n≠0) (hS:n ∉ S) (hb:R.root b=n):(R.io S ns).root b=ioN k:=by
 show (if R.root b=0∨R.root b∈S then 0 else if R.root b∈ns then 30+ns.idxOf (R.root b) else 5)=_
 rw[hb,if_neg (by rintro (h|h)<;>contradiction),if_pos (List.mem_of_getElem? h),B8p hn h]
 rfl
theorem B2o {b:Nat} (h:R.root b=0):(R.io S ns).root b=0:=if_pos (.inl h)
theorem B39 {b:Nat} (h:R.root b ∉ ns):(R.io S ns).root b≤5:=by
 show (if R.root b=0∨R.root b∈S then 0 else if R.root b∈ns then 30+ns.idxOf (R.root b) else 5)≤5
 rw[if_neg h]
 split<;>omega
theorem B8S:∀{ks ms:List Nat},ms.length=ks.length→(∀p∈ks.zip ms,ns[p.1]?=some p.2)→ms.map (fun n=>Value.pointer (some ⟨R.bk n,0,none⟩))=(ks.map ioN).map fun n=>Value.pointer (some ⟨(R.io S ns).bk n,0,none⟩):=by
 intro ks
 induction ks with
 | nil => intro ms h _; cases ms with
   | nil=>rfl
   | cons m ms=>simp at h
 | cons k ks ih =>
   intro ms h hB
   cases ms with
   | nil=>simp at h
   | cons m ms =>
     simp only[List.map_cons,List.zip_cons_cons] at *
     rw[ih (by simpa using h) (fun p hp=>hB p (List.mem_cons_of_mem _ hp)),(A7I (R:=R) (S:=S) (hB (k,m) List.mem_cons_self)).2]
theorem B02 (hs:Sim R0 w0 R σ a w):∀{fs:List GF} {l:List CV} {us:List Value} {x:A4z fs} {S1:List Nat} {B:List (Nat × Nat)},VRs R w l us→A0G σ fs l=some (x,S1,B)→(∀n∈S1,n∈S) →
 (∀p∈B,ns[p.1]?=some p.2)→VRs (R.io S ns) w (gfs fs x) us:=by
 intro fs
 induction fs with
 | nil =>
   intro l us x S1 B h1 h2 _ _
   cases l with
   | nil=>exact h1
   | cons v l=>simp[A0G] at h2
 | cons p fs ih =>
   intro l us x S1 B h1 h2 hS hB
   cases p with
   | rd t =>
     simp only[A0G] at h2
     split at h2
     · rename_i y S2 z S3 B' e1 e2
       cases h2
       simp only[gfs];have k1:=(j6 hs t (h1.take t.w) e1).mono (A83 (R:=R) (S:=S) (ns:=ns) fun n hn=>hS n (s7 hn))
       have:=k1.cells.append (ih (h1.drop t.w) e2 (fun n hn=>hS n (x8 hn)) hB)
       rwa [List.take_append_drop] at this
     · cases h2
   | ow k =>
     cases l with
     | nil=>simp[A0G] at h2
     | cons c l =>
       simp only[A0G] at h2
       split at h2
       · rename_i n y S3 B' e2
         cases h2
         obtain⟨u,us',rfl,h3,h4⟩:=h1;simp only[gfs];refine⟨u,us',rfl,?_,ih h4 e2 hS (fun p hp=>hB p (List.mem_cons_of_mem _ hp))⟩
         simp only[VRc] at h3 ⊢
         rw[(A7I (R:=R) (S:=S) (hB (k,n) List.mem_cons_self)).1]
         exact h3
       · cases h2
   | fn f ks =>
     cases l with
     | nil=>simp[A0G] at h2
     | cons c l =>
       simp only[A0G] at h2
       split at h2
       · rename_i g ms y S3 B' e2
         split at h2
         case isFalse=>cases h2
         rename_i hc
         obtain⟨rfl,hl⟩:=hc;cases h2
         obtain⟨u,us',rfl,h3,h4⟩:=h1;simp only[gfs];refine⟨u,us',rfl,?_,ih h4 e2 hS (fun p hp=>hB p (List.mem_append_right _ hp))⟩
         simp only[VRc] at h3 ⊢
         rw[h3,B8S (R:=R) (S:=S) hl (fun p hp=>hB p (List.mem_append_left _ hp))]
       · cases h2
theorem B5O (hs:Sim R0 w0 R σ a w):∀{ps:List GP} {l:List AV} {us:List Value} {c:Prop} {x:A1Z ps} {S1:List Nat} {B:List (Nat × Nat)},VRt R w l us→X3 σ ps l=some (c,x,S1,B)→c→(∀n∈S1,n∈S) →
 (∀p∈B,ns[p.1]?=some p.2)→VRt (R.io S ns) w (A0b ps x) us:=by
 intro ps
 induction ps with
 | nil =>
   intro l us c x S1 B h1 h2 _ _ _
   cases l with
   | nil=>simp only[VRt] at h1;subst h1;simp[A0b,VRt]
   | cons v l=>simp[X3] at h2
 | cons p ps ih =>
   intro l us c x S1 B h1 h2 hc hS hB
   cases l with
   | nil=>cases p<;>simp[X3] at h2
   | cons v l =>
     simp only[VRt] at h1
     obtain⟨u,us',rfl,h3,h4⟩:=h1;cases p with
     | val t =>
       simp only[X3] at h2
       split at h2
       · rename_i y S2 c' z S3 B' e1 e2
         cases h2
         simp only[A0b,VRt,GP.av];exact⟨u,us',rfl,B2W hs (S1:=S) (fun _ h=>A83 h) h3 e1 (fun n hn=>hS n (s7 hn)),ih h4 e2 hc (fun n hn=>hS n (x8 hn)) hB⟩
       · cases h2
     | ptr t =>
       simp only[X3] at h2
       split at h2
       · rename_i c1 y S2 c' z S3 B' e1 e2
         cases h2
         simp only[A0b,VRt,GP.av];exact⟨u,us',rfl,B2e hs (S1:=S) (fun _ h=>A83 h) h3 e1 hc.1 (fun n hn=>hS n (s7 hn)),ih h4 e2 hc.2 (fun n hn=>hS n (x8 hn)) hB⟩
       · cases h2
     | one t =>
       simp only[X3] at h2
       split at h2
       · rename_i q c' z S3 B' e2
         split at h2
         case h_2=>cases h2
         rename_i y S2 e1
         cases h2
         simp only[A0b,VRt,GP.av];refine⟨u,us',rfl,?_,ih h4 e2 hc (fun n hn=>hS n (x8 hn)) hB⟩
         simp only[VR] at h3 ⊢
         obtain⟨vs,rfl,h5⟩:=h3;exact⟨vs,rfl,((j6 hs t h5 e1).mono (A83 (R:=R) (S:=S) (ns:=ns) fun n hn=>hS n (s7 hn))).cells⟩
       · cases h2
     | po k =>
       simp only[X3] at h2
       split at h2
       · rename_i n c' z S3 B' e2
         cases h2
         simp only[A0b,VRt,GP.av];refine⟨u,us',rfl,?_,ih h4 e2 hc hS (fun p hp=>hB p (List.mem_cons_of_mem _ hp))⟩
         simp only[VR,VRc] at h3 ⊢
         rw[(A7I (R:=R) (S:=S) (hB (k,n) List.mem_cons_self)).2]
         exact h3
       · cases h2
     | ow k =>
       simp only[X3] at h2
       split at h2
       · rename_i n c' z S3 B' e2
         cases h2
         simp only[A0b,VRt,GP.av];refine⟨u,us',rfl,?_,ih h4 e2 hc hS (fun p hp=>hB p (List.mem_cons_of_mem _ hp))⟩
         simp only[VR,VRc] at h3 ⊢
         rw[(A7I (R:=R) (S:=S) (hB (k,n) List.mem_cons_self)).1]
         exact h3
       · cases h2
     | ag fs =>
       simp only[X3] at h2
       split at h2
       · rename_i q c' z S3 B' e2
         split at h2
         case h_2=>cases h2
         rename_i y S2 B2 e1
         cases h2
         simp only[A0b,VRt,GP.av];refine⟨u,us',rfl,?_,ih h4 e2 hc (fun n hn=>hS n (x8 hn)) (fun p hp=>hB p (List.mem_append_right _ hp))⟩
         simp only[VR] at h3 ⊢
         obtain⟨vs,rfl,h5⟩:=h3;exact⟨vs,rfl,B02 hs h5 e1 (fun n hn=>hS n (s7 hn)) (fun p hp=>hB p (List.mem_append_left _ hp))⟩
       · cases h2
     | fn f ks =>
       simp only[X3] at h2
       split at h2
       · rename_i g ms c' z S3 B' e2
         split at h2
         case isFalse=>cases h2
         rename_i hcc
         obtain⟨rfl,hl⟩:=hcc;cases h2
         simp only[A0b,VRt,GP.av];refine⟨u,us',rfl,?_,ih h4 e2 hc hS (fun p hp=>hB p (List.mem_append_right _ hp))⟩
         simp only[VR,VRc] at h3 ⊢
         rw[h3,B8S (R:=R) (S:=S) hl (fun p hp=>hB p (List.mem_append_left _ hp))]
       · cases h2
theorem B8F (hs:Sim R0 w0 R σ a w) (hn:ns.Nodup) {q:GO} {n i:Nat} {x:q.den} {S1:List Nat} {B:List (Nat × Nat)} (hi:ns[i]?=some n) (h0:n≠0) (hnS:n ∉ S) (h:B1b σ q n=some (x,S1,B)) (hS:∀n∈S1,n∈S)
 (hB:∀p∈B,ns[p.1]?=some p.2):OR (R.io S ns) w (ioN i) (q.ob x):=by
 obtain⟨e1,e2⟩:=A7I (R:=R) (S:=S) hi
 cases q with
 | box fs =>
   simp only[B1b] at h
   split at h
   · rename_i l he
     obtain⟨us,T,h1,h2,h3⟩:=hs.look he
     exact⟨us,T,by rw[e2];exact h1,by rw[e2];exact A3Z hn hi h0 hnS h2,B02 hs h3 h hS hB⟩
   · cases h
 | map t =>
   simp only[B1b] at h
   split at h
   · rename_i t' xs he
     split at h
     case isFalse=>cases h
     rename_i ht
     subst ht;cases h
     obtain⟨es,ck,h1,h2,h3,h4,h5⟩:=hs.look he
     exact⟨es,ck,by rw[e1,e2];exact h1,by rw[e2];exact A3Z hn hi h0 hnS h2,by rw[e2];exact h3,h4,fun j hj=>(h5 j hj).mono fun b hb=>.inl (B2o (hb.elim id fun h=>by cases h))⟩
   · cases h
 | row e t =>
   simp only[B1b] at h
   split at h
   · rename_i e' t' xs S' he
     split at h
     case isFalse=>cases h
     rename_i hc
     obtain⟨rfl,hf⟩:=hc
     split at h
     case isFalse=>cases h
     rename_i ht
     subst ht;cases h
     rcases hs.look he with⟨h1,h2⟩|⟨cap,cur,h1,h2,h3,h4,h5,h6,h7⟩
     · exact .inl ⟨by rw[e1];exact h1,h2⟩
     · exact .inr ⟨cap,cur,by rw[e1,e2];exact h1,by rw[e2];exact A3Z hn hi h0 hnS h2,by rw[e2];exact h3,h4,h5,h6,fun j hj=>Rd.flat hf (h7 j hj)⟩
   · cases h
 | tree e t =>
   simp only[B1b] at h
   split at h
   · rename_i e' t' xs he
     split at h
     case isFalse=>cases h
     rename_i hc
     subst hc
     split at h
     case isFalse=>cases h
     rename_i ht
     subst ht;cases h
     rcases hs.look he with⟨h1,h2⟩|⟨cap,cur,h1,h2,h3,h4,h5,h6,h7,h8⟩
     · exact .inl ⟨by rw[e1];exact h1,h2⟩
     · exact .inr ⟨cap,cur,by rw[e1,e2];exact h1,by rw[e2];exact A3Z hn hi h0 hnS h2,by rw[e2];exact h3,h4,h5,h6,fun j hj hh=>(h7 j hj hh).mv fun c b l k hc hr hlt=>⟨rfl,A3Z hn hi h0 hnS hr⟩,by rw[e2];exact h8⟩
   · cases h
theorem A4y:∀{os:List GO} {i:Nat} {B B2:List (Nat × Nat)} {x:A2T os} {S1 ns1:List Nat},A4x σ i os B=some (x,S1,ns1,B2)→(∀p∈B,p∈B2)∧ns1.length=os.length:=by
 intro os
 induction os with
 | nil=>intro i B B2 x S1 ns1 h;simp only[A4x,Option.some.injEq,Prod.mk.injEq] at h;obtain⟨_,_,rfl,rfl⟩:=h;exact⟨fun p hp=>hp,rfl⟩
 | cons q os ih =>
   intro i B B2 x S1 ns1 h
   simp only[A4x] at h
   split at h
   case h_2=>cases h
   split at h
   case h_2=>cases h
   split at h
   case h_2=>cases h
   rename_i e
   cases h
   obtain⟨k1,k2⟩:=ih e
   exact⟨fun p hp=>k1 p (List.mem_append_left _ hp),by simp[k2]⟩
theorem B6S (hs:Sim R0 w0 R σ a w) (hn:ns.Nodup) (h0:∀n∈ns,n≠0∧n ∉ S):∀{os:List GO} {i:Nat} {B B2:List (Nat × Nat)} {x:A2T os} {S1 ns1:List Nat},A4x σ i os B=some (x,S1,ns1,B2)→(∀n∈S1,n∈S) →
 (∀k n,ns1[k]?=some n→ns[i+k]?=some n)→(∀p∈B2,ns[p.1]?=some p.2)→obsOk (R.io S ns) w (A57 i os x):=by
 intro os
 induction os with
 | nil=>intro i B B2 x S1 ns1 _ _ _ _ p hp;simp[A57] at hp
 | cons q os ih =>
   intro i B B2 x S1 ns1 h hS hns hB
   simp only[A4x] at h
   split at h
   case h_2=>cases h
   rename_i n e1
   split at h
   case h_2=>cases h
   rename_i y S2 B' e2
   split at h
   case h_2=>cases h
   rename_i z S3 ns2 B3 e3
   cases h
   have hi:ns[i]?=some n:=by simpa using hns 0 n (by simp)
   have hm:=h0 n (List.mem_of_getElem? hi)
   intro p hp
   simp only[A57,List.mem_cons] at hp
   rcases hp with rfl|hp
   · exact B8F hs hn hi hm.1 hm.2 e2 (fun n hn=>hS n (s7 hn)) fun p hp=>hB p ((A4y e3).1 p (List.mem_append_right _ hp))
   · exact ih e3 (fun n hn=>hS n (x8 hn)) (fun k m hk=>by rw[(by omega:i+1+k=i+(k+1))];exact hns (k+1) m (by simpa using hk)) hB p hp
theorem A9t {n m:Nat}:nmOk n m=true↔(10≤m∧m < 26)∨(30≤m∧m < 30+n):=by simp[nmOk]
section
variable (hk:Keeps (R.io S ns) w R' w') (hpl:∀n,30≤n→n < 46→R'.hd n=(R.io S ns).hd n∧R'.bk n=(R.io S ns).bk n) (hl:ns.length≤16)
 (hS:∀n∈S,n ∉ nms d) (hNS:∀n∈ns,n ∉ S∧n ∉ nms d∧5 < n)
include hk hpl hl hS hNS
theorem A27 {b n:Nat} (hn:nmOk ns.length n=true) (hb:R'.root b=n):(R.tk d ns w.heap.size R').root b=l8 d ns n:=by
 rw[A9t] at hn;show (if _ then (if _ then _ else _) else _)=_
 by_cases hlt:b < w.heap.size
 · rw[if_pos hlt]
   by_cases hr:R.root b∈ns
   · rw[if_pos hr,hb]
   · obtain⟨_,h2⟩:=hk.keep b hlt (B39 hr)
     have:=B39 (S:=S) hr
     rw[←h2,hb] at this;omega
 · rw[if_neg hlt,hb]
theorem B0T {L:List Nat} (hL:L.all (nmOk ns.length)=true) {b:Nat} (hb:okS R' L b):okS (R.tk d ns w.heap.size R') (L.map (l8 d ns)++S) b:=by
 rcases hb with hb|hb
 · show (if _ then (if _ then _ else _) else _)=0∨(if _ then (if _ then _ else _) else _)∈_
   by_cases hlt:b < w.heap.size
   · rw[if_pos hlt]
     by_cases hr:R.root b∈ns
     · rw[if_pos hr,hb];left;simp[l8]
     · rw[if_neg hr];obtain⟨_,h2⟩:=hk.keep b hlt (B39 hr)
       rw[hb] at h2;have h2:0=(if R.root b=0∨R.root b∈S then 0 else if R.root b∈ns then 30+ns.idxOf (R.root b) else 5):=h2
       by_cases h3:R.root b=0∨R.root b∈S
       · have h4:R.root b ∉ nms d:=by
          rcases h3 with h3|h3
          · rw[h3,A0v];have:=B31 d;omega
          · exact hS _ h3
         rw[if_neg h4];exact h3.elim .inl fun h=>.inr (List.mem_append_right _ h)
       · rw[if_neg h3,if_neg hr] at h2;cases h2
   · rw[if_neg hlt,hb];left;simp[l8]
 · right
   rw[A27 hk hpl hl hS hNS (List.all_eq_true.1 hL _ hb) rfl]
   exact List.mem_append_left _ (List.mem_map.2 ⟨_,hb,rfl⟩)
theorem B8U {n:Nat} (hn:nmOk ns.length n=true):(R.tk d ns w.heap.size R').hd (l8 d ns n)=R'.hd n∧(R.tk d ns w.heap.size R').bk (l8 d ns n)=R'.bk n:=by
 rw[A9t] at hn
 by_cases h1:10≤n∧n < 26
 · have e1:l8 d ns n=nm d+(n - 10):=by simp[l8,h1]
   rw[e1];have e2:nm d≤nm d+(n - 10)∧nm d+(n - 10) < nm d+16:=by omega
   have e3:nm d+(n - 10) - nm d+10=n:=by omega
   constructor
   · show (if _ then R'.hd _ else _)=_;rw[if_pos e2,e3]
   · show (if _ then R'.bk _ else _)=_;rw[if_pos e2,e3]
 · have h2:30≤n∧n < 30+ns.length:=by omega
   have hlt:n - 30 < ns.length:=by omega
   have e1:l8 d ns n=ns[n - 30]:=by simp[l8,h1,h2,List.getD,hlt]
   have hm:ns[n - 30]∈ns:=List.getElem_mem hlt
   have h3:=(hNS _ hm).2.1
   rw[A0v] at h3;obtain⟨p1,p2⟩:=hpl n h2.1 (by omega)
   have e4:ns[n - 30]?=some ns[n - 30]:=List.getElem?_eq_getElem hlt
   obtain⟨q1,q2⟩:=A7I (R:=R) (S:=S) e4
   have e5:ioN (n - 30)=n:=by unfold ioN;omega
   rw[e5] at q1 q2
   rw[e1]
   constructor
   · show (if _ then R'.hd _ else _)=_;rw[if_neg h3,p1,q1]
   · show (if _ then R'.bk _ else _)=_;rw[if_neg h3,p2,q2]
theorem VRc.tk {c:CV} {u:Value} (h:VRc R' w' c u) (hc:c.nmOk ns.length=true):VRc (R.tk d ns w.heap.size R') w' (c.gr (l8 d ns) S) u:=by
 simp only[CV.nmOk,Bool.and_eq_true] at hc
 obtain⟨c1,c2⟩:=hc;have at1:∀n,n∈c.ids→(R.tk d ns w.heap.size R').hd (l8 d ns n)=R'.hd n∧(R.tk d ns w.heap.size R').bk (l8 d ns n)=R'.bk n:=fun n hn=>B8U hk hpl hl hS hNS (List.all_eq_true.1 c2 n hn)
 cases c with
 | sc v=>exact h
 | rd L e t xs=>exact Rd.mono h fun b hb=>B0T hk hpl hl hS hNS c1 hb
 | pt L t x k =>
   obtain⟨b,q,us,rfl,h1,h2,h3,h4⟩:=h;exact⟨b,q,us,rfl,B0T hk hpl hl hS hNS c1 h1,h2,h3,h4.mono fun b hb=>B0T hk hpl hl hS hNS c1 hb⟩
 | ow n=>show u=_;rw[(at1 n (by simp[CV.ids])).1];exact h
 | po n k=>show u=.pointer (some ⟨_,k,none⟩);rw[(at1 n (by simp[CV.ids])).2];exact h
 | pe n i wd k=>show u=.pointer (some ⟨_,i * wd+k,none⟩);rw[(at1 n (by simp[CV.ids])).2];exact h
 | sub _ _ _ _ _ _ _=>trivial
 | pi _ _ _ _ _ _ _ _=>trivial
 | fn f l =>
   have h:u=_:=h
   show u=.func (.func f) #[] ((l.map (l8 d ns)).map _).toArray
   rw[h,List.map_map]
   congr 2
   exact List.map_congr_left fun n hn=>by simp only[Function.comp];rw[(at1 n (by simpa [CV.ids] using hn)).2]
 | bot=>trivial
theorem VRs.tk {l:List CV} {us:List Value} (h:VRs R' w' l us) (hc:l.all (CV.nmOk ns.length)=true):VRs (R.tk d ns w.heap.size R') w' (l.map (CV.gr (l8 d ns) S)) us:=by
 induction l generalizing us with
 | nil=>exact h
 | cons c l ih =>
   obtain⟨u,us',rfl,h1,h2⟩:=h;simp only[List.all_cons,Bool.and_eq_true] at hc
   exact⟨u,us',rfl,h1.tk hk hpl hl hS hNS hc.1,ih h2 hc.2⟩
omit hk hpl hl hS hNS in
theorem B59 {f:Nat→Nat} {R1:Rz} {m:Nat} (hs:∀(l:List CV) (us:List Value),VRs R' w' l us→l.all (CV.nmOk m)=true→VRs R1 w' (l.map (CV.gr f S)) us) (hc:∀c u,VRc R' w' c u→c.nmOk m=true→VRc R1 w' (c.gr f S) u) :
 (∀x u,VR R' w' x u→x.nmOk m=true→VR R1 w' (x.gr f S) u):=by
 intro x;refine AV.rec (motive_1:=fun x=>∀u,VR R' w' x u→x.nmOk m=true→VR R1 w' (x.gr f S) u) (motive_2:=fun l=>∀us,VRt R' w' l us→AV.nmOkL m l=true→VRt R1 w' (AV.grL f S l) us) ?_ ?_ ?_ ?_ ?_ x
 · intro c u h h2;simp only[VR,AV.gr,AV.nmOk] at h h2 ⊢;exact hc c u h h2
 · intro l u h h2;simp only[VR,AV.gr,AV.nmOk] at h h2 ⊢;obtain⟨us,rfl,h1⟩:=h;exact⟨us,rfl,hs l _ h1 h2⟩
 · intro l ih u h h2;simp only[VR,AV.gr,AV.nmOk] at h h2 ⊢;obtain⟨us,rfl,h1⟩:=h;exact⟨us,rfl,ih _ h1 h2⟩
 · intro us h _;simpa only [VRt,AV.grL] using h
 · intro x l h1 h2 us h h3
   simp only[VRt,AV.grL,AV.nmOkL,Bool.and_eq_true] at h h3 ⊢
   obtain⟨u,us',rfl,h4,h5⟩:=h;exact⟨u,us',rfl,h1 u h4 h3.1,h2 us' h5 h3.2⟩
theorem VR.tk {x:AV} {u:Value} (h:VR R' w' x u) (hc:x.nmOk ns.length=true):VR (R.tk d ns w.heap.size R') w' (x.gr (l8 d ns) S) u :=
 B59 (fun l us h h2=>VRs.tk hk hpl hl hS hNS h h2) (fun c u h h2=>VRc.tk hk hpl hl hS hNS h h2) x u h hc
theorem OR.tk {n:Nat} {q:Ob} (h:OR R' w' n q) (hn:nmOk ns.length n=true) (hc:q.nmOk ns.length=true):OR (R.tk d ns w.heap.size R') w' (l8 d ns n) (q.gr (l8 d ns) S):=by
 obtain⟨e1,e2⟩:=B8U hk hpl hl hS hNS hn
 cases q with
 | box l =>
   obtain⟨us,T,h1,h2,h3⟩:=h;exact⟨us,T,by rw[e2];exact h1,by rw[e2];exact A27 hk hpl hl hS hNS hn h2,h3.tk hk hpl hl hS hNS hc⟩
 | row e t xs L =>
   simp only[Ob.gr];rcases h with⟨h1,h2⟩|⟨cap,cur,h1,h2,h3,h4,h5,h6,h7⟩
   · exact .inl ⟨by rw[e1];exact h1,h2⟩
   · refine .inr ⟨cap,cur,by rw[e1,e2];exact h1,by rw[e2];exact A27 hk hpl hl hS hNS hn h2,by rw[e2];exact h3,h4,h5,h6,fun j hj=>?_⟩
     split
     · rename_i hf;exact Rd.flat hf (h7 j hj)
     · exact(h7 j hj).mono fun b hb=>B0T hk hpl hl hS hNS hc hb
 | map t xs L =>
   simp only[Ob.gr];obtain⟨es,ck,h1,h2,h3,h4,h5⟩:=h;refine⟨es,ck,by rw[e1,e2];exact h1,by rw[e2];exact A27 hk hpl hl hS hNS hn h2,by rw[e2];exact h3,h4,fun j hj=>?_⟩
   split
   · rename_i hf;exact MapV.flat hf (h5 j hj)
   · exact(h5 j hj).mono fun b hb=>B0T hk hpl hl hS hNS hc hb
 | tree e t xs h' =>
   rcases h with⟨h1,h2⟩|⟨cap,cur,h1,h2,h3,h4,h5,h6,h7,h8⟩
   · exact .inl ⟨by rw[e1];exact h1,h2⟩
   · exact .inr ⟨cap,cur,by rw[e1,e2];exact h1,by rw[e2];exact A27 hk hpl hl hS hNS hn h2,by rw[e2];exact h3,h4,h5,h6,fun j hj hh=>(h7 j hj hh).mv fun c b l k hc' hr hlt=>⟨rfl,A27 hk hpl hl hS hNS hn hr⟩,by rw[e2];exact h8⟩
theorem obsOk.tk:∀{l:List (Nat × Ob)},obsOk R' w' l→A5K ns.length l=true→obsOk (R.tk d ns w.heap.size R') w' (A7U (l8 d ns) S l):=by
 intro l
 induction l with
 | nil=>intro _ _ p hp;simp[A7U] at hp
 | cons q l ih =>
   intro h h2 p hp
   simp only[A5K,Bool.and_eq_true] at h2
   simp only[A7U,List.mem_cons] at hp
   rcases hp with rfl|hp
   · exact OR.tk hk hpl hl hS hNS (h q List.mem_cons_self) h2.1.1 h2.1.2
   · exact ih (fun p hp=>h p (List.mem_cons_of_mem _ hp)) h2.2 p hp
theorem C0e:FR (nms d++ns) (nms d) R w (R.tk d ns w.heap.size R') w':=by
 refine⟨hk.os,hk.tape,hk.output,hk.size,fun b hb hr=>?_,fun m hm=>?_,fun m hm=>?_⟩
 · simp only[List.mem_append,not_or] at hr
   obtain⟨h1,_⟩:=hk.keep b hb (B39 hr.2)
   exact⟨h1,by simp[Rz.tk,hb,hr.1,hr.2]⟩
 · rw[A0v] at hm;simp[Rz.tk,hm]
 · have h1:=A4o d
   have:¬(nm d≤m∧m < nm d+16):=by omega
   simp[Rz.tk,this]
end
theorem B3p {f:FuncId} {k:GCon} {args:List AV} {us:Array Value} {r:Res} (hT:l6 P f k) (hrun:A4V P a o w f us) (hargs:VRt R w args us.toList)
 (h:A8m k σ o.dst args=some r) (hc:r.c) (hs:Sim R0 w0 R σ a w)
 (hK:∀R' v w',Done R w r.N r.M r.r r.news R' v w'→K (a.put o.dst v) w'):o.wp P a w K Q:=by
 unfold A8m at h
 split at h
 case h_2=>cases h
 rename_i c x S1 B e1
 split at h
 case h_2=>cases h
 rename_i y S2 ns B2 e2
 split at h
 case isFalse=>cases h
 rename_i hcond
 cases h
 simp only[Bool.and_eq_true,Bool.not_eq_true'] at hcond
 obtain⟨⟨⟨d1,d2⟩,d3⟩,d4⟩:=hcond
 have d1:=B1K.1 d1
 have hB:∀p∈B2,ns[p.1]?=some p.2:=fun p hp=>by
  have:=List.all_eq_true.1 d2 p hp
  split at this
  · rename_i n e;rw[e];simpa using this
  · cases this
 have hNS:∀n∈ns,n ∉ uni S1 S2∧n ∉ nms o.dst∧5 < n:=fun n hn=>by
  have:=List.all_eq_true.1 d3 n hn
  simp only[Bool.and_eq_true,decide_eq_true_eq,Bool.not_eq_true'] at this
  obtain⟨⟨q1,q2⟩,q3⟩:=this
  exact⟨fun h=>by simp[h] at q3,fun h=>by simp[h] at q2,q1⟩
 have hS:∀n∈uni S1 S2,n ∉ nms o.dst:=fun n hn h=>by
  have:=List.all_eq_true.1 d4 n hn
  simp[h] at this
 obtain⟨b1,b2⟩:=A4y e2
 have h1:=B5O (S:=uni S1 S2) (ns:=ns) hs hargs e1 hc.1 (fun n hn=>s7 hn) (fun p hp=>hB p (b1 p hp))
 have h2:=B6S (S:=uni S1 S2) hs d1 (fun n hn=>⟨by have:=(hNS n hn).2.2;omega,(hNS n hn).1⟩) e2 (fun n hn=>x8 hn) (fun k n hk=>by simpa using hk) hB
 obtain⟨o1,o2,o3⟩:=k.ok (x,y)
 rw[←b2] at o1 o2 o3
 unfold Oper.wp
 rw[show (execOp a.eval o).run P w=_ from hrun,Oper.upon_enter]
 refine(hT (x,y) hc.2 (R.io (uni S1 S2) ns) w us (hs.globR.keep (fun b _ h=>⟨rfl,B2o h⟩) (Nat.le_refl _)) h1 h2).mono fun e w' hh=>?_
 obtain⟨v,R',rfl,h3,h4,h5,h6⟩:=hh;simp only
 refine hK (R.tk o.dst ns w.heap.size R') _ _ ⟨C0e h5 h6 o3 hS hNS,fun n hn=>?_,VR.tk h5 h6 o3 hS hNS h3 o1,obsOk.tk h5 h6 o3 hS hNS h4 o2⟩
 rcases List.mem_append.1 hn with hn|hn
 · rw[A0v] at hn;have:=B31 o.dst;omega
 · exact(hNS n hn).2.2
def B8Y:List AV→Bool
 | .c (.sub _ _ _ _ _ _ _)::_=>true
 | _=>false
def B7B:AV→Bool
 | .c (.sc _)=>true
 | .tup []=>true
 | _=>false
def e9:(ps:List GP)→List AV→Option (A1Z ps)
 | [],[]=>some ()
 | .val (.int ik) :: ps, v :: vs => match v, e9 ps vs with
   | .c (.sc (.int ik' y)),some z=>if ik'=ik then some (y,z) else none
   | _,_=>none
 | _,_=>none
def A90 (k:GCon) (σ:St):List AV→Option Res
 | .c (.sub n i wd o e t xs) :: vs => match k with
   | ⟨.ow 0 :: ps, [.row e' t'], c, r, ob, ok⟩ => match e9 ps vs, σ.look n with
     | some y,some (.tree e2 T XS none)=>if e'=e∧wd=T.w∧o < T.w∧5 < n∧t.flat=true then if h:t=t' then match ob (((),y),(P9 h xs,())) with
      | [(30, .row e3 t3 ys _)] => if e3 = e ∧ B7B (r (((), y), (P9 h xs, ()))) = true then if h3 : t3 = t then match T1 T o t (fun _ => P9 h3 ys) (XS.getD i T.dflt) with
        | some z=>some ⟨i < XS.length∧c (((),y),(P9 h xs,())),r (((),y),(P9 h xs,())),[n],[],[(n,.tree e2 T (XS.set i z) none)]⟩
        | none=>none else none else none
      | _=>none else none else none
     | _,_=>none
   | _=>none
 | _=>none
theorem B6U {R R1:Rz} {w:World}:∀{ps:List GP} {vs:List AV} {us:List Value} {y:A1Z ps},VRt R w vs us→e9 ps vs=some y→VRt R1 w (A0b ps y) us:=by
 intro ps
 induction ps with
 | nil =>
   intro vs us y h1 h2
   cases vs with
   | nil=>simp only[VRt] at h1;subst h1;simp[A0b,VRt]
   | cons v vs=>simp[e9] at h2
 | cons p ps ih =>
   intro vs us y h1 h2
   cases vs with
   | nil=>simp[e9] at h2
   | cons v vs =>
     cases p with
     | val t =>
       cases t with
       | int ik =>
         simp only[e9] at h2
         split at h2
         case h_2=>cases h2
         rename_i ik' a z e
         split at h2
         case isFalse=>cases h2
         rename_i hk
         subst hk;cases h2
         simp only[VRt] at h1
         obtain⟨u,us',rfl,h3,h4⟩:=h1;simp only[A0b,GP.av,Ty.av,VRt];exact⟨_,_,rfl,by simp only[VR,VRc] at h3 ⊢;exact h3,ih h4 e⟩
       | bool=>simp[e9] at h2
       | str=>simp[e9] at h2
       | row _ _=>simp[e9] at h2
       | prod _ _=>simp[e9] at h2
     | ptr _=>simp[e9] at h2
     | one _=>simp[e9] at h2
     | po _=>simp[e9] at h2
     | ow _=>simp[e9] at h2
     | ag _=>simp[e9] at h2
     | fn _ _=>simp[e9] at h2
def A5s (T:G4) (σ:St) (d:Option Tmp) (f:FuncId) (args:List AV):Option Res :=
 match T f with
 | some (.p k)=>A8Y k σ d args
 | some (.g k) => match B8Y args with
   | true=>A90 k σ args
   | false=>A8m k σ d args
 | none=>none
def B2v (T:G4) (σ:St) (d:Option Tmp) (f:Operand) (args:List Operand):Option Res :=
 match f with
 | .func f=>A5s T σ d f (args.map σ.ev)
 | .tmp t => match σ.get t with
   | .c (.fn f l)=>A5s T σ d f (args.map σ.ev++l.map fun n=>.c (.po n 0))
   | _=>none
 | _=>none
theorem ElO.updNil {n:Nat} {t:Ty}:∀(T:Ty) {o:Nat} {us:List Value} {x z:T.den},ElO R w n T us x→us[o]?=some (.slice none 0 0)→T1 T o t (fun _=>[]) x=some z→ElO R w n T us z:=by
 intro T
 induction T with
 | int k=>intro o us x z _ _ h;simp[T1] at h
 | bool=>intro o us x z _ _ h;simp[T1] at h
 | str=>intro o us x z _ _ h;simp[T1] at h
 | row e t' ih =>
   intro o us x z h1 h2 h3
   simp only[T1] at h3
   split at h3
   case isFalse=>cases h3
   rename_i ho
   subst ho
   split at h3
   case isFalse=>cases h3
   rename_i ht
   subst ht;cases h3
   obtain⟨k1,u,rfl,k2⟩:=h1;simp only[List.getElem?_cons_zero,Option.some.injEq] at h2
   subst h2;exact⟨k1,_,rfl,.inl ⟨rfl,rfl⟩⟩
 | prod p q hp hq =>
   intro o us x z h1 h2 h3
   obtain⟨u1,u2,rfl,k1,k2⟩:=h1;have l1:=k1.rd.len
   simp only[T1] at h3
   split at h3
   · rename_i ho
     split at h3
     case h_2=>cases h3
     rename_i y e1
     cases h3
     rw[List.getElem?_append_left (by omega)] at h2
     exact⟨u1,u2,rfl,hp k1 h2 e1,k2⟩
   · rename_i ho
     split at h3
     case h_2=>cases h3
     rename_i y e1
     cases h3
     rw[List.getElem?_append_right (by omega),l1] at h2
     exact⟨u1,u2,rfl,k1,hq k2 h2 e1⟩
theorem B3u {f:FuncId} {k:GCon} {args:List AV} {us:Array Value} {r:Res} (hT:l6 P f k) (hrun:A4V P a o w f us) (hargs:VRt R w args us.toList)
 (h:A90 k σ args=some r) (hc:r.c) (hs:Sim R0 w0 R σ a w)
 (hK:∀R' v w',Done R w r.N r.M r.r r.news R' v w'→K (a.put o.dst v) w'):o.wp P a w K Q:=by
 unfold A90 at h
 split at h
 case h_2=>cases h
 rename_i n i wd oo e t xs vs
 split at h
 case h_2=>cases h
 rename_i ps e' t' c rr ob ok
 split at h
 case h_2=>cases h
 rename_i y e2 T XS ey he
 split at h
 case isFalse=>cases h
 rename_i hcond
 obtain⟨rfl,rfl,c1,c2,c3⟩:=hcond
 split at h
 case isFalse=>cases h
 rename_i ht
 subst ht
 split at h
 case h_2=>cases h
 rename_i e3 t3 ys S3 eo
 split at h
 case isFalse=>cases h
 rename_i hcond2
 obtain⟨rfl,hnm⟩:=hcond2
 split at h
 case isFalse=>cases h
 rename_i ht3
 subst ht3
 split at h
 case h_2=>cases h
 rename_i z eu
 cases h
 obtain⟨hi,hc⟩:=hc;simp only[A9g] at *
 simp only[VRt] at hargs
 obtain⟨u,us1,eus,hsub,hrest⟩:=hargs;simp only[VR,VRc] at hsub
 obtain⟨g1,g2,g3⟩:=hsub;have tw:=T.w_pos
 -- the callee's view
 obtain⟨b,hb⟩:∃b,b=u.ownBlock.getD w.heap.size:=⟨_,rfl⟩
 have hbn:b < w.heap.size→R.root b=n:=fun hlt=>by
  rcases g3 with⟨h1,h2⟩|⟨b',cap,cur,h1,h2,_⟩
  · rw[hb,h1] at hlt;simp[Value.ownBlock] at hlt
  · have hbb:b=b':=by rw[hb,h1];rfl
    rw[hbb];exact h2
 obtain⟨R1,hR1⟩:∃R1:Rz,R1=⟨fun x=>if x=b then 30 else if R.root x=0 then 0 else 5,fun _=>u,fun _=>b⟩:=⟨_,rfl⟩
 have hrow:OR R1 w 30 (.row e3 t3 xs []):=by
  rcases g3 with⟨h1,h2⟩|⟨b',cap,cur,h1,h2,h3,h4,h5,h6,h7⟩
  · exact .inl ⟨by rw[hR1];exact h1,h2⟩
  · have hbb:b=b':=by rw[hb,h1];rfl
    exact .inr ⟨cap,cur,by rw[hR1];simp only;rw[hbb];exact h1,by rw[hR1];simp,by rw[hR1];simp only;rw[hbb];exact h3,h4,h5,h6,fun j hj=>Rd.flat c3 (h7 j hj)⟩
 have h2:=hT (((),y),(xs,())) hc R1 w us (hs.globR.keep (fun x hx h=>⟨rfl,by
  rw[hR1];simp only
  rw[if_neg fun e=>by subst e;have:=hbn hx;omega,if_pos h]⟩) (Nat.le_refl _)) (by
  rw[eus];simp only[A0b,GP.av,Ty.av,VRt];exact⟨_,_,rfl,by simp only[VR,VRc];rw[hR1],B6U hrest ey⟩) (fun p hp=>by
  simp only[A57,GO.ob,List.mem_singleton] at hp
  subst hp;exact hrow)
 unfold Oper.wp
 rw[show (execOp a.eval o).run P w=_ from hrun,Oper.upon_enter]
 refine h2.mono fun e w' hh=>?_
 obtain⟨v,R',rfl,h3,h4,h5,h6⟩:=hh;simp only
 have h4:obsOk R' w' (ob (((),y),xs,())):=h4
 rw[eo] at h4;have h7:OR R' w' 30 (.row e3 t3 ys S3):=h4 _ List.mem_cons_self
 obtain⟨p1,p2⟩:=h6 30 (by omega) (by omega)
 have p1:R'.hd 30=u:=by rw[p1,hR1]
 have hkeep:∀x,x < w.heap.size→x≠b→w'.heap[x]?=w.heap[x]?:=fun x hx hne=>(h5.keep x hx (by rw[hR1];simp only;rw[if_neg hne];split<;>omega)).1
 obtain⟨R2,hR2⟩:∃R2:Rz,R2=⟨fun x=>if x < w.heap.size then R.root x else 1,R.hd,R.bk⟩:=⟨_,rfl⟩
 have rt:∀x,x < w.heap.size→R2.root x=R.root x:=fun x hx=>by rw[hR2];simp[hx]
 refine hK R2 _ _ ⟨⟨h5.os,h5.tape,h5.output,h5.size,fun x hx hr=>⟨hkeep x hx (fun e=>hr (by rw[e,hbn (e ▸ hx)];simp)),rt x hx⟩,fun m _=>by rw[hR2];exact⟨rfl,rfl⟩,fun m _=>by rw[hR2];exact⟨rfl,rfl⟩⟩,by simpa using c2,?_,?_⟩
 · have:∀x,B7B x=true→VR R' w' x v→VR R2 w' x v:=fun x hx hv=>by
    unfold B7B at hx
    split at hx
    · simp only[VR,VRc] at hv ⊢;exact hv
    · simp only[VR,VRt] at hv ⊢;exact hv
    · cases hx
   exact this _ hnm h3
 intro q hq
 simp only[List.mem_singleton] at hq
 subst hq;rcases hs.look he with⟨_,k2⟩|⟨cap,cur,k1,k2,k3,k4,k5,k6,k7,k8⟩
 · subst k2;simp at hi
 have hcur:cur.toList[i * T.w+oo]?=some u:=by simpa [World.cell?,k3] using g1
 have hlt2:i * T.w+oo < XS.length * T.w:=by
  have:(i+1) * T.w≤XS.length * T.w:=Nat.mul_le_mul_right _ hi
  rw[Nat.succ_mul] at this;omega
 have e6:XS.getD i T.dflt=XS[i]:=by simp[List.getD,hi]
 rw[e6] at eu
 have hbk:R.bk n≠b:=by
  rcases g3 with⟨h1,_⟩|⟨b',cap',cur',h1,_⟩
  · have:=(Array.getElem?_eq_some_iff.1 k3).1
    rw[hb,h1];simp[Value.ownBlock];omega
  · have hbb:b=b':=by rw[hb,h1];rfl
    rw[h1] at hcur;rw[hbb];exact Ne.symm (k8 _ b' _ _ hlt2 (by simp[j5]) hcur).1
 have hlt:R.bk n < w.heap.size:=(Array.getElem?_eq_some_iff.1 k3).1
 have ebk:R2.bk n=R.bk n:=by rw[hR2]
 have ehd:R2.hd n=R.hd n:=by rw[hR2]
 refine .inr ⟨cap,cur,by rw[List.length_set,ehd,ebk];exact k1,by rw[ebk,rt _ hlt];exact k2,by rw[ebk,hkeep _ hlt hbk];exact k3,by rw[List.length_set];exact k4,k5,k6,fun j' hj _=>?_,by rw[List.length_set,ebk];exact k8⟩
 have hj':j' < XS.length:=by rw[List.length_set] at hj;exact hj
 have stay:∀b',b'≠b→R.root b'=n→b' < w.heap.size→w'.heap[b']?=w.heap[b']?∧R2.root b'=n:=fun b' h1 h2 h3=>⟨hkeep b' h3 h1,by rw[rt b' h3];exact h2⟩
 by_cases hji:j'=i
 · subst hji;rw[List.getElem_set_self];have hEl0:=k7 j' hj' (by simp[j5])
   have hat:((cur.toList.drop (j' * T.w)).take T.w)[oo]?=some u:=by rw[B8 c1];exact hcur
   rcases g3 with⟨h8,h9⟩|⟨b',cap',cur',h8,h9,h10,h11,h12,h13,h14⟩
   · have hys:ys=[]:=by
      rcases h7 with⟨_,q⟩|⟨_,_,q,_⟩
      · exact q
      · rw[p1,h8] at q;cases q
     subst hys;have hb2:∀b',R.root b'=n→b' < w.heap.size→b'≠b:=fun b' _ h=>by rw[hb,h8];simp[Value.ownBlock];omega
     have:=ElO.updNil T hEl0 (o:=oo) (by rw[hat,h8]) eu
     exact this.mv fun c b' l k _ hr hlt=>stay b' (hb2 b' hr hlt) hr hlt
   · have hbb:b=b':=by rw[hb,h8];rfl
     subst hbb;rcases h7 with⟨q,_⟩|⟨cap2,cur2,q1,q2,q3,q4,q5,q6,q7⟩
     · rw[p1,h8] at q;cases q
     rw[p1,h8] at q1
     injection q1 with q1 q1' q1''
     simp only[Option.some.injEq,Addr.mk.injEq] at q1
     obtain⟨q1,_⟩:=q1;subst q1''
     refine ElO.upd (b:=b) (l0:=xs.length) (cap0:=cap') (t:=t3) (f:=fun _=>ys) (fun e' ys0 hro=>?_) stay T hEl0 (o:=oo) (by rw[hat,h8]) eu (fun c l k' hc'=>?_)
     · rcases hro with⟨r1,_⟩|⟨b2,cap3,cur3,r1,r2,r3,_⟩
       · cases r1
       · injection r1 with r1 r1' r1''
         simp only[Option.some.injEq,Addr.mk.injEq] at r1
         obtain⟨r1,_⟩:=r1;rw[←r1,h10] at r3;cases r3
         exact .inr ⟨b,cap',cur2,by rw[q1'],by rw[rt _ (Array.getElem?_eq_some_iff.1 h10).1];exact h9,by rw[q1];exact q3,by rw[←q1'];exact h11,h12,by rw[q6],fun j hj=>Rd.flat c3 (q7 j hj)⟩
     · have hcw:c < T.w:=by have:=(List.getElem?_eq_some_iff.1 hc').1;simp at this;omega
       rw[B8 hcw] at hc'
       rw[h8] at hcur
       have:=(k8 _ b _ _ hlt2 (by simp[j5]) hcur).2 (j' * T.w+c) l k' (by
        have:(j'+1) * T.w≤XS.length * T.w:=Nat.mul_le_mul_right _ hj'
        rw[Nat.succ_mul] at this;omega) (by simp[j5]) hc'
       omega
 · rw[List.getElem_set_ne (Ne.symm hji)]
   refine(k7 j' hj' (by simp[j5])).mv fun c b' l' q' hc' hr' hlt'=>stay b' ?_ hr' hlt'
   rintro rfl
   rcases g3 with⟨h8,_⟩|⟨b2,cap',cur',h8,_⟩
   · rw[hb,h8] at hlt';simp[Value.ownBlock] at hlt'
   · have hbb:b'=b2:=by rw[hb,h8];rfl
     subst hbb;have hcw:c < T.w:=by have:=(List.getElem?_eq_some_iff.1 hc').1;simp at this;omega
     rw[B8 hcw] at hc'
     rw[h8] at hcur
     have:=(k8 _ b' _ _ hlt2 (by simp[j5]) hcur).2 (j' * T.w+c) l' q' (by
      have:(j'+1) * T.w≤XS.length * T.w:=Nat.mul_le_mul_right _ hj'
      rw[Nat.succ_mul] at this;omega) (by simp[j5]) hc'
     apply hji
     have e1:j'=(j' * T.w+c) / T.w:=(A2J _ hcw).symm
     rw[e1,this];exact A2J _ c1
theorem A7K {T : G4} (hT : B5 P T) {f : FuncId} {args : List AV} {us : Array Value} {r : Res} (hrun : (∃ fn c, P.funcs[f]? = some fn ∧ fn.body = some c ∧ fn.name ≠ "runtime.NumGoroutine") → A4V P a o w f us) (hargs : VRt R w args us.toList)
 (h:A5s T σ o.dst f args=some r) (hc:r.c) (hs:Sim R0 w0 R σ a w)
 (hK:∀R' v w',Done R w r.N r.M r.r r.news R' v w'→K (a.put o.dst v) w'):o.wp P a w K Q:=by
 unfold A5s at h
 split at h
 · rename_i k e;obtain⟨h1,h2⟩:=hT f _ e;exact B3h h1 (hrun h2) hargs h hc hs hK
 · rename_i k e;obtain⟨h1,h2⟩:=hT f _ e
   split at h
   · exact B3u h1 (hrun h2) hargs h hc hs hK
   · exact B3p h1 (hrun h2) hargs h hc hs hK
 · cases h
theorem B5V {T:G4} (hT:B5 P T) {f:Operand} {args:Array Operand} {ts:Array TypeId} {r:Res} (ho:o.op=.call { callee:=.value f,args:=args,argTypes:=ts }) 
 (h:B2v T σ o.dst f args.toList=some r) (hc:r.c) (hs:Sim R0 w0 R σ a w)
 (hK:∀R' v w',Done R w r.N r.M r.r r.news R' v w'→K (a.put o.dst v) w'):o.wp P a w K Q:=by
 have hargs:VRt R w (args.toList.map σ.ev) (args.map a.eval).toList:=by
  rw[Array.toList_map];generalize args.toList=l
  induction l with
  | nil=>simp[VRt]
  | cons y l ih=>simp only[List.map_cons,VRt];exact⟨_,_,rfl,hs.ev y,ih⟩
 unfold B2v at h
 split at h
 · rename_i f
   refine A7K hT (us:=args.map a.eval) (fun ⟨fn,cd,f1,f2,f3⟩=>?_) hargs h hc hs hK
   unfold A4V execOp;simp[ho,resolve,invoke,Act.eval,Deferred.ofValue,callFunc,f1,f2,f3]
 · rename_i t
   have h1:=hs.get t
   split at h
   case h_2=>cases h
   rename_i f l e
   rw[e] at h1;simp only[VR,VRc] at h1
   refine A7K hT (us:=args.map a.eval++(l.map fun n=>Value.pointer (some ⟨R.bk n,0,none⟩)).toArray) (fun ⟨fn,cd,f1,f2,f3⟩=>?_) ?_ h hc hs hK
   · have app:∀{l1 l2:List AV} {u1 u2:List Value},VRt R w l1 u1→VRt R w l2 u2→VRt R w (l1++l2) (u1++u2):=by
      intro l1
      induction l1 with
      | nil=>intro l2 u1 u2 h1 h2;simp only[VRt] at h1;subst h1;exact h2
      | cons c l1 ih =>
        intro l2 u1 u2 h1 h2
        simp only[VRt] at h1
        obtain⟨u,us',rfl,h3,h4⟩:=h1;simp only[List.cons_append,VRt];exact⟨u,us'++u2,rfl,h3,ih h4 h2⟩
     rw[Array.toList_append];refine app hargs ?_
     have:∀l:List Nat,VRt R w (l.map fun n=>AV.c (.po n 0)) (l.map fun n=>Value.pointer (some ⟨R.bk n,0,none⟩)):=by
      intro l
      induction l with
      | nil=>simp[VRt]
      | cons n l ih=>simp only[List.map_cons,VRt];exact⟨_,_,rfl,by simp[VR,VRc],ih⟩
     exact this l
   · unfold A4V execOp;simp[ho,resolve,invoke,Act.eval,h1,Deferred.ofValue,callFunc,f1,f2,f3]
 · cases h
end
open Go.RowKit
def aMm (σ:St) (mx:Bool) (x y:Operand):Option Res :=
 match σ.ev x,σ.ev y with
 | .c (.sc (.int k a)),.c (.sc (.int _ b))=>N6 (.c (.sc (.int k (if mx then (if b > a then b else a) else (if b < a then b else a)))))
 | _,_=>none
def aop (P:Program) (G:TypeId→Option Ty) (T:G4) (σ:St) (o:Oper):Option Res :=
 match o.op with
 | .move x=>N6 (σ.ev x)
 | .assign x=>N6 (σ.ev x)
 | .pick c x y=>B2d σ c x y
 | .alloc t=>A8b P o.dst t
 | .box _ x=>B8B σ o.dst x
 | .build t parts=>A82 P σ t parts.toList
 | .buildSlice t len parts=>B8D P G σ o.dst t len parts.toList
 | .load t x=>A7k P σ t x
 | .store t p x=>A92 P σ t p x
 | .nilCheck x=>B7D σ x
 | .binOp op t x y _=>B7s P σ op t x y
 | .unOp op _ x=>aUn σ op x
 | .convert s d x=>(A9i P σ s d x).or (A89 P σ s d x)
 | .makeSlice t x y=>B38 P G σ o.dst t x y
 | .slice t x lo hi none=>(A6Z P σ t x lo hi).or (A5E P σ t x lo hi)
 | .makeMap t none=>A9O P G o.dst t
 | .lookup t m x false=>B2k P σ t m x
 | .mapUpdate t m x v=>B7J P σ t m x v
 | .fieldAddr s x f=>A8I P σ s x f
 | .field t x f=>B34 P σ t x f
 | .indexAddr t x i=>B7G P σ t x i
 | .index t x i=>B2j P σ t x i
 | .extract x i=>B7w σ x i
 | .call ⟨.builtin .len,⟨[x]⟩,⟨[t]⟩⟩=>B8R P σ t x
 | .call ⟨.builtin .append,⟨[s,x]⟩,⟨[t,t']⟩⟩=>if t'=t then B7O P σ o.dst t s x else none
 | .call ⟨.builtin .max,⟨[x,y]⟩,_⟩=>aMm σ true x y
 | .call ⟨.builtin .min,⟨[x,y]⟩,_⟩=>aMm σ false x y
 | .call ⟨.value f,⟨args⟩,_⟩=>B2v T σ o.dst f args
 | .makeFunc (.func f) ⟨[]⟩ ⟨caps⟩=>B36 σ f caps
 | _=>none
section
variable {P:Program} {G:TypeId→Option Ty} {T:G4} {R0 R:Rz} {w0 w:World} {σ:St} {a:Act} {o:Oper} {K:Act→World→Prop} {Q:Exit→Act→World→Prop}
theorem B6u {mx:Bool} {x y:Operand} {ts:Array TypeId} {r:Res} (ho:o.op=.call { callee:=.builtin (if mx then .max else .min),args:=#[x,y],argTypes:=ts }) (h:aMm σ mx x y=some r) (hs:Sim R0 w0 R σ a w)
 (hK:∀R' v w',Done R w r.N r.M r.r r.news R' v w'→K (a.put o.dst v) w'):o.wp P a w K Q:=by
 have h1:=hs.ev x
 have h2:=hs.ev y
 unfold aMm at h
 split at h
 case h_2=>cases h
 rename_i k p k' q e1 e2
 rw[e1] at h1;rw[e2] at h2
 simp only[VR,VRc] at h1 h2
 cases h
 cases mx with
 | true =>
   refine E0 (v:=.int k (if q > p then q else p)) hs ?_ (by simp[VR,VRc]) hK
   unfold execOp;simp[ho,resolve,invoke,builtin,h1,h2,run_max_int2]
 | false =>
   refine E0 (v:=.int k (if q < p then q else p)) hs ?_ (by simp[VR,VRc]) hK
   unfold execOp;simp[ho,resolve,invoke,builtin,h1,h2,run_min_int2]
theorem B1B (hT:B5 P T) {r:Res} (h:aop P G T σ o=some r) (hc:r.c) (hs:Sim R0 w0 R σ a w)
 (hK:∀R' v w',Done R w r.N r.M r.r r.news R' v w'→K (a.put o.dst v) w'):o.wp P a w K Q:=by
 unfold aop at h
 split at h
 · rename_i x e;cases h;exact B00 (.inl e) hs hK
 · rename_i x e;cases h;exact B00 (.inr e) hs hK
 · rename_i c x y e;exact B5P e h hs hK
 · rename_i t e;exact B3x e h hs hK
 · rename_i t x e;exact B8O e h hs hK
 · rename_i t parts e;exact B3r e h hs hK
 · rename_i t len parts e;exact B7R e h hs hK
 · rename_i t x e;exact B5F e h hc hs hK
 · rename_i t p x e;exact B4Q e h hc hs hK
 · rename_i x e;exact B80 e h hs hK
 · rename_i op t x y t' e;exact B7r e h hc hs hK
 · rename_i op t x e;exact B8m e h hs hK
 · rename_i s d x e
   cases hq:A9i P σ s d x with
   | some r'=>rw[hq] at h;cases h;exact B5K e hq hs hK
   | none=>rw[hq] at h;exact B4G e h hs hK
 · rename_i t x y e;exact B6r e h hc hs hK
 · rename_i t x lo hi e
   cases hq:A6Z P σ t x lo hi with
   | some r'=>rw[hq] at h;cases h;exact B4d e hq hc hs hK
   | none=>rw[hq] at h;exact B2F e h hc hs hK
 · rename_i t e;exact B3P e h hs hK
 · rename_i t m x e;exact B69 e h hc hs hK
 · rename_i t m x v e;exact B7i e h hc hs hK
 · rename_i s x f e;exact B3m e h hs hK
 · rename_i t x f e;exact B5w e h hs hK
 · rename_i t x i e;exact B72 e h hc hs hK
 · rename_i t x i e;exact B5R e h hc hs hK
 · rename_i x i e;exact B8L e h hs hK
 · rename_i x t e;exact B7c (t':=0) e h hs hK
 · rename_i s x t t' e
   split at h
   · rename_i e2;subst e2;exact B7U e h hc hs hK
   · cases h
 · rename_i x y ts e;exact B6u (mx:=true) e h hs hK
 · rename_i x y ts e;exact B6u (mx:=false) e h hs hK
 · rename_i f args ts e;exact B5V hT e h hc hs hK
 · rename_i f caps e;exact B5c e h hs hK
 · cases h
def A3a (σ:St) (ops:List Oper) (j:Nat):Option (Tmp × Bool) :=
 match ops[j]? with
 | some oj => match oj.dst with
   | some d => match σ.get d with
     | .c (.sc (.bool b))=>some (d,b)
     | _=>none
   | none=>none
 | none=>none
def A1Y (σ:St) (ops:List Oper) (j:Nat):Bool :=
 match ops[j]? with
 | some oj => match oj.dst with
   | some d => match σ.get d with
     | .c (.sc (.tuple _))=>true
     | _=>false
   | none=>false
 | none=>false
def St.setb (σ:St) (d:Tmp) (b:Bool):St:={ σ with tm:=σ.tm.set d (.c (.sc (.bool b))) }
def A0V (b want:Bool) (p q:Prop):Prop:=(b=want→p)∧(b=!want→q)
theorem B5W (p q:Prop):A0V true true p q=p:=by simp[A0V]
theorem B6v (p q:Prop):A0V false false p q=p:=by simp[A0V]
theorem B6F (p q:Prop):A0V true false p q=q:=by simp[A0V]
theorem B6a (p q:Prop):A0V false true p q=q:=by simp[A0V]
def A6Q (P:Program) (G:TypeId→Option Ty) (T:G4) (all:List Oper):List Oper→St→(St→Prop)→Prop
 | [],σ,K=>K σ
 | o :: l, σ, K => match o.guard with
   | none => match aop P G T σ o with
     | some r=>r.c∧A6Q P G T all l (σ.fin o.dst r.N r.M r.r r.news) K
     | none=>False
   | some (j, want) => match A1Y σ all j with
     | true=>A6Q P G T all l (σ.fin o.dst [] [] (.c (.sc (.tuple #[]))) []) K
     | false=>match A3a σ all j with
     | some (d,b)=>A0V b want (match aop P G T (σ.setb d want) o with
      | some r=>r.c∧A6Q P G T all l ((σ.setb d want).fin o.dst r.N r.M r.r r.news) K
      | none=>False)
      (A6Q P G T all l ((σ.setb d (!want)).fin o.dst [] [] (.c (.sc (.tuple #[]))) []) K)
     | none=>False
theorem A7a {σ:St} {ops:List Oper} {j:Nat} (h:A1Y σ ops j=true):∃oj d x,ops[j]?=some oj∧oj.dst=some d∧σ.get d=.c (.sc (.tuple x)):=by
 unfold A1Y at h
 split at h
 case h_2=>cases h
 rename_i oj e1
 split at h
 case h_2=>cases h
 rename_i d' e2
 split at h
 case h_2=>cases h
 rename_i x e3
 exact⟨oj,d',x,e1,e2,e3⟩
theorem A3m {ops:Array Oper} {tmps:Array Value} {j:Nat} {oj:Oper} {d:Tmp} {x:Array Value} (e1:ops[j]?=some oj) (e2:oj.dst=some d) (h:tmps.getD d undef=.tuple x):yielded ops tmps j=none:=by
 simp only[yielded,e1,e2,Option.bind_some];rw[Array.getD_eq_getD_getElem?] at h
 cases hq:tmps[d]? with
 | none=>rfl
 | some v=>rw[hq] at h;simp at h;rw[h]
theorem B65 (hs:Sim R0 w0 R σ a w) {ops:Array Oper} {j:Nat} (h:A1Y σ ops.toList j=true):yielded ops a.tmps j=none:=by
 obtain⟨oj,d,x,e1,e2,e3⟩:=A7a h
 have h1:=hs.get d
 rw[e3] at h1;simp only[VR,VRc] at h1
 rw[Array.getElem?_toList] at e1
 exact A3m e1 e2 h1
theorem B7K (hs:Sim R0 w0 R σ a w) {ops:Array Oper} {j:Nat} {d:Tmp} {b:Bool} (h:A3a σ ops.toList j=some (d,b)):yielded ops a.tmps j=some b∧Sim R0 w0 R (σ.setb d b) a w:=by
 unfold A3a at h
 split at h
 case h_2=>cases h
 rename_i oj e1
 split at h
 case h_2=>cases h
 rename_i d' e2
 split at h
 case h_2=>cases h
 rename_i b' e3
 cases h
 have h1:=hs.get d
 rw[e3] at h1;simp only[VR,VRc] at h1
 rw[Array.getElem?_toList] at e1
 have h2:a.tmps[d]?=some (.bool b):=by
  rw[Array.getD_eq_getD_getElem?] at h1
  cases hq:a.tmps[d]? with
  | none=>rw[hq] at h1;cases h1
  | some v=>rw[hq] at h1;simp at h1;rw[h1]
 refine⟨by simp[yielded,e1,e2,h2],⟨by simp[St.setb,hs.size],?_,hs.ob,hs.os,hs.tape,hs.output,hs.grow,hs.keep,hs.pl,hs.defers,hs.glob⟩⟩
 have:=hs.tm.set d (x:=.c (.sc (.bool b))) (u:=.bool b) (by simp[VR,VRc])
 have e4:a.tmps.toList.set d (.bool b)=a.tmps.toList:=by
  apply List.ext_getElem?
  intro i;rw[List.getElem?_set]
  split
  · rename_i e;subst e
    split
    · rw[Array.getElem?_toList,h2]
    · rename_i hl;rw[List.getElem?_eq_none (by omega)]
  · rfl
 rw[e4] at this;exact this
theorem Sim.skip (hs:Sim R0 w0 R σ a w) (dst:Option Tmp):Sim R0 w0 R (σ.fin dst [] [] (.c (.sc (.tuple #[]))) []) (a.put dst undef) w :=
 hs.fin (FR.refl _ _ _ _) (by simp) (by simp[VR,VRc,undef]) (by intro p hp;cases hp)
theorem B8A (hT:B5 P T) {ops:Array Oper} {KA:St→Prop} (hK:∀R σ a w,Sim R0 w0 R σ a w→KA σ→Q .normal a w):∀(l:List Oper) (R:Rz) (σ:St) (a:Act) (w:World),
 A6Q P G T ops.toList l σ KA→Sim R0 w0 R σ a w→wpList P ops Q l a w:=by
 intro l
 induction l with
 | nil=>intro R σ a w h hs;exact wpList_nil (hK R σ a w hs h)
 | cons o l ih =>
   intro R σ a w h hs
   refine wpList_step fun K hKK=>?_
   simp only[A6Q] at h
   split at h
   · rename_i e1
     rw[if_pos (by simp[Region.wanted,e1])]
     split at h
     · rename_i r e2
       exact B1B hT e2 h.1 hs fun R' v w' hd=>hKK _ _ (ih R' _ _ w' h.2 (hs.done hd))
     · exact h.elim
   · rename_i j want e1
     split at h
     · rename_i e2
       rw[if_neg (by simp[Region.wanted,e1,B65 hs e2])]
       exact hKK _ _ (ih R _ _ w h (hs.skip o.dst))
     split at h
     · rename_i d b e2
       obtain⟨h1,h2⟩:=B7K hs e2
       by_cases hb:b=want
       · subst hb;have h3:=h.1 rfl
         rw[if_pos (by simp[Region.wanted,e1,h1])]
         split at h3
         · rename_i r e3
           exact B1B hT e3 h3.1 h2 fun R' v w' hd=>hKK _ _ (ih R' _ _ w' h3.2 (h2.done hd))
         · exact h3.elim
       · have hb2:b=!want:=by cases b<;>cases want<;>simp_all
         have h3:=h.2 hb2
         rw[if_neg (by simp[Region.wanted,e1,h1,hb])]
         rw[hb2] at h2;exact hKK _ _ (ih R _ _ w h3 (h2.skip o.dst))
     · exact h.elim
end
abbrev zz:AV:=.c .bot
def AWP (P:Program) (code:Code) (σ:St) (Q:Exit→St→Prop):Prop :=
 ∀R0 w0 R a w,Sim R0 w0 R σ a w→code.wp P (fun e a' w'=>∃R' σ',Sim R0 w0 R' σ' a' w'∧Q e σ') a w
def Wk (σ σ':St):Prop:=∀R0 w0 R a w,Sim R0 w0 R σ a w→∃R',Sim R0 w0 R' σ' a w
theorem Wk.refl (σ:St):Wk σ σ:=fun _ _ R _ _ h=>⟨R,h⟩
theorem Wk.trans {σ σ' σ'':St} (h:Wk σ σ') (k:Wk σ' σ''):Wk σ σ'':=fun R0 w0 R a w hs=>by
 obtain⟨R',h'⟩:=h R0 w0 R a w hs
 exact k R0 w0 R' a w h'
def A65 (K:St→Prop) (Q:Exit→St→Prop):Exit→St→Prop
 | .normal,σ=>K σ
 | e,σ=>Q e σ
def A61 (id:Nat) (Q:Exit→St→Prop):Exit→St→Prop
 | .exit id',σ=>if id'=id then Q .normal σ else Q (.exit id') σ
 | e,σ=>Q e σ
section
variable {P:Program} {σ:St} {Q:Exit→St→Prop}
theorem A0j {c:Code} {σ':St} (h:Wk σ σ') (k:AWP P c σ' Q):AWP P c σ Q:=fun R0 w0 R a w hs=>by
 obtain⟨R',h'⟩:=h R0 w0 R a w hs
 exact k R0 w0 R' a w h'
theorem B2h {x y:Code} (h:AWP P x σ (A65 (fun σ'=>AWP P y σ' Q) Q)):AWP P (.seq x y) σ Q:=fun R0 w0 R a w hs=>by
 refine wp_seq (wp_mono (h R0 w0 R a w hs) fun e a w ⟨R',σ',h1,h2⟩=>?_)
 cases e<;>first|exact h2 R0 w0 R' a w h1|exact⟨R',σ',h1,h2⟩
theorem B4Y {x y:Code} (h:∀K:St→Prop,(∀σ',AWP P y σ' Q→K σ')→AWP P x σ (A65 K Q)):AWP P (.seq x y) σ Q:=B2h (h _ fun _ h=>h)
theorem W3 {x y:Code} (F:Prop) (σJ:St) (hJ:F→AWP P y σJ Q) (h:∀K:St→Prop,(∀σ',Wk σ' σJ→F→K σ')→AWP P x σ (A65 K Q)):AWP P (.seq x y) σ Q :=
 B2h (h _ fun _ h1 h2=>A0j h1 (hJ h2))
theorem B1G {id:Nat} {ops:Array Oper} {G:TypeId→Option Ty} {T:G4} (hT:B5 P T) (h:A6Q P G T ops.toList ops.toList σ (Q .normal)):AWP P (.region id ops false) σ Q:=fun R0 w0 R a w hs=>by
 exact wp_region_list (B8A hT (fun R' σ' a' w' h1 h2=>⟨R',σ',h1,h2⟩) ops.toList R σ a w h hs)
theorem D5 {c:Operand} {x y:Code} {b:Bool} (hc:σ.ev c=.c (.sc (.bool b))) (ht:b=true→AWP P x σ Q) (hf:b=false→AWP P y σ Q):AWP P (.cond c x y) σ Q:=fun R0 w0 R a w hs=>by
 have h1:=hs.ev c
 rw[hc] at h1;simp only[VR,VRc] at h1
 exact wp_cond_split h1 (fun e=>ht e R0 w0 R a w hs) (fun e=>hf e R0 w0 R a w hs)
theorem A3 {id:Nat} {c:Code} (h:AWP P c σ (A61 id Q)):AWP P (.block id c) σ Q:=fun R0 w0 R a w hs=>by
 refine wp_block (wp_mono (h R0 w0 R a w hs) fun e a w ⟨R',σ',h1,h2⟩=>?_)
 cases e<;>try exact⟨R',σ',h1,h2⟩
 rename_i id'
 simp only[A61] at h2
 simp only[Exit.inBlock]
 split
 · rename_i e;rw[if_pos e] at h2;exact⟨R',σ',h1,h2⟩
 · rename_i e;rw[if_neg e] at h2;exact⟨R',σ',h1,h2⟩
theorem A2 (h:Q .normal σ):AWP P .skip σ Q:=fun _ _ R _ _ hs=>wp_skip ⟨R,σ,hs,h⟩
theorem B6 {id:Nat} (h:Q (.exit id) σ):AWP P (.exit id) σ Q:=fun _ _ R _ _ hs=>wp_exit ⟨R,σ,hs,h⟩
theorem A0 (h:Q .ret σ):AWP P .ret σ Q:=fun _ _ R _ _ hs=>wp_ret ⟨R,σ,hs,h⟩
theorem B19 {ι:Type} {c:Code} {Q:Exit→Act→World→Prop} {a:Act} {w:World} (J:ι→Act→World→Prop) (μ:ι→Nat) (i0:ι) (h0:J i0 a w)
 (round:∀i a w,J i a w→c.wp P (Exit.then (fun a' w'=>∃j,J j a' w'∧μ j < μ i) Q) a w):(Code.loop c).wp P Q a w:=by
 intro b k cs
 have key:∀n i a w,μ i=n→J i a w→∃e a' w',Q e a' w'∧Arrives P (lone (b.at a (.code c::.inLoop c::k)) cs w) b k cs e a' w':=by
  intro n
  induction n using Nat.strongRecOn with
  | _ n ih =>
    intro i a w hn hI
    obtain⟨e,a₁,w₁,hq,harr⟩:=round i a w hI b (.inLoop c::k) cs
    cases e with
    | normal =>
      obtain⟨j,hJ,hlt⟩:=hq;obtain⟨e₂,a₂,w₂,hq₂,harr₂⟩:=ih (μ j) (hn ▸ hlt) j a₁ w₁ rfl hJ
      exact⟨e₂,a₂,w₂,hq₂,.of_steps (Steps.trans harr (.one step_inLoop)) harr₂⟩
    | _=>exact⟨_,a₁,w₁,hq,.pass (x:=.inLoop c) rfl (fun _ _=>.inl (by simp)) harr⟩
 obtain⟨e,a',w',hq,harr⟩:=key _ i0 a w rfl h0
 exact⟨e,a',w',hq,.of_steps (.one step_loop) harr⟩
theorem B52 {ι:Type} {c:Code} (I:ι→St) (μ:ι→Nat) (i0:ι) (h0:Wk σ (I i0)) (h:∀i,AWP P c (I i) (A65 (fun σ'=>∃j,Wk σ' (I j)∧μ j < μ i) Q)):AWP P (.loop c) σ Q:=fun R0 w0 R a w hs=>by
 obtain⟨R',h1⟩:=h0 R0 w0 R a w hs
 refine B19 (fun i a w=>∃R,Sim R0 w0 R (I i) a w) μ i0 ⟨R',h1⟩ fun i a w ⟨R1,hs1⟩=>?_
 refine wp_mono (h i R0 w0 R1 a w hs1) fun e a' w' ⟨R2,σ2,k1,k2⟩=>?_
 cases e<;>try exact⟨R2,σ2,k1,k2⟩
 obtain⟨j,k3,k4⟩:=k2;obtain⟨R3,k5⟩:=k3 R0 w0 R2 a' w' k1
 exact⟨j,⟨R3,k5⟩,k4⟩
end
theorem A8 {P:Program} {σ:St} {Q:Exit→St→Prop} {ι:Type} {c:Code} (I:ι→St) (μ:ι→Nat) (i0:ι) (h0:Wk σ (I i0)) (h:∀i,∀K:St→Prop,(∀j σ',Wk σ' (I j)→μ j < μ i→K σ')→AWP P c (I i) (A65 K Q)):AWP P (.loop c) σ Q :=
 B52 I μ i0 h0 fun i=>h i _ fun j _ h1 h2=>⟨j,h1,h2⟩
def Y1 (l:List Nat):Nat→List AV→List AV
 | _,[]=>[]
 | i,x::xs=>(if l.contains i then x else .c .bot)::Y1 l (i+1) xs
def St.keep (σ:St) (l ns:List Nat):St:=⟨Y1 l 0 σ.tm,σ.ob.filter fun p=>ns.contains p.1⟩
theorem B7q (σ:St) (l ns:List Nat):Wk σ (σ.keep l ns):=fun R0 w0 R a w hs=>by
 have key:∀(xs:List AV) (us:List Value) (i:Nat),VRt R w xs us→VRt R w (Y1 l i xs) us∧(Y1 l i xs).length=xs.length:=by
  intro xs
  induction xs with
  | nil=>intro us i h;exact⟨h,rfl⟩
  | cons x xs ih =>
    intro us i h
    simp only[VRt] at h
    obtain⟨u,us',rfl,h1,h2⟩:=h;obtain⟨k1,k2⟩:=ih us' (i+1) h2
    refine⟨?_,by simp[Y1,k2]⟩
    simp only[Y1,VRt];refine⟨u,us',rfl,?_,k1⟩
    split
    · exact h1
    · simp[VR,VRc]
 obtain⟨k1,k2⟩:=key _ _ 0 hs.tm
 exact⟨R,hs.size.trans k2.symm,k1,fun p hp=>hs.ob p (List.mem_filter.1 hp).1,hs.os,hs.tape,hs.output,hs.grow,hs.keep,hs.pl,hs.defers,hs.glob⟩
def ddp:List Nat→List Nat
 | []=>[]
 | n::l=>if l.contains n then ddp l else n::ddp l
theorem B2U {l:List Nat} {n:Nat}:n∈ddp l↔n∈l:=by
 induction l with
 | nil=>simp[ddp]
 | cons m l ih =>
   simp only[ddp]
   split
   · rename_i h
     rw[ih,List.mem_cons]
     constructor
     · exact .inr
     · rintro (rfl|h2)
       · simpa using h
       · exact h2
   · simp[ih]
def B4Z (f:Nat→Nat) (S:List Nat):List Nat:=ddp ((S.map f).filter (· != 0))
def CV.ren (f:Nat→Nat):CV→CV
 | .sc v=>.sc v
 | .rd S e t xs=>.rd (B4Z f S) e t xs
 | .pt S t x o=>.pt (B4Z f S) t x o
 | .ow n=>.ow (f n)
 | .po n o=>.po (f n) o
 | .pe n i wd o=>.pe (f n) i wd o
 | .sub n i wd o e t xs=>.sub (f n) i wd o e t xs
 | .pi n i wd o j t x k=>.pi (f n) i wd o j t x k
 | .fn g l=>.fn g (l.map f)
 | .bot=>.bot
mutual
def AV.ren (f:Nat→Nat):AV→AV
 | .c x=>.c (x.ren f)
 | .agg l=>.agg (l.map (CV.ren f))
 | .tup l=>.tup (AV.renL f l)
def AV.renL (f:Nat→Nat):List AV→List AV
 | []=>[]
 | x::l=>x.ren f::AV.renL f l
end
def Ob.ren (f:Nat→Nat):Ob→Ob
 | .box l=>.box (l.map (CV.ren f))
 | .row e t xs S=>.row e t xs (B4Z f S)
 | .tree e t xs h=>.tree e t xs h
 | .map t xs S=>.map t xs (B4Z f S)
def CV.idsOk (f g:Nat→Nat) (c:CV):Bool:=c.ids.all fun n=>g (f n) == n
mutual
def AV.idsOk (f g:Nat→Nat):AV→Bool
 | .c x=>x.idsOk f g
 | .agg l=>l.all (CV.idsOk f g)
 | .tup l=>AV.idsOkL f g l
def AV.idsOkL (f g:Nat→Nat):List AV→Bool
 | []=>true
 | x::l=>x.idsOk f g && AV.idsOkL f g l
end
def Ob.idsOk (f g:Nat→Nat):Ob→Bool
 | .box l=>l.all (CV.idsOk f g)
 | .row _ _ _ _=>true
 | .tree _ _ _ _=>true
 | .map _ _ _=>true
def fL:List (Nat × Nat)→Nat→Nat
 | [],n=>n
 | (a,b)::l,n=>if n=a then b else fL l n
def St.ren (σ:St) (L:List (Nat × Nat)):St:=⟨AV.renL (fL L) σ.tm,σ.ob.map fun p=>(fL L p.1,p.2.ren (fL L))⟩
def St.renOk (σ:St) (L M:List (Nat × Nat)):Bool:=L.all (fun p=>5 < p.1) && M.all (fun p=>p.1 < 30 || 46≤p.1 || p.2 == p.1) && AV.idsOkL (fL L) (fL M) σ.tm && σ.ob.all fun p=>fL M (fL L p.1) == p.1 && p.2.idsOk (fL L) (fL M)
def Rz.ren (R:Rz) (f g:Nat→Nat):Rz:={ root:=fun b=>f (R.root b),hd:=fun m=>R.hd (g m),bk:=fun m=>R.bk (g m) }
section
variable {R:Rz} {w:World} {f g:Nat→Nat}
theorem A0t (h0:f 0=0) {S:List Nat} {b:Nat} (h:okS R S b):okS (R.ren f g) (B4Z f S) b:=by
 rcases h with h|h
 · left;show f (R.root b)=0;rw[h,h0]
 · by_cases h2:f (R.root b)=0
   · exact .inl h2
   · have h2':¬(R.ren f g).root b=0:=h2
     exact .inr (B2U.2 (List.mem_filter.2 ⟨List.mem_map.2 ⟨_,h,rfl⟩,by simpa using h2'⟩))
theorem VRc.ren (h0:f 0=0) {c:CV} {u:Value} (h:VRc R w c u) (hi:c.idsOk f g=true):VRc (R.ren f g) w (c.ren f) u:=by
 cases c with
 | sc v=>exact h
 | rd S e t xs=>exact Rd.mono h fun b hb=>A0t h0 hb
 | pt S t x k =>
   obtain⟨b,q,us,rfl,h1,h2,h3,h4⟩:=h;exact⟨b,q,us,rfl,A0t h0 h1,h2,h3,h4.mono fun b hb=>A0t h0 hb⟩
 | ow n => have : g (f n) = n := by simpa [CV.idsOk, CV.ids] using hi
           show u=R.hd (g (f n));rw[this];exact h
 | po n k => have : g (f n) = n := by simpa [CV.idsOk, CV.ids] using hi
             show u=.pointer (some ⟨R.bk (g (f n)),k,none⟩);rw[this];exact h
 | pe n i wd k => have : g (f n) = n := by simpa [CV.idsOk, CV.ids] using hi
                  show u=.pointer (some ⟨R.bk (g (f n)),i * wd+k,none⟩);rw[this];exact h
 | sub n i wd o e t xs =>
   have e1:g (f n)=n:=by simpa [CV.idsOk,CV.ids] using hi
   have e2:(R.ren f g).bk (f n)=R.bk n:=by show R.bk (g (f n))=_;rw[e1]
   obtain⟨h1,h2,h3⟩:=h;refine⟨by rw[e2];exact h1,by rw[e2];show f (R.root _)=_;rw[h2],?_⟩
   rcases h3 with h3|⟨b,cap,cur,k1,k2,k3,k4,k5,k6,k7⟩
   · exact .inl h3
   · exact .inr ⟨b,cap,cur,k1,by show f (R.root b)=_;rw[k2],k3,k4,k5,k6,fun j hj=>(k7 j hj).mono fun b hb=>A0t h0 hb⟩
 | pi n i wd o j t x k =>
   have e1:g (f n)=n:=by simpa [CV.idsOk,CV.ids] using hi
   have e2:(R.ren f g).bk (f n)=R.bk n:=by show R.bk (g (f n))=_;rw[e1]
   obtain⟨b,l,cap,us,h1,h2,h3,h4,h5,h6,h7⟩:=h;refine⟨b,l,cap,us,by rw[e2];exact h1,by rw[e2];show f (R.root _)=_;rw[h2],by show f (R.root b)=_;rw[h3],h4,h5,h6,h7.mono fun b hb=>?_⟩
   rcases A0t (g:=g) h0 hb with hb|hb
   · exact .inl hb
   · right
     have:=(List.mem_filter.1 (B2U.1 hb)).1
     simpa using this
 | fn q l =>
   have e1:∀n∈l,g (f n)=n:=by simpa [CV.idsOk,CV.ids] using hi
   have h:u=_:=h
   show u=.func (.func q) #[] ((l.map f).map fun n=>Value.pointer (some ⟨R.bk (g n),0,none⟩)).toArray
   rw[h,List.map_map]
   congr 2
   exact List.map_congr_left fun n hn=>by simp only[Function.comp];rw[e1 n hn]
 | bot=>trivial
theorem VRs.ren (h0:f 0=0) {l:List CV} {us:List Value} (h:VRs R w l us) (hi:l.all (CV.idsOk f g)=true):VRs (R.ren f g) w (l.map (CV.ren f)) us:=by
 induction l generalizing us with
 | nil=>exact h
 | cons c l ih =>
   obtain⟨u,us',rfl,h1,h2⟩:=h;simp only[List.all_cons,Bool.and_eq_true] at hi
   exact⟨u,us',rfl,h1.ren h0 hi.1,ih h2 hi.2⟩
mutual
theorem VR.ren (h0:f 0=0) {x:AV} {u:Value} (h:VR R w x u) (hi:x.idsOk f g=true):VR (R.ren f g) w (x.ren f) u:=by
 match x with
 | .c x=>simp only[VR,AV.ren,AV.idsOk] at h hi ⊢;exact VRc.ren h0 h hi
 | .agg l =>
   simp only[VR,AV.ren,AV.idsOk] at h hi ⊢
   obtain⟨us,rfl,h1⟩:=h;exact⟨us,rfl,h1.ren h0 hi⟩
 | .tup l =>
   simp only[VR,AV.ren,AV.idsOk] at h hi ⊢
   obtain⟨us,rfl,h1⟩:=h;exact⟨us,rfl,VRt.ren h0 h1 hi⟩
theorem VRt.ren (h0:f 0=0) {l:List AV} {us:List Value} (h:VRt R w l us) (hi:AV.idsOkL f g l=true):VRt (R.ren f g) w (AV.renL f l) us:=by
 match l with
 | []=>simpa only [VRt,AV.renL] using h
 | x :: l =>
   simp only[VRt,AV.renL,AV.idsOkL,Bool.and_eq_true] at h hi ⊢
   obtain⟨u,us',rfl,h1,h2⟩:=h;exact⟨u,us',rfl,VR.ren h0 h1 hi.1,VRt.ren h0 h2 hi.2⟩
end
theorem OR.ren (h0:f 0=0) {n:Nat} {o:Ob} (h:OR R w n o) (hn:g (f n)=n) (hi:o.idsOk f g=true):OR (R.ren f g) w (f n) (o.ren f):=by
 have e1:(R.ren f g).hd (f n)=R.hd n:=by show R.hd (g (f n))=_;rw[hn]
 have e2:(R.ren f g).bk (f n)=R.bk n:=by show R.bk (g (f n))=_;rw[hn]
 cases o with
 | box l =>
   obtain⟨us,T,h1,h2,h3⟩:=h;exact⟨us,T,by rw[e2];exact h1,by rw[e2];show f (R.root _)=_;rw[h2],h3.ren h0 hi⟩
 | row e t xs S =>
   rcases h with⟨h1,h2⟩|⟨cap,cur,h1,h2,h3,h4,h5,h6,h7⟩
   · exact .inl ⟨by rw[e1];exact h1,h2⟩
   · exact .inr ⟨cap,cur,by rw[e1,e2];exact h1,by rw[e2];show f (R.root _)=_;rw[h2],by rw[e2];exact h3,h4,h5,h6,fun i hi=>(h7 i hi).mono fun b hb=>A0t h0 hb⟩
 | tree e t xs h' =>
   rcases h with⟨h1,h2⟩|⟨cap,cur,h1,h2,h3,h4,h5,h6,h7,h8⟩
   · exact .inl ⟨by rw[e1];exact h1,h2⟩
   · exact .inr ⟨cap,cur,by rw[e1,e2];exact h1,by rw[e2];show f (R.root _)=_;rw[h2],by rw[e2];exact h3,h4,h5,h6,fun i hi hh=>(h7 i hi hh).mv fun c b l k hc hr hlt=>⟨rfl,by show f (R.root b)=_;rw[hr]⟩,by rw[e2];exact h8⟩
 | map t xs S =>
   obtain⟨es,ck,h1,h2,h3,h4,h5⟩:=h;exact⟨es,ck,by rw[e1,e2];exact h1,by rw[e2];show f (R.root _)=_;rw[h2],by rw[e2];exact h3,h4,fun i hi=>(h5 i hi).mono fun b hb=>A0t h0 hb⟩
theorem B8o {L:List (Nat × Nat)} (h:L.all (fun p=>p.1 < 30 || 46≤p.1 || p.2 == p.1)=true) {n:Nat} (h1:30≤n) (h2:n < 46):fL L n=n:=by
 induction L with
 | nil=>rfl
 | cons p L ih =>
   simp only[List.all_cons,Bool.and_eq_true,Bool.or_eq_true,decide_eq_true_eq,beq_iff_eq] at h
   simp only[fL]
   split
   · rename_i e;subst e
     rcases h.1 with (h|h)|h
     · omega
     · omega
     · exact h
   · exact ih h.2
theorem A9x {L:List (Nat × Nat)} (h:L.all (fun p=>5 < p.1)=true) {n:Nat} (hn:n≤5):fL L n=n:=by
 induction L with
 | nil=>rfl
 | cons p L ih =>
   simp only[List.all_cons,Bool.and_eq_true,decide_eq_true_eq] at h
   simp only[fL];rw[if_neg (by omega)]
   exact ih h.2
end
theorem B9Z (σ:St) (L M:List (Nat × Nat)) (h:σ.renOk L M=true):Wk σ (σ.ren L):=fun R0 w0 R a w hs=>by
 simp only[St.renOk,Bool.and_eq_true] at h
 obtain⟨⟨⟨h1,hM⟩,h2⟩,h3⟩:=h
 have h0:=A9x h1 (Nat.zero_le 5)
 refine⟨R.ren (fL L) (fL M),?_,VRt.ren h0 hs.tm h2,?_,hs.os,hs.tape,hs.output,hs.grow,fun b hb hr=>?_,fun n k1 k2=>?_,hs.defers,hs.glob⟩
 · have:=(VRt.ren (g:=fL M) h0 hs.tm h2).length
   rw[hs.size,←hs.tm.length,this];rfl
 · intro p hp
   simp only[St.ren,List.mem_map] at hp
   obtain⟨q,hq,rfl⟩:=hp;have h4:=List.all_eq_true.1 h3 q hq
   simp only[Bool.and_eq_true,beq_iff_eq] at h4
   exact OR.ren h0 (hs.ob q hq) h4.1 h4.2
 · obtain⟨k1,k2⟩:=hs.keep b hb hr
   exact⟨k1,by show fL L (R.root b)=_;rw[k2];exact A9x h1 hr⟩
 · obtain⟨q1,q2⟩:=hs.pl n k1 k2
   have e:=B8o hM k1 k2
   constructor
   · show R.hd (fL M n)=_;rw[e];exact q1
   · show R.bk (fL M n)=_;rw[e];exact q2
open Go.RowKit
def A32 (σ:St) (own:Bool):(t:Ty)→List CV→Option (t.den × List (Option Nat))
 | .prod a b, l => match A32 σ own a (l.take a.w), A32 σ own b (l.drop a.w) with
   | some (x,i),some (y,j)=>some ((x,y),i++j)
   | _,_=>none
 | .int k, l => match l with
   | [.sc (.int k' n)]=>if k'=k then some (n,[]) else none
   | _=>none
 | .bool, l => match l with
   | [.sc (.bool b)]=>some (b,[])
   | _=>none
 | .str, l => match l with
   | [.sc (.string s)]=>some (s,[])
   | _=>none
 | .row e t, l => match l with
   | [.sc (.slice none 0 0)]=>some ([],[none])
   | [.ow n]=>if own then match σ.look n with
    | some (.row e' t' xs S)=>if e'=e∧5 < n∧t'.flat=true then if h:t'=t then some (P9 h xs,[some n]) else none else none
    | some (.tree e' t' xs none)=>if e'=e∧5 < n∧t'.flat=false then if h:t'=t then some (P9 h xs,[some n]) else none else none
    | _=>none else none
   | [.rd [] _ t' xs]=>if own then none else if h:t'=t then some (P9 h xs,[none]) else none
   | _=>none
def A97 (σ:St) (own:Bool):(t:Ty)→AV→Option (t.den × List (Option Nat))
 | .prod a b, v => match v with
   | .agg l=>A32 σ own (.prod a b) l
   | _=>none
 | .int k, v => match v with
   | .c x=>A32 σ own (.int k) [x]
   | _=>none
 | .bool, v => match v with
   | .c x=>A32 σ own .bool [x]
   | _=>none
 | .str, v => match v with
   | .c x=>A32 σ own .str [x]
   | _=>none
 | .row e t, v => match v with
   | .c x=>A32 σ own (.row e t) [x]
   | _=>none
def A8D (σ:St):(rs:List RK)→List AV→Option (d8 rs × List (Option Nat))
 | [],[]=>some ((),[])
 | [r],[v]=>A97 σ r.own r.t v
 | r :: q :: l, v :: vs => match A97 σ r.own r.t v, A8D σ (q :: l) vs with
   | some (x,i),some (y,j)=>some ((x,y),i++j)
   | _,_=>none
 | _,_=>none
def B85 (P:Program) (σ:St):ResultVar→Option (Prop × AV)
 | .tmp t=>some (True,σ.get t)
 | .cell t ty => match A7k P σ ty (.tmp t) with
   | some r=>some (r.c,r.r)
   | none=>none
def A6q (P:Program) (σ:St):List ResultVar→Option (Prop × List AV)
 | []=>some (True,[])
 | x :: l => match B85 P σ x, A6q P σ l with
   | some (c,v),some (d,vs)=>some (c∧d,v::vs)
   | _,_=>none
def m5 (σ:St) (ids:List (Option Nat)):Bool :=
 decide (ids.filterMap id).Nodup
def B2l (σ:St) (ids:List (Option Nat)):Prop:=m5 σ ids=true∧ids.length≤8
theorem B4w {σ:St} {ids:List (Option Nat)} (h:m5 σ ids=true) (k:ids.length≤8):B2l σ ids:=⟨h,k⟩
def Fin (P:Program) (results:List ResultVar) (rs:List RK) (y:d8 rs) (σ:St):Prop :=
 match A6q P σ results with
 | some (c, vs) => c ∧ match A8D σ rs vs with
   | some (x,ids)=>x=y∧B2l σ ids
   | none=>False
 | none=>False
def B04 (ids:List (Option Nat)) (m:Nat):Nat:=if m≤5 then m else if ids.contains (some m) then 10+ids.idxOf (some m) else 18
def Rz.fin (R:Rz) (ids:List (Option Nat)):Rz :=
  { root:=fun b=>B04 ids (R.root b)
    hd:=fun m=>match ids[m - 10]? with|some (some n)=>R.hd n|_=>.slice none 0 0
    bk:=fun m=>match ids[m - 10]? with|some (some n)=>R.bk n|_=>0 }
section
variable {P:Program} {R0 R:Rz} {w0 w:World} {σ:St} {a:Act} {ids:List (Option Nat)}
theorem B8M {n k:Nat} (hn:5 < n) (hnd:(ids.filterMap id).Nodup) (hk:ids[k]?=some (some n)):B04 ids n=10+k:=by
 have hm:some n∈ids:=List.mem_of_getElem? hk
 unfold B04;rw[if_neg (by omega),if_pos (by simpa using hm)]
 congr 1
 induction ids generalizing k with
 | nil=>simp at hk
 | cons i l ih =>
   cases k with
   | zero=>simp at hk;subst hk;simp
   | succ k =>
     simp only[List.getElem?_cons_succ] at hk
     have hl:=List.mem_of_getElem? hk
     have hne:i≠some n:=by
      rintro rfl
      simp only[List.filterMap_cons,id,List.nodup_cons] at hnd
      exact hnd.1 (List.mem_filterMap.2 ⟨_,hl,rfl⟩)
     have hbe:(i == some n)=false:=by simpa using hne
     rw[List.idxOf_cons,hbe,ih (by
      cases i with
      | none=>simpa [List.filterMap_cons] using hnd
      | some m=>simp only[List.filterMap_cons,id,List.nodup_cons] at hnd;exact hnd.2) hk hl]
     rfl
theorem B5b {b:Nat} (h:okS R [] b):okS (R.fin ids) [] b:=by
 rcases h with h|h
 · left;show B04 ids (R.root b)=0;rw[h];simp[B04]
 · cases h
theorem B30 (hs:Sim R0 w0 R σ a w) (hg:m5 σ ids=true) {n k:Nat} (hn:5 < n) (hk:ids[k]?=some (some n)) :
 (R.fin ids).hd (y5 k)=R.hd n∧(R.fin ids).bk (y5 k)=R.bk n∧∀b,R.root b=n→(R.fin ids).root b=y5 k:=by
 simp only[m5,decide_eq_true_eq] at hg
 have e1:y5 k - 10=k:=by unfold y5;omega
 refine⟨by simp only[Rz.fin,e1,hk],by simp only[Rz.fin,e1,hk],fun b hb=>?_⟩
 show B04 ids (R.root b)=_
 rw[hb,B8M hn hg hk];rfl
theorem B2p (hs:Sim R0 w0 R σ a w) (hg:m5 σ ids=true) {own:Bool}:∀{t:Ty} {l:List CV} {us:List Value} {x:t.den} {js:List (Option Nat)} {k:Nat},VRs R w l us→A32 σ own t l=some (x,js) →
 (∀i j,js[i]?=some j→ids[k+i]?=some j)→VRs (R.fin ids) w (A3B y5 own [] k t x) us∧(own=true→obsOk (R.fin ids) w (Y5 y5 [] k t x))∧js.length=t.rows:=by
 intro t
 induction t with
 | int q =>
   intro l us x js k h1 h2 _
   simp only[A32] at h2
   split at h2
   · split at h2
     · rename_i e;cases h2;subst e
       exact⟨h1,fun _ p hp=>by simp[Y5] at hp,rfl⟩
     · cases h2
   · cases h2
 | bool =>
   intro l us x js k h1 h2 _
   simp only[A32] at h2
   split at h2
   · cases h2;exact⟨h1,fun _ p hp=>by simp[Y5] at hp,rfl⟩
   · cases h2
 | str =>
   intro l us x js k h1 h2 _
   simp only[A32] at h2
   split at h2
   · cases h2;exact⟨h1,fun _ p hp=>by simp[Y5] at hp,rfl⟩
   · cases h2
 | row e t ih =>
   intro l us x js k h1 h2 hj
   simp only[A32] at h2
   split at h2
   · cases h2
     obtain⟨u,rfl,h3⟩:=E5 h1
     have h3:u=.slice none 0 0:=h3
     have hk:ids[k]?=some none:=by simpa using hj 0 none rfl
     have e1:y5 k - 10=k:=by unfold y5;omega
     have hh:(R.fin ids).hd (y5 k)=.slice none 0 0:=by simp only[Rz.fin,e1,hk]
     refine⟨⟨u,[],rfl,?_,rfl⟩,fun _ p hp=>?_,rfl⟩
     · cases own with
       | true=>simp only[if_true,VRc];rw[hh];exact h3
       | false =>
         simp only[Bool.false_eq_true,if_false,VRc];rw[h3];exact Rd.dflt _ _ (.row e t)
     · simp only[Y5,List.mem_singleton] at hp
       subst hp;cases hf:t.flat
       · exact .inl ⟨hh,rfl⟩
       · exact .inl ⟨hh,rfl⟩
   · rename_i n
     cases own with
     | false=>simp at h2
     | true =>
       simp only[if_true] at h2
       split at h2
       · rename_i e' t' xs S he
         split at h2
         case isFalse=>cases h2
         rename_i hc
         split at h2
         case isFalse=>cases h2
         rename_i ht
         subst ht;obtain⟨rfl,hn,hf⟩:=hc;cases h2
         obtain⟨u,rfl,h3⟩:=E5 h1
         have hk:ids[k]?=some (some n):=by simpa using hj 0 (some n) rfl
         obtain⟨e1,e2,e3⟩:=B30 hs hg hn hk
         refine⟨⟨u,[],rfl,?_,rfl⟩,fun _ p hp=>?_,rfl⟩
         · simp only[if_true,VRc];rw[e1];exact h3
         · simp only[Y5,hf,List.mem_singleton] at hp
           subst hp;rcases hs.look he with⟨g1,g2⟩|⟨cap,cur,g1,g2,g3,g4,g5,g6,g7⟩
           · exact .inl ⟨by simp only;rw[e1];exact g1,g2⟩
           · exact .inr ⟨cap,cur,by simp only;rw[e1,e2];exact g1,by simp only;rw[e2];exact e3 _ g2,by simp only;rw[e2];exact g3,g4,g5,g6,fun i hi=>(g7 i hi).flat hf⟩
       · rename_i e' t' xs he
         split at h2
         case isFalse=>cases h2
         rename_i hc
         split at h2
         case isFalse=>cases h2
         rename_i ht
         subst ht;obtain⟨rfl,hn,hf⟩:=hc;cases h2
         obtain⟨u,rfl,h3⟩:=E5 h1
         have hk:ids[k]?=some (some n):=by simpa using hj 0 (some n) rfl
         obtain⟨e1,e2,e3⟩:=B30 hs hg hn hk
         refine⟨⟨u,[],rfl,?_,rfl⟩,fun _ p hp=>?_,rfl⟩
         · simp only[if_true,VRc];rw[e1];exact h3
         · simp only[Y5,hf,List.mem_singleton] at hp
           subst hp;rcases hs.look he with⟨g1,g2⟩|⟨cap,cur,g1,g2,g3,g4,g5,g6,g7,g8⟩
           · exact .inl ⟨by simp only;rw[e1];exact g1,g2⟩
           · exact .inr ⟨cap,cur,by simp only;rw[e1,e2];exact g1,by simp only;rw[e2];exact e3 _ g2,by simp only;rw[e2];exact g3,g4,g5,g6,fun i hi hh=>(g7 i hi hh).mv fun c b l q hc hr hlt=>⟨rfl,e3 b hr⟩,by simp only;rw[e2];exact g8⟩
       · cases h2
   · rename_i e' t' xs
     cases own with
     | true=>simp at h2
     | false =>
       simp only[Bool.false_eq_true,if_false] at h2
       split at h2
       · rename_i ht
         subst ht;cases h2
         obtain⟨u,rfl,h3⟩:=E5 h1
         refine⟨⟨u,[],rfl,?_,rfl⟩,fun h=>by simp at h,rfl⟩
         simp only[Bool.false_eq_true,if_false,VRc];exact Rd.mono h3 fun b hb=>B5b hb
       · cases h2
   · cases h2
 | prod p q hp hq =>
   intro l us x js k h1 h2 hj
   simp only[A32] at h2
   split at h2
   · rename_i y i z j e1 e2
     cases h2
     have hi:i.length=p.rows:=(hp (us:=us.take p.w) (k:=k) (h1.take p.w) e1 (fun i' j' h=>hj i' j' (by rw[List.getElem?_append_left (List.getElem?_eq_some_iff.1 h).1];exact h))).2.2
     obtain⟨k1,k2,_⟩:=hp (us:=us.take p.w) (k:=k) (h1.take p.w) e1 (fun i' j' h=>hj i' j' (by rw[List.getElem?_append_left (List.getElem?_eq_some_iff.1 h).1];exact h))
     obtain⟨k3,k4,k5⟩:=hq (us:=us.drop p.w) (k:=k+p.rows) (h1.drop p.w) e2 (fun i' j' h=>by
      have:=hj (p.rows+i') j' (by rw[List.getElem?_append_right (by omega),hi];simpa using h)
      rw[Nat.add_assoc];exact this)
     refine⟨?_,fun ho z hz=>?_,by simp[Ty.rows,hi,k5]⟩
     · have:=k1.append k3
       rw[List.take_append_drop] at this;exact this
     · simp only[Y5,List.mem_append] at hz
       rcases hz with hz|hz
       · exact k2 ho z hz
       · exact k4 ho z hz
   · cases h2
theorem B2b (hs:Sim R0 w0 R σ a w) (hg:m5 σ ids=true) {own:Bool} {t:Ty} {v:AV} {u:Value} {x:t.den} {js:List (Option Nat)} {k:Nat} (h1:VR R w v u) (h2:A97 σ own t v=some (x,js))
 (hj:∀i j,js[i]?=some j→ids[k+i]?=some j):VR (R.fin ids) w (A1B y5 own [] k t x) u∧(own=true→obsOk (R.fin ids) w (Y5 y5 [] k t x))∧js.length=t.rows:=by
 have one:∀{t:Ty} {p:CV} {x:t.den},VRc R w p u→A32 σ own t [p]=some (x,js)→VRs (R.fin ids) w (A3B y5 own [] k t x) [u]∧(own=true→obsOk (R.fin ids) w (Y5 y5 [] k t x))∧js.length=t.rows :=
  fun {t p x} h3 h4=>B2p hs hg (show VRs R w [p] [u] from ⟨u,[],rfl,h3,rfl⟩) h4 hj
 cases t with
 | int q =>
   simp only[A97] at h2
   split at h2
   · simp only[VR] at h1
     obtain⟨k1,k2,k3⟩:=one h1 h2
     obtain⟨u',e,k4⟩:=E5 k1
     simp only[List.cons.injEq,and_true] at e;subst e
     exact⟨k4,k2,k3⟩
   · cases h2
 | bool =>
   simp only[A97] at h2
   split at h2
   · simp only[VR] at h1
     obtain⟨k1,k2,k3⟩:=one h1 h2
     obtain⟨u',e,k4⟩:=E5 k1
     simp only[List.cons.injEq,and_true] at e;subst e
     exact⟨k4,k2,k3⟩
   · cases h2
 | str =>
   simp only[A97] at h2
   split at h2
   · simp only[VR] at h1
     obtain⟨k1,k2,k3⟩:=one h1 h2
     obtain⟨u',e,k4⟩:=E5 k1
     simp only[List.cons.injEq,and_true] at e;subst e
     exact⟨k4,k2,k3⟩
   · cases h2
 | row e t =>
   simp only[A97] at h2
   split at h2
   · simp only[VR] at h1
     obtain⟨k1,k2,k3⟩:=one h1 h2
     obtain⟨u',e,k4⟩:=E5 k1
     simp only[List.cons.injEq,and_true] at e;subst e
     exact⟨by simp only[A1B,VR];exact k4,k2,k3⟩
   · cases h2
 | prod p q =>
   simp only[A97] at h2
   split at h2
   · simp only[VR] at h1
     obtain⟨us,rfl,h3⟩:=h1;obtain⟨k1,k2,k3⟩:=B2p hs hg h3 h2 hj
     exact⟨by simp only[A1B,VR];exact⟨us,rfl,k1⟩,k2,k3⟩
   · cases h2
theorem B88 (hs:Sim R0 w0 R σ a w) (hg:m5 σ ids=true):∀{rs:List RK} {l:List AV} {us:List Value} {x:d8 rs} {js:List (Option Nat)} {k:Nat},VRt R w l us→A8D σ rs l=some (x,js) →
 (∀i j,js[i]?=some j→ids[k+i]?=some j)→VRt (R.fin ids) w (T8 y5 [] k rs x) us∧obsOk (R.fin ids) w (X4 y5 [] k rs x):=by
 intro rs
 induction rs with
 | nil =>
   intro l us x js k h1 h2 _
   cases l with
   | nil=>simp only[VRt,T8] at h1 ⊢;exact⟨h1,fun p hp=>by simp[X4] at hp⟩
   | cons v l=>simp[A8D] at h2
 | cons r rs ih =>
   intro l us x js k h1 h2 hj
   cases l with
   | nil=>cases rs<;>simp[A8D] at h2
   | cons v l =>
     simp only[VRt] at h1
     obtain⟨u,us',rfl,h3,h4⟩:=h1;cases rs with
     | nil =>
       cases l with
       | cons v' l=>simp[A8D] at h2
       | nil =>
         simp only[VRt] at h4
         subst h4;simp only[A8D] at h2
         obtain⟨k1,k2,k3⟩:=B2b hs hg h3 h2 hj
         refine⟨by simp only[T8,VRt];exact⟨u,[],rfl,k1,rfl⟩,?_⟩
         simp only[X4]
         split
         · rename_i ho;exact k2 ho
         · intro p hp;cases hp
     | cons q rs =>
       simp only[A8D] at h2
       split at h2
       · rename_i y i z j e1 e2
         cases h2
         have hb:∀i' j',i[i']?=some j'→ids[k+i']?=some j':=fun i' j' h=>hj i' j' (by rw[List.getElem?_append_left (List.getElem?_eq_some_iff.1 h).1];exact h)
         obtain⟨k1,k2,k3⟩:=B2b hs hg h3 e1 hb
         obtain⟨k4,k5⟩:=ih (k:=k+r.t.rows) h4 e2 (fun i' j' h=>by
          have:=hj (r.t.rows+i') j' (by rw[List.getElem?_append_right (by omega),k3];simpa using h)
          rw[Nat.add_assoc];exact this)
         refine⟨by simp only[T8,VRt];exact⟨u,us',rfl,k1,k4⟩,fun p hp=>?_⟩
         simp only[X4,List.mem_append] at hp
         rcases hp with hp|hp
         · split at hp
           · rename_i ho;exact k2 ho p hp
           · cases hp
         · exact k5 p hp
       · cases h2
def B5S (a:Act):ResultVar→Sem Value
 | .tmp t=>pure (a.tmps.getD t undef)
 | .cell q t=>do loadVar t (←asAddr (a.tmps.getD q undef))
theorem B0k (hs:Sim R0 w0 R σ a w):∀{l:List ResultVar} {c:Prop} {vs:List AV},A6q P σ l=some (c,vs)→c →
 ∃us,(l.mapM (B5S a)).run P w=.ok us w∧VRt R w vs us:=by
 intro l
 induction l with
 | nil=>intro c vs h _;simp only[A6q,Option.some.injEq,Prod.mk.injEq] at h;obtain⟨_,rfl⟩:=h;exact⟨[],by simp,by simp[VRt]⟩
 | cons x l ih =>
   intro c vs h hc
   simp only[A6q] at h
   split at h
   case h_2=>cases h
   rename_i c1 v c2 vs' e1 e2
   cases h
   obtain⟨us,h1,h2⟩:=ih e2 hc.2
   cases x with
   | tmp t =>
     simp only[B85,Option.some.injEq,Prod.mk.injEq] at e1
     obtain⟨_,rfl⟩:=e1;refine⟨a.tmps.getD t undef::us,by rw[List.mapM_cons];simp only[B5S,Sem.run_bind,Sem.run_pure,Result.andThen_ok,h1],by simp only[VRt];exact⟨_,us,rfl,hs.get t,h2⟩⟩
   | cell q t =>
     simp only[B85] at e1
     split at e1
     case h_2=>cases e1
     rename_i r e3
     cases e1
     obtain⟨u,b,k,h3,h4,h5,_⟩:=B0S e3 hc.1 hs
     have h3:a.tmps.getD q undef=.pointer (some ⟨b,k,none⟩):=h3
     refine⟨u::us,by rw[List.mapM_cons];simp only[B5S,h3,asAddr,Sem.run_bind,Sem.run_pure,Result.andThen_ok,h4,h1],by simp only[VRt];exact⟨u,us,rfl,h5,h2⟩⟩
theorem B8k {fn:Func} {rs:List RK} {y:d8 rs} (hs:Sim R0 w0 R σ a w) (h:Fin P fn.results.toList rs y σ) :
 ∃v R',(results fn a.tmps).run P w=.ok v w∧VR R' w (S0 y5 [] rs y) v∧obsOk R' w (X4 y5 [] 0 rs y)∧Keeps R0 w0 R' w:=by
 unfold Fin at h
 split at h
 case h_2=>exact h.elim
 rename_i c vs e1
 obtain⟨hc,h⟩:=h
 split at h
 case h_2=>exact h.elim
 rename_i x ids e2
 obtain⟨rfl,hg,_⟩:=h;obtain⟨us,h1,h2⟩:=B0k hs e1 hc
 obtain⟨h3,h4⟩:=B88 (k:=0) hs hg h2 e2 (fun i j h=>by simpa using h)
 have hl:=h3.length
 refine⟨if h:us.toArray.size=1 then us.toArray[0] else .tuple us.toArray,R.fin ids,?_,?_,h4,⟨hs.os,hs.tape,hs.output,hs.grow,fun b hb hr=>?_⟩⟩
 · have e:results fn a.tmps=(do let vs ←fn.results.mapM (B5S a);pure (if h:vs.size=1 then vs[0] else .tuple vs)):=by
    unfold results
    congr 1
   rw[e,Sem.run_bind,Array.mapM_eq_mapM_toList,Sem.run_map,h1]
   rfl
 · unfold S0;generalize T8 y5 [] 0 rs x=l at *
   match l,us,hl with
   | [],[],_=>simp only[VR];exact⟨#[],by simp,by simp[VRt]⟩
   | [p], [u], _ =>
     simp only[VRt] at h3
     obtain⟨u',us',e,h5,_⟩:=h3;cases e
     simpa using h5
   | p :: q :: l, u :: u2 :: us, _ =>
     simp only[VR];exact⟨_,by rw[dif_neg (by simp)],by simpa using h3⟩
 · obtain⟨k1,k2⟩:=hs.keep b hb hr
   exact⟨k1,by show B04 ids (R.root b)=_;rw[k2];unfold B04;rw[if_pos hr]⟩
end
def St.init (n:Nat) (l:List AV):St:=⟨l++List.replicate (n - l.length) (.c .bot),[]⟩
def C0O (P:Program) (results:List ResultVar) (rs:List RK) (y:d8 rs):Exit→St→Prop
 | .normal,σ | .ret,σ=>Fin P results rs y σ
 | _,_=>False
theorem VRt.append {R:Rz} {w:World} {l1 l2:List AV} {u1 u2:List Value} (h1:VRt R w l1 u1) (h2:VRt R w l2 u2):VRt R w (l1++l2) (u1++u2):=by
 induction l1 generalizing u1 with
 | nil=>simp only[VRt] at h1;subst h1;exact h2
 | cons c l ih =>
   simp only[VRt] at h1
   obtain⟨u,us',rfl,h3,h4⟩:=h1;simp only[List.cons_append,VRt];exact⟨u,us'++u2,rfl,h3,ih h4⟩
theorem VRt.bots {R:Rz} {w:World} (n:Nat) (u:Value):VRt R w (List.replicate n (.c .bot)) (List.replicate n u):=by
 induction n with
 | zero=>simp[VRt]
 | succ n ih=>simp only[List.replicate_succ,VRt];exact⟨u,_,rfl,by simp[VR,VRc],ih⟩
def Ty.lenOk:(t:Ty)→t.den→Prop
 | .int _,_=>True
 | .bool,_=>True
 | .str,_=>True
 | .prod a b,x=>a.lenOk x.1∧b.lenOk x.2
 | .row _ t, xs => match t.flat with
   | true=>xs.length≤9223372036854775807
   | false=>xs.length≤9223372036854775807∧∀x∈xs,t.lenOk x
theorem Rd.lenOk {S:Nat→Prop} {w:World} {t:Ty} {us:List Value} {x:t.den} (h:Rd S w t us x):t.lenOk x:=by
 induction t generalizing us with
 | int k=>trivial
 | bool=>trivial
 | str=>trivial
 | prod a b ha hb =>
   obtain⟨u1,u2,rfl,h1,h2⟩:=h;exact⟨ha h1,hb h2⟩
 | row e t ih =>
   obtain⟨a,cap,_,h1,h2,h3⟩:=h;have hl:x.length≤9223372036854775807:=by unfold maxLen at h2;omega
   unfold Ty.lenOk
   split
   · exact hl
   · refine⟨hl,fun y hy=>?_⟩
     obtain⟨i,hi,rfl⟩:=List.mem_iff_getElem.1 hy
     obtain⟨b,o,_,_,h4⟩:=h3 (by omega)
     obtain⟨vs,_,_,h5⟩:=h4 i hi
     exact ih h5
theorem VRs.lenOk {R:Rz} {w:World} {S:List Nat}:∀{t:Ty} {x:t.den} {us:List Value},VRs R w (cellsOf S t x) us→t.lenOk x:=by
 intro t
 induction t with
 | int k=>intro x us _;trivial
 | bool=>intro x us _;trivial
 | str=>intro x us _;trivial
 | row e t ih =>
   intro x us h
   simp only[cellsOf] at h
   obtain⟨u,rfl,h2⟩:=E5 h
   exact Rd.lenOk (t:=.row e t) h2
 | prod a b ha hb =>
   intro x us h
   simp only[cellsOf] at h
   have e:∀{l1 l2:List CV} {us:List Value},VRs R w (l1++l2) us→∃u1 u2,us=u1++u2∧VRs R w l1 u1∧VRs R w l2 u2:=by
    intro l1
    induction l1 with
    | nil=>intro l2 us h;exact⟨[],us,rfl,rfl,h⟩
    | cons c l1 ih =>
      intro l2 us h
      obtain⟨u,us',rfl,h3,h4⟩:=h;obtain⟨u1,u2,rfl,h5,h6⟩:=ih h4
      exact⟨u::u1,u2,rfl,⟨u,u1,rfl,h3,h5⟩,h6⟩
   obtain⟨u1,u2,rfl,h2,h3⟩:=e h
   exact⟨ha h2,hb h3⟩
theorem VR.lenOk {R:Rz} {w:World} {S:List Nat} {t:Ty} {x:t.den} {v:Value} (h:VR R w (t.av S x) v):t.lenOk x:=by
 cases t with
 | int k=>trivial
 | bool=>trivial
 | str=>trivial
 | row e t=>simp only[Ty.av,VR] at h;exact Rd.lenOk (t:=.row e t) h
 | prod a b =>
   simp only[Ty.av,VR] at h
   obtain⟨us,rfl,h1⟩:=h;exact h1.lenOk
def PK.lenOk:(p:PK)→p.den→Prop
 | .val t,x=>t.lenOk x
 | .ptr t,x=>t.lenOk x
 | .one t,x=>t.lenOk x
def A9L:(ps:List PK)→A8Q ps→Prop
 | [],_=>True
 | p::l,x=>p.lenOk x.1∧A9L l x.2
theorem B7E {R:Rz} {w:World}:∀{ps:List PK} {x:A8Q ps} {us:List Value},VRt R w (avs ps x) us→A9L ps x:=by
 intro ps
 induction ps with
 | nil=>intro x us _;trivial
 | cons p ps ih =>
   intro x us h
   simp only[avs,VRt] at h
   obtain⟨u,us',rfl,h1,h2⟩:=h;refine⟨?_,ih h2⟩
   cases p with
   | val t=>exact h1.lenOk
   | ptr t =>
     simp only[PK.av,VR] at h1
     obtain⟨b,o,us,_,_,_,_,h3⟩:=h1;exact h3.lenOk
   | one t =>
     simp only[PK.av,VR] at h1
     obtain⟨us,rfl,h3⟩:=h1;exact h3.lenOk
theorem A4 {P:Program} {f:FuncId} {fn:Func} {code:Code} {k:Con} (hf:P.funcs[f]?=some fn) (hb:fn.body=some code)
 (h:∀x,k.c x→A9L k.ps x→AWP P code (St.init fn.ntmps (avs k.ps x)) (C0O P fn.results.toList k.rs (k.r x))):C8 P f k:=by
 intro x hc R w vs hg hv
 refine calls_of_wp hf hb ?_
 have hl:=hv.length
 simp only[Array.length_toList] at hl
 have hs:Sim R w R (St.init fn.ntmps (avs k.ps x)) { tmps:=vs++Array.replicate (fn.ntmps - vs.size) undef,defers:=[] } w:=by
  refine⟨by simp[St.init,hl],?_,fun p hp=>by simp[St.init] at hp,rfl,rfl,rfl,Nat.le_refl _,fun b _ _=>⟨rfl,rfl⟩,fun _ _ _=>⟨rfl,rfl⟩,rfl,hg⟩
  simp only[St.init,Array.toList_append,Array.toList_replicate];rw[hl];exact hv.append (VRt.bots _ _)
 refine wp_mono (h x hc (B7E hv) R w R _ w hs) fun e a' w' ⟨R',σ',h1,h2⟩=>?_
 have fin:Fin P fn.results.toList k.rs (k.r x) σ'→bodyPost P fn (fun e w'=>∃v R',e=.returned v∧VR R' w' (S0 y5 [] k.rs (k.r x)) v∧obsOk R' w' (X4 y5 [] 0 k.rs (k.r x))∧Keeps R w R' w') .normal a' w':=fun hF=>by
  obtain⟨v,R2,h3,h4,h5,h6⟩:=B8k h1 hF
  exact⟨h1.defers,v,h3,v,R2,rfl,h4,h5,h6⟩
 cases e<;>first|exact fin h2|exact h2.elim
theorem B0 {P : Program} {f : FuncId} {fn : Func} {code : Code} (hf : P.funcs[f]? = some fn) (hb : fn.body = some code) (hn : fn.name ≠ "runtime.NumGoroutine") : B75 P f := ⟨fn, code, hf, hb, hn⟩
open Go.RowKit
def AV.isBot:AV→Bool
 | .c .bot=>true
 | _=>false
def A4c:Nat→List AV→List Nat
 | _,[]=>[]
 | i,x::l=>if x.isBot then A4c (i+1) l else i::A4c (i+1) l
def pCV:CV→CV→List (Nat × Nat)
 | .rd S _ _ _,.rd S' _ _ _=>S.map fun n=>(n,S'.headD 0)
 | .pt S _ _ _,.pt S' _ _ _=>S.map fun n=>(n,S'.headD 0)
 | .ow n,.ow m=>[(n,m)]
 | .po n _,.po m _=>[(n,m)]
 | .pe n _ _ _,.pe m _ _ _=>[(n,m)]
 | .sub n _ _ _ _ _ _,.sub m _ _ _ _ _ _=>[(n,m)]
 | .pi n _ _ _ _ _ _ _,.pi m _ _ _ _ _ _ _=>[(n,m)]
 | .fn _ l,.fn _ l'=>l.zip l'
 | _,_=>[]
def B7l:List CV→List CV→List (Nat × Nat)
 | x::l,y::l'=>pCV x y++B7l l l'
 | _,_=>[]
mutual
def pAV:AV→AV→List (Nat × Nat)
 | .c x,.c y=>pCV x y
 | .agg l,.agg l'=>B7l l l'
 | .tup l,.tup l'=>B3b l l'
 | _,_=>[]
def B3b:List AV→List AV→List (Nat × Nat)
 | x::l,y::l'=>pAV x y++B3b l l'
 | _,_=>[]
end
def pOb:Option Ob→Option Ob→List (Nat × Nat)
 | some (.box l),some (.box l')=>B7l l l'
 | some (.row _ _ _ S),some (.row _ _ _ S')=>S.map fun n=>(n,S'.headD 0)
 | some (.map _ _ S),some (.map _ _ S')=>S.map fun n=>(n,S'.headD 0)
 | _,_=>[]
def B6b (σ τ:St):List (Nat × Nat)→List (Nat × Nat)
 | []=>[]
 | (n,m)::l=>pOb (σ.look n) (τ.look m)++B6b σ τ l
def B2z:List (Nat × Nat)→List (Nat × Nat)
 | []=>[]
 | (a,b)::l=>(b,a)::B2z l
def B4x:List (Nat × Nat)→List Nat
 | []=>[]
 | (a,_)::l=>a::B4x l
def ioP:List (Nat × Ob)→List (Nat × Nat)
 | []=>[]
 | p::l=>if 30≤p.1∧p.1 < 46 then (p.1,p.1)::ioP l else ioP l
def prs (σ τ:St):List (Nat × Nat):=(ioP τ.ob++B3b σ.tm τ.tm)++B6b σ τ (ioP τ.ob++B3b σ.tm τ.tm)++B6b σ τ (B6b σ τ (ioP τ.ob++B3b σ.tm τ.tm))
def St.to (σ τ:St):St:=(σ.keep (A4c 0 τ.tm) (B4x (prs σ τ))).ren (prs σ τ)
def St.toOk (σ τ:St):Bool:=(σ.keep (A4c 0 τ.tm) (B4x (prs σ τ))).renOk (prs σ τ) (B2z (prs σ τ))
def B1A:Option Ob→Ob→Prop
 | some (.tree e t xs h),.row e' t' ys S=>e=e'∧t=t'∧xs=[]∧ys=[]
 | some (.tree e t xs h),.tree e' t' ys h'=>Ob.tree e t xs h=.tree e' t' ys h'
 | some (.tree _ _ _ _),.box _=>False
 | some (.tree _ _ _ _),.map _ _ _=>False
 | some (.row e t xs S),.tree e' t' ys h=>e=e'∧t=t'∧xs=[]∧ys=[]
 | some (.row e t xs S),.row e' t' ys S'=>Ob.row e t xs S=.row e' t' ys S'
 | some (.row _ _ _ _),.box _=>False
 | some (.row _ _ _ _),.map _ _ _=>False
 | some (.box l),.box l'=>l=l'
 | some (.box _),.row _ _ _ _=>False
 | some (.box _),.tree _ _ _ _=>False
 | some (.box _),.map _ _ _=>False
 | some (.map t xs S),.map t' ys S'=>Ob.map t xs S=.map t' ys S'
 | some (.map _ _ _),_=>False
 | none,_=>False
theorem B7m {R:Rz} {w:World} {n:Nat} {o o':Ob} (h:OR R w n o) (k:B1A (some o) o'):OR R w n o':=by
 cases o with
 | box l =>
   cases o' with
   | box l'=>simp only[B1A] at k;subst k;exact h
   | row e t xs S=>exact k.elim
   | tree e t xs hh=>exact k.elim
   | map t xs S=>exact k.elim
 | row e t xs S =>
   cases o' with
   | box l'=>exact k.elim
   | map t xs S=>exact k.elim
   | row e' t' ys S'=>simp only[B1A] at k;rw[←k];exact h
   | tree e' t' ys hh =>
     obtain⟨rfl,rfl,rfl,rfl⟩:=k;rcases h with⟨h1,h2⟩|⟨cap,cur,h1,h2,h3,h4,h5,h6,h7⟩
     · exact .inl ⟨h1,rfl⟩
     · exact .inr ⟨cap,cur,h1,h2,h3,h4,h5,h6,fun i hi=>by simp at hi,fun c b l k hc=>by simp at hc⟩
 | tree e t xs hh =>
   cases o' with
   | box l'=>exact k.elim
   | map t xs S=>exact k.elim
   | tree e' t' ys S'=>simp only[B1A] at k;rw[←k];exact h
   | row e' t' ys S =>
     obtain⟨rfl,rfl,rfl,rfl⟩:=k;rcases h with⟨h1,h2⟩|⟨cap,cur,h1,h2,h3,h4,h5,h6,h7,h8⟩
     · exact .inl ⟨h1,rfl⟩
     · exact .inr ⟨cap,cur,h1,h2,h3,h4,h5,h6,fun i hi=>by simp at hi⟩
 | map t xs S =>
   cases o' with
   | map t' ys S'=>simp only[B1A] at k;rw[←k];exact h
   | box l'=>exact k.elim
   | row e' t' ys S=>exact k.elim
   | tree e' t' ys hh=>exact k.elim
def A7b:List (Nat × Ob)→List (Nat × Ob)→Prop
 | [],_=>True
 | p::l,ob=>B1A (A0k p.1 ob) p.2∧A7b l ob
theorem B5p {R:Rz} {w:World} {l ob:List (Nat × Ob)} (hob:obsOk R w ob) (h:A7b l ob):obsOk R w l:=by
 induction l with
 | nil=>intro p hp;cases hp
 | cons q l ih =>
   intro p hp
   rcases List.mem_cons.1 hp with rfl|hp
   · have h1:=h.1
     cases hq:A0k p.1 ob with
     | none=>rw[hq] at h1;exact h1.elim
     | some o=>rw[hq] at h1;exact B7m (hob (p.1,o) (A5u hq)) h1
   · exact ih h.2 p hp
theorem B8T {σ τ:St} (h:σ.toOk τ=true) (h2:(σ.to τ).tm=τ.tm∧A7b τ.ob (σ.to τ).ob):Wk σ τ:=by
 refine(B7q σ (A4c 0 τ.tm) (B4x (prs σ τ))).trans ((B9Z _ (prs σ τ) (B2z (prs σ τ)) h).trans ?_)
 intro R0 w0 R a w hs
 refine⟨R,?_,?_,B5p hs.ob h2.2,hs.os,hs.tape,hs.output,hs.grow,hs.keep,hs.pl,hs.defers,hs.glob⟩
 · rw[←h2.1];exact hs.size
 · rw[←h2.1];exact hs.tm
def B8P (k m:Nat):Ob→Ob
 | .box l => match l[k]? with
   | some (.sc (.slice none 0 0))=>.box (l.set k (.ow m))
   | _=>.box l
 | .row e t xs S=>.row e t xs S
 | .tree e t xs h=>.tree e t xs h
 | .map t xs S=>.map t xs S
def A5V (n k m:Nat):List (Nat × Ob)→List (Nat × Ob)
 | []=>[]
 | p::l=>(if p.1=n then (p.1,B8P k m p.2) else p)::A5V n k m l
def B9z (m:Nat):AV→AV
 | .c (.sc (.slice none 0 0))=>.c (.ow m)
 | x=>x
def B0n (e:TypeId) (t:Ty):Ob:=match t.flat with
 | true=>.row e t [] []
 | false=>.tree e t [] none
def St.nilBox (σ:St) (n k m:Nat) (e:TypeId) (t:Ty):St:=⟨AV.killL [] [m] σ.tm,(m,B0n e t)::A5V n k m (M0 [] [m] σ.ob)⟩
def St.nilSlot (σ:St) (i m:Nat) (e:TypeId) (t:Ty):St:=⟨(AV.killL [] [m] σ.tm).set i (B9z m ((AV.killL [] [m] σ.tm).getD i (.c .bot))),(m,B0n e t)::M0 [] [m] σ.ob⟩
def Rz.nil (R:Rz) (m:Nat):Rz:={ R with hd:=fun x=>if x=m then .slice none 0 0 else R.hd x }
theorem B6j {R0 R:Rz} {w0 w:World} {σ:St} {a:Act} (hs:Sim R0 w0 R σ a w) {m:Nat} (hm:100≤m) (e:TypeId) (t:Ty):Sim R0 w0 (R.nil m) ⟨AV.killL [] [m] σ.tm,(m,B0n e t)::M0 [] [m] σ.ob⟩ a w:=by
 have hf:FR [] [m] R w (R.nil m) w:=by
  refine⟨rfl,rfl,rfl,Nat.le_refl _,fun b _ _=>⟨rfl,rfl⟩,fun n hn=>?_,fun n hn=>?_⟩
  · simp only[List.mem_singleton] at hn
    simp[Rz.nil,hn]
  · have:n≠m:=by omega
    simp[Rz.nil,this]
 have hv:=VRt.kill hs.tm hf (by simp)
 refine⟨?_,hv,fun p hp=>?_,hs.os,hs.tape,hs.output,hs.grow,hs.keep,fun n k1 k2=>⟨(hf.lo n (by omega)).1.trans (hs.pl n k1 k2).1,(hf.lo n (by omega)).2.trans (hs.pl n k1 k2).2⟩,hs.defers,hs.glob⟩
 · have:=hv.length;simp only;rw[←this];simp
 · rcases List.mem_cons.1 hp with rfl|hp
   · simp only[B0n];have:(R.nil m).hd m=.slice none 0 0:=by simp[Rz.nil]
     split
     · exact .inl ⟨this,rfl⟩
     · exact .inl ⟨this,rfl⟩
   · exact hs.ob.kill hf (by simp) p hp
theorem A4K (σ:St) (n k m:Nat) (e:TypeId) (t:Ty) (hm:100≤m):Wk σ (σ.nilBox n k m e t):=fun R0 w0 R a w hs=>by
 have h:=B6j hs hm e t
 have hh:(R.nil m).hd m=.slice none 0 0:=by simp[Rz.nil]
 have hC:∀p o,OR (R.nil m) w p o→OR (R.nil m) w p (B8P k m o):=by
  intro p o ho
  cases o with
  | box l =>
    simp only[B8P]
    split
    · rename_i hl
      obtain⟨us,T,h1,h2,h3⟩:=ho;refine⟨us,T,h1,h2,?_⟩
      obtain⟨u,hu,hv⟩:=h3.get k hl
      have hv:u=.slice none 0 0:=hv
      have:=h3.set k (c:=.ow m) (u:=u) (by show u=_;rw[hh];exact hv)
      have e2:us.toList.set k u=us.toList:=by
       apply List.ext_getElem?
       intro i;rw[List.getElem?_set]
       split
       · rename_i e;subst e
         split
         · exact hu.symm
         · rename_i hl';rw[List.getElem?_eq_none (by omega)]
       · rfl
      rwa [e2] at this
    · exact ho
  | row e t xs S=>exact ho
  | tree e t xs h=>exact ho
  | map t xs S=>exact ho
 have hN:∀l,obsOk (R.nil m) w l→obsOk (R.nil m) w (A5V n k m l):=by
  intro l
  induction l with
  | nil=>intro _ p hp;cases hp
  | cons q l ih =>
    intro hl p hp
    simp only[A5V,List.mem_cons] at hp
    rcases hp with rfl|hp
    · split
      · exact hC _ _ (hl q List.mem_cons_self)
      · exact hl q List.mem_cons_self
    · exact ih (fun p hp=>hl p (List.mem_cons_of_mem _ hp)) p hp
 refine⟨R.nil m,h.size,h.tm,fun p hp=>?_,h.os,h.tape,h.output,h.grow,h.keep,h.pl,h.defers,h.glob⟩
 rcases List.mem_cons.1 hp with rfl|hp
 · exact h.ob _ List.mem_cons_self
 · exact hN _ (fun p hp=>h.ob p (List.mem_cons_of_mem _ hp)) p hp
def A9W:List AV→AV
 | []=>.tup []
 | [v]=>v
 | v::u::l=>.tup (v::u::l)
def B2N (σ τ:St):Prop:=σ.toOk τ=true
theorem B3g {σ τ:St} (h:σ.toOk τ=true):B2N σ τ:=h
def B8J (P:Program) (results:List ResultVar) (r:AV) (o:List (Nat × Ob)) (σ:St):Prop :=
 match A6q P σ results with
 | some (c,vs)=>c∧B2N (St.mk [A9W vs] σ.ob) ⟨[r],o⟩∧((St.mk [A9W vs] σ.ob).to ⟨[r],o⟩).tm=[r]∧A7b o ((St.mk [A9W vs] σ.ob).to ⟨[r],o⟩).ob
 | none=>False
def C0m (P:Program) (results:List ResultVar) (r:AV) (o:List (Nat × Ob)):Exit→St→Prop
 | .normal,σ | .ret,σ=>B8J P results r o σ
 | _,_=>False
def St.initG (n:Nat) (l:List AV) (o:List (Nat × Ob)):St:=⟨l++List.replicate (n - l.length) (.c .bot),o⟩
def A11:(fs:List GF)→A4z fs→Prop
 | [],_=>True
 | .rd t::l,x=>t.lenOk x.1∧A11 l x.2
 | .ow _::l,x=>A11 l x.2
 | .fn _ _::l,x=>A11 l x.2
def GP.lenOk:(p:GP)→p.den→Prop
 | .val t,x=>t.lenOk x
 | .ptr t,x=>t.lenOk x
 | .one t,x=>t.lenOk x
 | .po _,_=>True
 | .ow _,_=>True
 | .ag fs,x=>A11 fs x
 | .fn _ _,_=>True
def A5I:(ps:List GP)→A1Z ps→Prop
 | [],_=>True
 | p::l,x=>p.lenOk x.1∧A5I l x.2
def GO.lenOk:(o:GO)→o.den→Prop
 | .box fs,x=>A11 fs x
 | .row _ t,xs=>xs.length≤9223372036854775807
 | .tree _ t,xs=>xs.length≤9223372036854775807∧∀x∈xs,t.lenOk x
 | .map t,xs=>True
def A5G:(os:List GO)→A2T os→Prop
 | [],_=>True
 | p::l,x=>p.lenOk x.1∧A5G l x.2
theorem VRs.split {R:Rz} {w:World} {l1 l2:List CV} {us:List Value}:VRs R w (l1++l2) us→∃u1 u2,us=u1++u2∧VRs R w l1 u1∧VRs R w l2 u2:=by
 induction l1 generalizing us with
 | nil=>intro h;exact⟨[],us,rfl,rfl,h⟩
 | cons c l1 ih =>
   intro h;obtain⟨u,us',rfl,h3,h4⟩:=h;obtain⟨u1,u2,rfl,h5,h6⟩:=ih h4
   exact⟨u::u1,u2,rfl,⟨u,u1,rfl,h3,h5⟩,h6⟩
theorem B0r {R:Rz} {w:World}:∀{fs:List GF} {x:A4z fs} {us:List Value},VRs R w (gfs fs x) us→A11 fs x:=by
 intro fs
 induction fs with
 | nil=>intro x us _;trivial
 | cons p fs ih =>
   intro x us h
   cases p with
   | rd t =>
     simp only[gfs] at h
     obtain⟨u1,u2,rfl,h1,h2⟩:=h.split;exact⟨h1.lenOk,ih h2⟩
   | ow k =>
     simp only[gfs] at h
     obtain⟨u,us',rfl,_,h2⟩:=h;exact ih (x:=x.2) h2
   | fn f ks =>
     simp only[gfs] at h
     obtain⟨u,us',rfl,_,h2⟩:=h;exact ih (x:=x.2) h2
theorem B5g {R:Rz} {w:World}:∀{ps:List GP} {x:A1Z ps} {us:List Value},VRt R w (A0b ps x) us→A5I ps x:=by
 intro ps
 induction ps with
 | nil=>intro x us _;trivial
 | cons p ps ih =>
   intro x us h
   simp only[A0b,VRt] at h
   obtain⟨u,us',rfl,h1,h2⟩:=h;refine⟨?_,ih h2⟩
   cases p with
   | val t=>exact h1.lenOk
   | ptr t =>
     simp only[GP.av,VR] at h1
     obtain⟨b,o,us,_,_,_,_,h3⟩:=h1;exact h3.lenOk
   | one t =>
     simp only[GP.av,VR] at h1
     obtain⟨us,rfl,h3⟩:=h1;exact h3.lenOk
   | po k=>trivial
   | ow k=>trivial
   | ag fs =>
     simp only[GP.av,VR] at h1
     obtain⟨us,rfl,h3⟩:=h1;exact B0r h3
   | fn f ks=>trivial
theorem B6D {R:Rz} {w:World}:∀{os:List GO} {i:Nat} {x:A2T os},obsOk R w (A57 i os x)→A5G os x:=by
 intro os
 induction os with
 | nil=>intro i x _;trivial
 | cons o os ih =>
   intro i x h
   refine⟨?_,ih (i:=i+1) fun p hp=>h p (by simp only[A57];exact List.mem_cons_of_mem _ hp)⟩
   have h1:=h (ioN i,o.ob x.1) (by simp[A57])
   cases o with
   | box fs =>
     obtain⟨us,T,_,_,h3⟩:=h1;exact B0r h3
   | row e t =>
     rcases h1 with⟨_,h2⟩|⟨cap,cur,_,_,_,h4,h5,_⟩
     · show x.1.length≤_;rw[h2];simp
     · show x.1.length≤_;unfold maxLen at h5;omega
   | map t=>trivial
   | tree e t =>
     rcases h1 with⟨_,h2⟩|⟨cap,cur,_,_,_,h4,h5,_,h7,_⟩
     · show x.1.length≤_∧_;rw[h2];simp
     · refine⟨by show x.1.length≤_;unfold maxLen at h5;omega,fun y hy=>?_⟩
       obtain⟨i,hi,rfl⟩:=List.mem_iff_getElem.1 hy
       exact(h7 i hi (by simp[j5])).rd.lenOk
theorem F1 {P:Program} {f:FuncId} {fn:Func} {code:Code} {k:GCon} (hf:P.funcs[f]?=some fn) (hb:fn.body=some code)
 (h:∀x,k.c x→A5I k.ps x.1→A5G k.os x.2→AWP P code (St.initG fn.ntmps (A0b k.ps x.1) (A57 0 k.os x.2)) (C0m P fn.results.toList (k.r x) (k.o x))):l6 P f k:=by
 intro x hc R w vs hg hv ho
 refine calls_of_wp hf hb ?_
 have hl:=hv.length
 simp only[Array.length_toList] at hl
 have hs:Sim R w R (St.initG fn.ntmps (A0b k.ps x.1) (A57 0 k.os x.2)) { tmps:=vs++Array.replicate (fn.ntmps - vs.size) undef,defers:=[] } w:=by
  refine⟨by simp[St.initG,hl],?_,ho,rfl,rfl,rfl,Nat.le_refl _,fun b _ _=>⟨rfl,rfl⟩,fun _ _ _=>⟨rfl,rfl⟩,rfl,hg⟩
  simp only[St.initG,Array.toList_append,Array.toList_replicate];rw[hl];exact hv.append (VRt.bots _ _)
 refine wp_mono (h x hc (B5g hv) (B6D ho) R w R _ w hs) fun e a' w' ⟨R',σ',h1,h2⟩=>?_
 have fin:B8J P fn.results.toList (k.r x) (k.o x) σ'→bodyPost P fn (fun e w'=>∃v R',e=.returned v∧VR R' w' (k.r x) v∧obsOk R' w' (k.o x)∧Keeps R w R' w'∧∀n,30≤n→n < 46→R'.hd n=R.hd n∧R'.bk n=R.bk n) .normal a' w':=fun hF=>by
  unfold B8J at hF
  split at hF
  case h_2=>exact hF.elim
  rename_i c vs' e1
  obtain⟨hc',g1,g2,g3⟩:=hF;obtain⟨us,q1,q2⟩:=B0k h1 e1 hc'
  have hlen:=q2.length
  have hres:∃v,(results fn a'.tmps).run P w'=.ok v w'∧VR R' w' (A9W vs') v:=by
   refine⟨if h:us.toArray.size=1 then us.toArray[0] else .tuple us.toArray,?_,?_⟩
   · have e:results fn a'.tmps=(do let vs ←fn.results.mapM (B5S a');pure (if h:vs.size=1 then vs[0] else .tuple vs)):=by
      unfold results
      congr 1
     rw[e,Sem.run_bind,Array.mapM_eq_mapM_toList,Sem.run_map,q1]
     rfl
   · match vs',us,hlen with
     | [],[],_=>simp only[A9W,VR];exact⟨#[],by simp,by simp[VRt]⟩
     | [p], [u], _ =>
       simp only[VRt] at q2
       obtain⟨u',us',e,h5,_⟩:=q2;cases e
       simpa [A9W] using h5
     | p :: q :: l, u :: u2 :: us, _ =>
       simp only[A9W,VR];exact⟨_,by rw[dif_neg (by simp)],by simpa using q2⟩
  obtain⟨v,r1,r2⟩:=hres
  have hs2:Sim R w R' ⟨[A9W vs'],σ'.ob⟩ { tmps:=#[v],defers:=[] } w' :=
   ⟨rfl,by simp only[VRt];exact⟨v,[],rfl,r2,rfl⟩,h1.ob,h1.os,h1.tape,h1.output,h1.grow,h1.keep,h1.pl,rfl,h1.glob⟩
  obtain⟨R2,hs3⟩:=B8T (τ:=⟨[k.r x],k.o x⟩) g1 ⟨g2,g3⟩ R w R' _ w' hs2
  have hv3:=hs3.tm
  simp only[VRt] at hv3
  obtain⟨u',us',e,h5,_⟩:=hv3;cases e
  exact⟨h1.defers,v,r1,v,R2,rfl,h5,hs3.ob,⟨hs3.os,hs3.tape,hs3.output,hs3.grow,hs3.keep⟩,hs3.pl⟩
 cases e<;>first|exact fin h2|exact h2.elim
attribute [go_sem] A6Q aop N6 St.ev St.get St.fin St.look A0k A65 B8D B7G B2j A7k A92 B7s B7j B3F A8O aUn B2d B8R B7O B38
attribute [go_sem] B9D A5T B36 A43 elT A0w T1 a9 okH l8 CV.gr AV.gr AV.grL Ob.gr A7U A4J B2a B53 A8Y A8m A90 e9 B8Y B7B A5s X3 A0G B1b A4x B1A B8P A5V B9z B0n St.nilBox St.nilSlot A9W B8J C0m St.initG ioP ioN A0b GP.av gfs GO.ob A57 Ty.ok2
attribute [go_sem] A6Z A8I B34 B7w B7D B8B A8b A82 B2v aMm A9i lenOf d6 x6 l7 B33 A0x y4 A4w rds
attribute [go_sem] A9O B2k B7J B7z A5E A89 A8S B8n Ob.map.injEq B5f Option.some_or Option.none_or
attribute [go_sem] A9g A67 uni nm cellsOf A9a A5r splice A07 Ty.w Ty.dflt Value.oneCell' M0 AV.killL AV.kill CV.kill CV.hit CV.srcs CV.ids Ob.kill
attribute [go_sem] List.getElem?_cons_zero List.getElem?_cons_succ List.set_cons_zero List.set_cons_succ Option.getD_some List.isEmpty_nil List.isEmpty_cons Bool.and_self Bool.true_and Bool.and_true Bool.false_and Bool.and_false if_true if_false ite_true ite_false Bool.false_eq_true List.nil_append List.cons_append List.append_nil
attribute [go_sem] List.map_cons List.map_nil List.any_cons List.any_nil List.all_cons List.all_nil List.filter_cons List.filter_nil List.contains_cons List.contains_nil Bool.or_false Bool.false_or Bool.or_self true_and and_true and_self Option.some.injEq beq_self_eq_true BEq.rfl dite_true
attribute [go_sem] List.take_zero List.take_succ_cons List.drop_succ_cons List.drop_zero List.take_nil List.drop_nil List.length_cons List.length_nil decide_true decide_false Option.isSome_some Option.map_some List.range_zero not_true_eq_false not_false_eq_true Nat.zero_mul Nat.one_mul Nat.mul_one Nat.zero_add Nat.add_zero
attribute [go_sem] Option.getD_none ne_eq List.range_succ Bool.not_true Bool.not_false A6q B85 A8D A97 A32 Fin or_false false_or or_self true_or or_true false_and and_false C0O A61 St.setb A3a A1Y St.to St.keep Y1 A4c
attribute [go_sem] AV.isBot prs B3b pAV pCV B7l B6b pOb B2z B4x St.ren AV.renL AV.ren CV.ren Ob.ren B4Z ddp fL A7b avs
attribute [go_sem] List.zip_cons_cons List.zip_nil_left List.zip_nil_right
attribute [go_sem] zz
attribute [go_sem] PK.av Ty.av A6G A81 B6f S0 T8 A1B A3B Y5 X4 A01 nms Ty.flat Ty.rows R9 A7Y B0t A64
attribute [go_sem] List.headD_cons List.headD_nil List.getElem?_toArray List.replicate_succ List.replicate_zero List.getElem?_nil AV.c.injEq CV.sc.injEq CV.rd.injEq CV.ow.injEq CV.po.injEq Value.int.injEq Value.bool.injEq Ob.row.injEq Ob.box.injEq Prod.mk.injEq List.cons.injEq heq_eq_eq List.flatMap_cons List.flatMap_nil
attribute [go_sem] bne_self_eq_false Function.comp_apply List.filterMap_cons_some List.filterMap_nil id_eq List.map_append Option.isSome_none
attribute [go_sem ↓] B5W B6v B6F B6a
attribute [go_sem] true_implies false_implies implies_true
attribute [go_sem] Nat.reduceEqDiff Nat.reduceMul Nat.reduceAdd Nat.reduceBEq Nat.reduceLT Nat.reduceLeDiff Nat.reducePow reduceIte reduceDIte Nat.reduceSub Nat.reduceBNe Nat.reduceGT Int.reduceNeg reduceCtorEq Int.reduceToNat
open Go.RowKit
theorem A9A {S N N':List Nat}:S.any (fun n=>(N++N').contains n)=(S.any (fun n=>N.contains n) || S.any (fun n=>N'.contains n)):=by
 induction S with
 | nil=>rfl
 | cons n S ih =>
   simp only[List.any_cons,ih,List.contains_iff_mem,List.mem_append,Bool.decide_or];rw[List.contains_eq_mem,List.contains_eq_mem,List.contains_eq_mem];simp only[List.mem_append,Bool.decide_or];cases decide (n∈N)<;>cases decide (n∈N')<;>cases (S.any fun n=>N.contains n)<;>simp
theorem CV.kill_kill (c:CV) (N M N' M':List Nat):(c.kill N M).kill N' M'=c.kill (N++N') (M++M'):=by
 have e:c.hit (N++N') (M++M')=(c.hit N M || c.hit N' M'):=by
  simp only[CV.hit,A9A];cases (c.srcs.any fun n=>N.contains n)<;>cases (c.srcs.any fun n=>N'.contains n)<;>cases (c.ids.any fun n=>M.contains n)<;>simp
 unfold CV.kill
 rw[e];cases h:c.hit N M with
 | true=>simp[CV.hit,CV.srcs,CV.ids]
 | false=>simp
mutual
theorem AV.kill_kill (x:AV) (N M N' M':List Nat):(x.kill N M).kill N' M'=x.kill (N++N') (M++M'):=by
 match x with
 | .c q=>simp only[AV.kill,CV.kill_kill]
 | .agg l=>simp only[AV.kill,List.map_map];congr 1;exact List.map_congr_left fun c _=>CV.kill_kill c N M N' M'
 | .tup l=>simp only[AV.kill,AV.killL_killL l N M N' M']
theorem AV.killL_killL (l:List AV) (N M N' M':List Nat):AV.killL N' M' (AV.killL N M l)=AV.killL (N++N') (M++M') l:=by
 match l with
 | []=>rfl
 | x::l=>simp only[AV.killL,AV.kill_kill x N M N' M',AV.killL_killL l N M N' M']
end
theorem Ob.kill_kill {o o1 o2:Ob} {N M N' M':List Nat} (h:o.kill N M=some o1) (k:o1.kill N' M'=some o2):o.kill (N++N') (M++M')=some o2:=by
 cases o with
 | box l =>
   simp only[Ob.kill,Option.some.injEq] at h
   subst h;simp only[Ob.kill,Option.some.injEq] at k ⊢
   rw[←k,List.map_map]
   congr 1
   exact List.map_congr_left fun c _=>(CV.kill_kill c N M N' M').symm
 | row e t xs S =>
   simp only[Ob.kill] at h
   split at h
   · cases h
   rename_i h1
   cases h
   simp only[Ob.kill] at k ⊢
   split at k
   · cases k
   rename_i h2
   rw[A9A,if_neg (by simpa using ⟨by simpa using h1,by simpa using h2⟩)]
   exact k
 | tree e t xs h'=>simp only[Ob.kill,Option.some.injEq] at h;subst h;simpa only [Ob.kill] using k
 | map t xs S =>
   simp only[Ob.kill] at h
   split at h
   · cases h
   rename_i h1
   cases h
   simp only[Ob.kill] at k ⊢
   split at k
   · cases k
   rename_i h2
   rw[A9A,if_neg (by simpa using ⟨by simpa using h1,by simpa using h2⟩)]
   exact k
theorem A5A {S N Z:List Nat} (h:∀n∈N,n∈Z):S.any (fun n=>(Z++N).contains n)=S.any (fun n=>Z.contains n):=by
 congr 1
 funext n
 rw[List.contains_eq_mem,List.contains_eq_mem]
 congr 1
 simp only[List.mem_append,eq_iff_iff];exact⟨fun h'=>h'.elim id (h n),.inl⟩
theorem CV.kill_sub {c:CV} {N M ZN ZM:List Nat} (h1:∀n∈N,n∈ZN) (h2:∀n∈M,n∈ZM):c.kill (ZN++N) (ZM++M)=c.kill ZN ZM:=by
 unfold CV.kill CV.hit
 rw[A5A h1,A5A h2]
mutual
theorem AV.kill_sub {x:AV} {N M ZN ZM:List Nat} (h1:∀n∈N,n∈ZN) (h2:∀n∈M,n∈ZM):x.kill (ZN++N) (ZM++M)=x.kill ZN ZM:=by
 match x with
 | .c q=>simp only[AV.kill,CV.kill_sub h1 h2]
 | .agg l=>simp only[AV.kill];congr 1;exact List.map_congr_left fun c _=>CV.kill_sub h1 h2
 | .tup l=>simp only[AV.kill,AV.killL_sub (l:=l) h1 h2]
theorem AV.killL_sub {l:List AV} {N M ZN ZM:List Nat} (h1:∀n∈N,n∈ZN) (h2:∀n∈M,n∈ZM):AV.killL (ZN++N) (ZM++M) l=AV.killL ZN ZM l:=by
 match l with
 | []=>rfl
 | x::l=>simp only[AV.killL,AV.kill_sub (x:=x) h1 h2,AV.killL_sub (l:=l) h1 h2]
end
theorem Ob.kill_sub {o:Ob} {N M ZN ZM:List Nat} (h1:∀n∈N,n∈ZN) (h2:∀n∈M,n∈ZM):o.kill (ZN++N) (ZM++M)=o.kill ZN ZM:=by
 cases o with
 | box l=>simp only[Ob.kill];congr 2;exact List.map_congr_left fun c _=>CV.kill_sub h1 h2
 | row e t xs S=>simp only[Ob.kill];rw[A5A h1]
 | tree e t xs h'=>rfl
 | map t xs S=>simp only[Ob.kill];rw[A5A h1]
section
variable {R R':Rz} {w w':World} {N M ZN ZM:List Nat}
theorem VR.stay {x:AV} {u:Value} (h:VR R w (x.kill ZN ZM) u) (hf:FR N M R w R' w') (h0:0 ∉ N) (h1:∀n∈N,n∈ZN) (h2:∀n∈M,n∈ZM):VR R' w' (x.kill ZN ZM) u:=by
 have:=VR.kill h hf h0
 rwa [AV.kill_kill,AV.kill_sub h1 h2] at this
theorem OR.stay {n:Nat} {o o':Ob} (h:OR R w n o') (ho:o.kill ZN ZM=some o') (hn:n ∉ ZN) (hm:n ∉ ZM) (hf:FR N M R w R' w') (h0:0 ∉ N) (h1:∀n∈N,n∈ZN) (h2:∀n∈M,n∈ZM):OR R' w' n o':=by
 have e:o'.kill N M=some o':=by
  have h3:o.kill (ZN++N) (ZM++M)=some o':=by rw[Ob.kill_sub h1 h2];exact ho
  cases o with
  | box l =>
    simp only[Ob.kill,Option.some.injEq] at ho h3 ⊢
    subst ho;simp only[Ob.kill,Option.some.injEq];rw[←h3,List.map_map]
    congr 1
    exact List.map_congr_left fun c _=>CV.kill_kill c ZN ZM N M
  | row e t xs S =>
    simp only[Ob.kill] at ho
    split at ho
    · cases ho
    rename_i h4
    cases ho
    simp only[Ob.kill];rw[if_neg];intro h5
    apply h4
    obtain⟨m,hm1,hm2⟩:=List.any_eq_true.1 h5
    exact List.any_eq_true.2 ⟨m,hm1,by simpa using h1 m (by simpa using hm2)⟩
  | tree e t xs h'=>simp only[Ob.kill,Option.some.injEq] at ho;subst ho;rfl
  | map t xs S =>
    simp only[Ob.kill] at ho
    split at ho
    · cases ho
    rename_i h4
    cases ho
    simp only[Ob.kill];rw[if_neg];intro h5
    apply h4
    obtain⟨m,hm1,hm2⟩:=List.any_eq_true.1 h5
    exact List.any_eq_true.2 ⟨m,hm1,by simpa using h1 m (by simpa using hm2)⟩
 exact OR.kill h hf h0 (fun h=>hn (h1 n h)) (fun h=>hm (h2 n h)) e
theorem VR.weaker {x:AV} {u:Value} (h:VR R w x u):VR R w (x.kill ZN ZM) u:=by
 by_cases h0:0∈ZN
 · have hc:∀(c:CV) (u:Value),VRc R w c u→VRc R w (c.kill ZN ZM) u:=fun c u h=>by
    unfold CV.kill;split
    · trivial
    · exact h
   have hs:∀(l:List CV) (us:List Value),VRs R w l us→VRs R w (l.map (CV.kill ZN ZM)) us:=by
    intro l
    induction l with
    | nil=>intro us h;exact h
    | cons c l ih=>intro us h;obtain⟨u,us',rfl,h1,h2⟩:=h;exact⟨u,us',rfl,hc c u h1,ih us' h2⟩
   refine AV.rec (motive_1:=fun x=>∀u,VR R w x u→VR R w (x.kill ZN ZM) u) (motive_2:=fun l=>∀us,VRt R w l us→VRt R w (AV.killL ZN ZM l) us) ?_ ?_ ?_ ?_ ?_ x u h
   · intro c u h;simp only[VR,AV.kill] at h ⊢;exact hc c u h
   · intro l u h;simp only[VR,AV.kill] at h ⊢;obtain⟨us,rfl,h1⟩:=h;exact⟨us,rfl,hs l _ h1⟩
   · intro l ih u h;simp only[VR,AV.kill] at h ⊢;obtain⟨us,rfl,h1⟩:=h;exact⟨us,rfl,ih _ h1⟩
   · intro us h;simpa only [VRt,AV.killL] using h
   · intro x l h1 h2 us h;simp only[VRt,AV.killL] at h ⊢;obtain⟨u,us',rfl,h3,h4⟩:=h;exact⟨u,us',rfl,h1 u h3,h2 us' h4⟩
 · exact VR.kill h (FR.refl _ _ _ _) h0
end
structure DR where
 run:Bool
 r:Res
def DR.none:DR:=⟨false,⟨True,.c (.sc (.tuple #[])),[],[],[]⟩⟩
def T5 (o:Oper):List Nat:=o.op.operands.toList.filterMap fun | .tmp t=>some t|_=>Option.none
def ctD:List Nat→List Nat
 | []=>[]
 | n::l=>n % 1000000::ctD l
def mvD:List Nat→List Nat
 | []=>[]
 | n::l=>match decide (n < 1000000) with|true=>n::mvD l|false=>mvD l
theorem B2x {D:List Nat} {m:Nat}:m∈ctD D↔∃n∈D,n % 1000000=m:=by
 induction D with
 | nil=>simp[ctD]
 | cons n l ih => simp only [ctD, List.mem_cons, ih]; constructor
                  · rintro (rfl|⟨q,h1,h2⟩)
                    · exact⟨n,.inl rfl,rfl⟩
                    · exact⟨q,.inr h1,h2⟩
                  · rintro⟨q,rfl|h1,h2⟩
                    · exact .inl h2.symm
                    · exact .inr ⟨q,h1,h2⟩
theorem B2u {D:List Nat} {m:Nat}:m∈mvD D↔m∈D∧m < 1000000:=by
 induction D with
 | nil=>simp[mvD]
 | cons n l ih =>
   simp only[mvD]
   by_cases h:n < 1000000
   · rw[decide_eq_true h];simp only[List.mem_cons,ih];constructor
     · rintro (rfl|⟨h1,h2⟩)
       · exact⟨.inl rfl,h⟩
       · exact⟨.inr h1,h2⟩
     · rintro⟨rfl|h1,h2⟩
       · exact .inl rfl
       · exact .inr ⟨h1,h2⟩
   · rw[decide_eq_false h];simp only[List.mem_cons,ih];constructor
     · rintro⟨h1,h2⟩;exact⟨.inr h1,h2⟩
     · rintro⟨rfl|h1,h2⟩
       · exact absurd h2 h
       · exact⟨h1,h2⟩
theorem A3O {D D':List Nat} (h:∀m∈D,m∈D'):∀m∈ctD D,m∈ctD D':=fun m hm=>by
 obtain⟨n,h1,h2⟩:=B2x.1 hm
 exact B2x.2 ⟨n,h _ h1,h2⟩
theorem A5M {D D':List Nat} (h:∀m∈D,m∈D'):∀m∈mvD D,m∈mvD D':=fun m hm=>by
 obtain⟨h1,h2⟩:=B2u.1 hm
 exact B2u.2 ⟨h _ h1,h2⟩
def sB (σ:St) (l D:List Nat):St:=⟨AV.killL (ctD D) (mvD D) (Y1 l 0 σ.tm),M0 (ctD D) (mvD D) σ.ob⟩
def A2K (σ:St) (d:Option Tmp) (D:List Nat) (r:Res):St:=σ.fin d r.N r.M (r.r.kill (ctD D) (mvD D)) (M0 (ctD D) (mvD D) r.news)
def A1f (P:Program) (G:TypeId→Option Ty) (T:G4) (dn:List (List Nat)) (all:List Oper):List Oper→Nat→St→List DR→(St→List DR→Prop)→Prop
 | [],_,σ,acc,K=>K σ acc
 | o :: l, i, σ, acc, K => match o.guard with
   | none => match aop P G T (sB σ (T5 o) (dn.getD i [])) o with
     | some r=>r.c∧A1f P G T dn all l (i+1) (A2K σ o.dst (dn.getD i []) r) (acc++[⟨true,r⟩]) K
     | none=>False
   | some (j, want) => match A1Y σ all j with
     | true=>A1f P G T dn all l (i+1) (A2K σ o.dst (dn.getD i []) DR.none.r) (acc++[DR.none]) K
     | false=>match A3a σ all j with
     | some (d,b)=>A0V b want (match aop P G T (sB (σ.setb d want) (T5 o) (dn.getD i [])) o with
      | some r=>r.c∧A1f P G T dn all l (i+1) (A2K (σ.setb d want) o.dst (dn.getD i []) r) (acc++[⟨true,r⟩]) K
      | none=>False)
      (A1f P G T dn all l (i+1) (A2K (σ.setb d (!want)) o.dst (dn.getD i []) DR.none.r) (acc++[DR.none]) K)
     | none=>False
inductive DTr (P:Program) (G:TypeId→Option Ty) (T:G4) (dn:List (List Nat)) (all:List Oper):List Oper→Nat→St→List DR→St→Prop
 | nil (i:Nat) (σ:St):DTr P G T dn all [] i σ [] σ
 | run {o l i σ r rs σ'} (hg:o.guard=none∨∃j want d,o.guard=some (j,want)∧A3a σ all j=some (d,want)) (h:aop P G T (sB σ (T5 o) (dn.getD i [])) o=some r) (hc:r.c)
  (k:DTr P G T dn all l (i+1) (A2K σ o.dst (dn.getD i []) r) rs σ'):DTr P G T dn all (o::l) i σ (⟨true,r⟩::rs) σ'
 | skip {o l i σ rs σ'} (hg:∃j want,o.guard=some (j,want)∧((∃d,A3a σ all j=some (d,!want))∨A1Y σ all j=true))
  (k:DTr P G T dn all l (i+1) (A2K σ o.dst (dn.getD i []) DR.none.r) rs σ'):DTr P G T dn all (o::l) i σ (DR.none::rs) σ'
theorem A7f {σ:St} {d:Tmp} {b:Bool} (h:σ.get d=.c (.sc (.bool b))):σ.setb d b=σ:=by
 unfold St.setb
 unfold St.get at h
 cases hd:σ.tm[d]? with
 | none=>rw[hd] at h;simp at h
 | some x =>
   rw[hd] at h;simp only[Option.getD_some] at h
   subst h
   have:σ.tm.set d (.c (.sc (.bool b)))=σ.tm:=by
    apply List.ext_getElem?
    intro i;rw[List.getElem?_set]
    split
    · rename_i e;subst e
      split
      · exact hd.symm
      · rename_i hl;rw[List.getElem?_eq_none (by omega)]
    · rfl
   rw[this]
theorem B0V {σ:St} {ops:List Oper} {j:Nat} {d:Tmp} {b:Bool} (h:A3a σ ops j=some (d,b)):∃oj,ops[j]?=some oj∧oj.dst=some d∧σ.get d=.c (.sc (.bool b)):=by
 unfold A3a at h
 split at h
 case h_2=>cases h
 rename_i oj e1
 split at h
 case h_2=>cases h
 rename_i d' e2
 split at h
 case h_2=>cases h
 rename_i b' e3
 cases h
 exact⟨oj,e1,e2,e3⟩
theorem B6W {P:Program} {G:TypeId→Option Ty} {T:G4} {dn:List (List Nat)} {all:List Oper} {K:St→List DR→Prop}:∀(l:List Oper) (i:Nat) (σ:St) (acc:List DR),
 A1f P G T dn all l i σ acc K→∃rs σ',DTr P G T dn all l i σ rs σ'∧K σ' (acc++rs):=by
 intro l
 induction l with
 | nil=>intro i σ acc h;exact⟨[],σ,.nil i σ,by simpa [A1f] using h⟩
 | cons o l ih =>
   intro i σ acc h
   simp only[A1f] at h
   split at h
   · rename_i hg
     split at h
     case h_2=>exact h.elim
     rename_i r e1
     obtain⟨rs,σ',h1,h2⟩:=ih _ _ _ h.2
     exact⟨_,σ',.run (.inl hg) e1 h.1 h1,by simpa using h2⟩
   · rename_i j want hg
     split at h
     · rename_i e1
       obtain⟨rs,σ',h2,h3⟩:=ih _ _ _ h
       exact⟨_,σ',.skip ⟨j,want,hg,.inr e1⟩ h2,by simpa using h3⟩
     split at h
     case h_2=>exact h.elim
     rename_i d b e1
     obtain⟨oj,e2,e3,e4⟩:=B0V e1
     by_cases hb:b=want
     · subst hb;have h1:=h.1 rfl
       rw[A7f e4] at h1
       split at h1
       case h_2=>exact h1.elim
       rename_i r e5
       obtain⟨rs,σ',h2,h3⟩:=ih _ _ _ h1.2
       exact⟨_,σ',.run (.inr ⟨j,b,d,hg,e1⟩) e5 h1.1 h2,by simpa using h3⟩
     · have hb2:b=!want:=by cases b<;>cases want<;>simp_all
       have h1:=h.2 hb2
       rw[hb2] at e4;rw[A7f e4] at h1;obtain⟨rs,σ',h2,h3⟩:=ih _ _ _ h1
       exact⟨_,σ',.skip ⟨j,want,hg,.inl ⟨d,by rw[e1,hb2]⟩⟩ h2,by simpa using h3⟩
open Go.RowKit
def B4B (ops:List Oper):List Nat:=ops.filterMap (·.dst)
def M5 (bf:List (List Nat)) (i:Nat):List Nat:=bf.getD i []
def A14 (bf:List (List Nat)) (i k:Nat):Bool:=i != k && !(M5 bf i).contains k && !(M5 bf k).contains i
def B7W (ops:List Oper) (bf dn dc:List (List Nat)):Bool :=
 decide (B4B ops).Nodup && (List.range ops.length).all fun i=>match ops[i]? with
  | none=>true
  | some o =>
    (match o.op with | .select ..=>false|_=>true) &&
    (o.after.toList.all fun e=>!Region.binds .any e || decide (e.on < i)) &&
    ((M5 bf i).all fun j=>decide (j < i) && o.after.toList.any fun e=>Region.binds .any e && (e.on == j || (M5 bf e.on).contains j)) &&
    ((T5 o).all fun t=>(List.range ops.length).all fun j=>match ops[j]? with
     | some oj=>!(oj.dst == some t) || j == i || (M5 bf i).contains j || (M5 bf j).contains i
     | none=>true) &&
    (match o.guard with|some (j,_)=>(M5 bf i).contains j|none=>true) &&
    (List.range ops.length).all fun k=>!A14 bf i k || (M5 dc k).all fun m=>(M5 dn i).contains m
def B06 (n:Nat) (bf dc:List (List Nat)):Nat→List DR→Bool
 | _,[]=>true
 | k,d::rs=>((List.range n).all (fun i=>!A14 bf i k) || (d.r.N.all (fun m=>(ctD (M5 dc k)).contains m) && d.r.M.all (fun m=>(mvD (M5 dc k)).contains m) && d.r.news.all fun p=>(ctD (M5 dc k)).contains p.1)) && B06 n bf dc (k+1) rs
section
variable (σ0:St) (ops:List Oper) (dn:List (List Nat)) (rs:List DR)
def J5 (j:Nat):Option Tmp:=(ops[j]?).bind (·.dst)
def Rr (j:Nat):Res:=(rs.getD j DR.none).r
def sT:Nat→St
 | 0=>σ0
 | m+1=>A2K (sT m) (J5 ops m) (dn.getD m []) (Rr rs m)
def cat (f:Nat→List Nat) (lo hi:Nat):List Nat:=(List.range' lo (hi - lo)).flatMap f
end
theorem y7 {f:Nat→List Nat} {lo hi n:Nat}:n∈cat f lo hi↔∃k,lo≤k∧k < hi∧n∈f k:=by
 simp only[cat,List.mem_flatMap,List.mem_range'_1]
 constructor
 · rintro⟨k,hk,h⟩;exact⟨k,hk.1,by omega,h⟩
 · rintro⟨k,h1,h2,h⟩;exact⟨k,⟨h1,by omega⟩,h⟩
theorem R8 {f:Nat→List Nat} {lo m:Nat} (h:lo≤m):cat f lo (m+1)=cat f lo m++f m:=by
 unfold cat;rw[show m+1 - lo=(m - lo)+1 by omega,List.range'_concat,List.flatMap_append]
 simp[show lo+(m - lo)=m by omega]
theorem T2 {f:Nat→List Nat} {m:Nat}:cat f m m=[]:=by simp[cat]
theorem CV.kill_nil (c:CV):c.kill [] []=c:=by simp[CV.kill,CV.hit]
mutual
theorem AV.kill_nil (x:AV):x.kill [] []=x:=by
 match x with
 | .c q=>simp only[AV.kill,CV.kill_nil]
 | .agg l=>simp only[AV.kill];congr 1;exact(List.map_congr_left fun c _=>CV.kill_nil c).trans (List.map_id _)
 | .tup l=>simp only[AV.kill,AV.killL_nil l]
theorem AV.killL_nil (l:List AV):AV.killL [] [] l=l:=by
 match l with
 | []=>rfl
 | x::l=>simp only[AV.killL,AV.kill_nil x,AV.killL_nil l]
end
theorem A2E (N M:List Nat) (l:List AV) (t:Nat):((AV.killL N M l)[t]?).getD (.c .bot)=((l[t]?).getD (.c .bot)).kill N M:=by
 induction l generalizing t with
 | nil=>simp[AV.killL,AV.kill,CV.kill,CV.hit,CV.srcs,CV.ids]
 | cons x l ih =>
   cases t with
   | zero=>simp[AV.killL]
   | succ t=>simpa [AV.killL] using ih t
theorem A0u (N M:List Nat) (l:List AV):(AV.killL N M l).length=l.length:=by
 induction l with
 | nil=>rfl
 | cons x l ih=>simp[AV.killL,ih]
theorem B2s {σ:St} {d:Option Tmp} {N M:List Nat} {r:AV} {news:List (Nat × Ob)} (t:Nat):(σ.fin d N M r news).get t=if d=some t∧t < σ.tm.length then r else (σ.get t).kill N M:=by
 have e:(if N.isEmpty && M.isEmpty then σ.tm else AV.killL N M σ.tm)=AV.killL N M σ.tm:=by
  split
  · rename_i h
    simp only[Bool.and_eq_true,List.isEmpty_iff] at h
    obtain⟨rfl,rfl⟩:=h;rw[AV.killL_nil]
  · rfl
 unfold St.get St.fin
 simp only[e];cases d with
 | none=>simp only[reduceCtorEq,false_and,if_false];exact A2E N M σ.tm t
 | some d =>
   simp only[Option.some.injEq,List.getElem?_set,A0u]
   by_cases h:d=t
   · subst h
     by_cases h2:d < σ.tm.length
     · simp[h2]
     · simp only[h2,and_false,if_false,if_true,Option.getD_none];have e2:σ.tm[d]?=none:=List.getElem?_eq_none (Nat.le_of_not_lt h2)
       rw[e2];simp[AV.kill,CV.kill,CV.hit,CV.srcs,CV.ids]
   · simp only[h,false_and,if_false];exact A2E N M σ.tm t
theorem B1d {σ:St} {d:Option Tmp} {N M:List Nat} {r:AV} {news:List (Nat × Ob)}:(σ.fin d N M r news).tm.length=σ.tm.length:=by
 unfold St.fin
 cases d<;>simp only[]<;>split<;>simp[A0u]
theorem B9S {σ:St} {d:Option Tmp} {N M:List Nat} {r:AV} {news:List (Nat × Ob)} {p:Nat × Ob} (h:p∈(σ.fin d N M r news).ob) :
 p∈news∨∃q∈σ.ob,q.1=p.1∧q.1 ∉ N∧q.1 ∉ M∧q.2.kill N M=some p.2:=by
 simp only[St.fin,List.mem_append] at h
 rcases h with h|h
 · exact .inl h
 · right
   split at h
   · rename_i e
     simp only[Bool.and_eq_true,List.isEmpty_iff] at e
     obtain⟨rfl,rfl⟩:=e;refine⟨p,h,rfl,by simp,by simp,?_⟩
     cases p.2 with
     | box l=>simp only[Ob.kill];congr 2;exact(List.map_congr_left fun c _=>CV.kill_nil c).trans (List.map_id _)
     | row e t xs S=>simp[Ob.kill]
     | tree e t xs h'=>simp[Ob.kill]
     | map t xs S=>simp[Ob.kill]
   · obtain⟨q,h1,h2,h3,h4,h5⟩:=A3N h
     exact⟨q,h1,h2.symm,h3,h4,h5⟩
section
variable {σ0:St} {ops:List Oper} {dn:List (List Nat)} {rs:List DR}
theorem A0F (m:Nat):(sT σ0 ops dn rs m).tm.length=σ0.tm.length:=by
 induction m with
 | zero=>rfl
 | succ m ih=>simp only[sT,A2K,B1d,ih]
abbrev Nk (rs:List DR) (k:Nat):List Nat:=(Rr rs k).N
abbrev Mk (rs:List DR) (k:Nat):List Nat:=(Rr rs k).M
theorem B5e {t:Nat}:∀m,(∀j,j < m→J5 ops j≠some t)→(sT σ0 ops dn rs m).get t=(σ0.get t).kill (cat (Nk rs) 0 m) (cat (Mk rs) 0 m):=by
 intro m
 induction m with
 | zero=>intro _;simp only[sT,T2,AV.kill_nil]
 | succ m ih =>
   intro h;have h1:=ih fun j hj=>h j (by omega)
   simp only[sT,A2K,B2s];rw[if_neg (fun hh=>h m (by omega) hh.1),h1,AV.kill_kill,←R8 (Nat.zero_le m),←R8 (Nat.zero_le m)]
theorem B5B {t j:Nat} (hj:J5 ops j=some t) (ht:t < σ0.tm.length) (hd:∀k,J5 ops k=some t→k=j):∀m,j < m →
 (sT σ0 ops dn rs m).get t=(Rr rs j).r.kill (ctD (dn.getD j [])++cat (Nk rs) (j+1) m) (mvD (dn.getD j [])++cat (Mk rs) (j+1) m):=by
 intro m hm
 induction m with
 | zero=>omega
 | succ m ih =>
   simp only[sT,A2K,B2s,A0F]
   by_cases e:m=j
   · subst e;rw[if_pos ⟨hj,ht⟩,T2,T2,List.append_nil,List.append_nil]
   · rw[if_neg (fun hh=>e (hd m hh.1)),ih (by omega),AV.kill_kill,List.append_assoc,List.append_assoc,←R8 (by omega),←R8 (by omega)]
theorem B8V {p:Nat × Ob}:∀m,p∈(sT σ0 ops dn rs m).ob →
 (∃q∈σ0.ob,q.1=p.1∧q.1 ∉ cat (Nk rs) 0 m∧q.1 ∉ cat (Mk rs) 0 m∧q.2.kill (cat (Nk rs) 0 m) (cat (Mk rs) 0 m)=some p.2) ∨
 ∃ j, j < m ∧ ∃ q ∈ (Rr rs j).news, q.1 = p.1 ∧ q.1 ∉ ctD (dn.getD j []) ++ cat (Nk rs) (j + 1) m ∧ q.1 ∉ mvD (dn.getD j []) ++ cat (Mk rs) (j + 1) m ∧
   q.2.kill (ctD (dn.getD j [])++cat (Nk rs) (j+1) m) (mvD (dn.getD j [])++cat (Mk rs) (j+1) m)=some p.2:=by
 intro m
 induction m generalizing p with
 | zero =>
   intro h;refine .inl ⟨p,h,rfl,by simp[T2],by simp[T2],?_⟩
   rw[T2,T2];cases p.2 with
   | box l=>simp only[Ob.kill];congr 2;exact(List.map_congr_left fun c _=>CV.kill_nil c).trans (List.map_id _)
   | row e t xs S=>simp[Ob.kill]
   | tree e t xs h'=>simp[Ob.kill]
   | map t xs S=>simp[Ob.kill]
 | succ m ih =>
   intro h;simp only[sT,A2K] at h
   rcases B9S h with h|⟨q,h1,h2,h3,h4,h5⟩
   · obtain⟨q,h1,h2,h3,h4,h5⟩:=A3N h
     exact .inr ⟨m,by omega,q,h1,h2.symm,by simpa [T2] using h3,by simpa [T2] using h4,by rw[T2,T2,List.append_nil,List.append_nil];exact h5⟩
   · rcases ih h1 with⟨q',k1,k2,k3,k4,k5⟩|⟨j,hj,q',k1,k2,k3,k4,k5⟩
     · refine .inl ⟨q',k1,k2.trans h2,?_,?_,?_⟩
       · rw[R8 (Nat.zero_le m),List.mem_append];exact fun hh=>hh.elim k3 (fun hh=>h3 (k2 ▸ hh))
       · rw[R8 (Nat.zero_le m),List.mem_append];exact fun hh=>hh.elim k4 (fun hh=>h4 (k2 ▸ hh))
       · rw[R8 (Nat.zero_le m),R8 (Nat.zero_le m)];exact Ob.kill_kill k5 h5
     · refine .inr ⟨j,by omega,q',k1,k2.trans h2,?_,?_,?_⟩
       · rw[R8 (by omega),←List.append_assoc,List.mem_append];exact fun hh=>hh.elim k3 (fun hh=>h3 (k2 ▸ hh))
       · rw[R8 (by omega),←List.append_assoc,List.mem_append];exact fun hh=>hh.elim k4 (fun hh=>h4 (k2 ▸ hh))
       · rw[R8 (by omega),R8 (by omega),←List.append_assoc,←List.append_assoc];exact Ob.kill_kill k5 h5
end
structure Inv (R0:Rz) (w0:World) (σ0:St) (ops:List Oper) (bf:List (List Nat)) (rs:List DR) (E:Nat→Prop) (R:Rz) (a:Act) (w:World):Prop where
 size:a.tmps.size=σ0.tm.length
 s0:∀t,(∀j,E j→J5 ops j≠some t)→∀ZN ZM,(∀k,E k→(∀n∈Nk rs k,n∈ZN)∧(∀n∈Mk rs k,n∈ZM))→VR R w ((σ0.get t).kill ZN ZM) (a.tmps.getD t undef)
 s1:∀j t,E j→J5 ops j=some t→t < σ0.tm.length→∀ZN ZM,(∀k,E k→k≠j→k ∉ M5 bf j→(∀n∈Nk rs k,n∈ZN)∧(∀n∈Mk rs k,n∈ZM))→VR R w ((Rr rs j).r.kill ZN ZM) (a.tmps.getD t undef)
 o0:∀q∈σ0.ob,∀ZN ZM o',(∀k,E k→(∀n∈Nk rs k,n∈ZN)∧(∀n∈Mk rs k,n∈ZM))→q.1 ∉ ZN→q.1 ∉ ZM→q.2.kill ZN ZM=some o'→OR R w q.1 o'
 o1:∀j,E j→∀q∈(Rr rs j).news,∀ZN ZM o',(∀k,E k→k≠j→k ∉ M5 bf j→(∀n∈Nk rs k,n∈ZN)∧(∀n∈Mk rs k,n∈ZM))→q.1 ∉ ZN→q.1 ∉ ZM→q.2.kill ZN ZM=some o'→OR R w q.1 o'
 os:w.os=w0.os
 tape:w.tape=w0.tape
 output:w.output=w0.output
 grow:w0.heap.size≤w.heap.size
 keep:∀b,b < w0.heap.size→R0.root b≤5→w.heap[b]?=w0.heap[b]?∧R.root b=R0.root b
 pl:∀n,30≤n→n < 46→R.hd n=R0.hd n∧R.bk n=R0.bk n
 defers:a.defers=[]
 glob:Glob R0 w0
theorem B1V {R:Rz} {w:World}:∀{l:List AV} {us:List Value},us.length=l.length→(∀t:Nat,VR R w ((l[t]?).getD (.c .bot)) ((us[t]?).getD undef))→VRt R w l us:=by
 intro l
 induction l with
 | nil=>intro us h _;simp only[VRt];exact List.eq_nil_of_length_eq_zero h
 | cons x l ih =>
   intro us h k
   cases us with
   | nil=>simp at h
   | cons u us =>
     simp only[VRt];exact⟨u,us,rfl,by simpa using k 0,ih (by simpa using h) fun t=>by simpa using k (t+1)⟩
section
variable {R0:Rz} {w0:World} {σ0:St} {ops:List Oper} {bf:List (List Nat)} {rs:List DR} {E:Nat→Prop} {R:Rz} {a:Act} {w:World}
theorem Inv.sim (h:Inv R0 w0 σ0 ops bf rs E R a w) {σ:St} (hl:σ.tm.length=σ0.tm.length) (hs:∀t,VR R w (σ.get t) (a.tmps.getD t undef)) (ho:obsOk R w σ.ob):Sim R0 w0 R σ a w :=
 ⟨h.size.trans hl.symm,B1V (by simp[h.size,hl]) fun t=>by
  have:=hs t
  rw[Array.getD_eq_getD_getElem?,←Array.getElem?_toList] at this
  exact this,ho,h.os,h.tape,h.output,h.grow,h.keep,h.pl,h.defers,h.glob⟩
theorem Inv.start (hs:Sim R0 w0 R σ0 a w):Inv R0 w0 σ0 ops bf rs (fun _=>False) R a w :=
 ⟨hs.size,fun t _ ZN ZM _=>VR.weaker (hs.get t),fun j t h=>h.elim,fun q hq ZN ZM o' _ h1 h2 h3=>by
  -- killing tells less
  have key:=hs.ob q hq
  by_cases h0:0∈ZN
  · cases hq2:q.2 with
    | box l =>
      rw[hq2] at key h3
      simp only[Ob.kill,Option.some.injEq] at h3
      subst h3;obtain⟨us,T,k1,k2,k3⟩:=key;refine⟨us,T,k1,k2,?_⟩
      clear k1
      have:∀(l:List CV) (us:List Value),VRs R w l us→VRs R w (l.map (CV.kill ZN ZM)) us:=by
       intro l
       induction l with
       | nil=>intro us h;exact h
       | cons c l ih =>
         intro us h
         obtain⟨u,us',rfl,m1,m2⟩:=h;refine⟨u,us',rfl,?_,ih us' m2⟩
         unfold CV.kill;split
         · trivial
         · exact m1
      exact this _ _ k3
    | row e t xs S =>
      rw[hq2] at key h3
      simp only[Ob.kill] at h3
      split at h3
      · cases h3
      · cases h3;exact key
    | map t xs S =>
      rw[hq2] at key h3
      simp only[Ob.kill] at h3
      split at h3
      · cases h3
      · cases h3;exact key
    | tree e t xs h' =>
      rw[hq2] at key h3
      simp only[Ob.kill,Option.some.injEq] at h3
      subst h3;exact key
  · exact OR.kill key (FR.refl ZN ZM R w) h0 h1 h2 h3,fun j h=>h.elim,hs.os,hs.tape,hs.output,hs.grow,hs.keep,hs.pl,hs.defers,hs.glob⟩
theorem Inv.step {i:Nat} {o:Oper} {R':Rz} {v:Value} {w':World} (h:Inv R0 w0 σ0 ops bf rs E R a w) (ho:ops[i]?=some o) (hdist:∀j k t,J5 ops j=some t→J5 ops k=some t→j=k) (hE:¬E i) (hup:∀j,E j→i ∉ M5 bf j)
 (hd:Done R w (Nk rs i) (Mk rs i) (Rr rs i).r (Rr rs i).news R' v w'):Inv R0 w0 σ0 ops bf rs (fun k=>k=i∨E k) R' (a.put o.dst v) w':=by
 have h0:0 ∉ Nk rs i:=fun hh=>by have:=hd.n5 0 hh;omega
 have hdi:J5 ops i=o.dst:=by simp[J5,ho]
 have hget:∀t,o.dst≠some t→(a.put o.dst v).tmps.getD t undef=a.tmps.getD t undef:=fun t ht=>by
  cases hq:o.dst with
  | none=>rfl
  | some d =>
    have:d≠t:=fun e=>ht (by rw[hq,e])
    simp[Act.put,Array.getD_eq_getD_getElem?,Array.getElem?_setIfInBounds_ne this]
 refine⟨?_,fun t ht ZN ZM hc=>?_,fun j t hj hdj htl ZN ZM hc=>?_,fun q hq ZN ZM o' hc h1 h2 h3=>?_,fun j hj q hq ZN ZM o' hc h1 h2 h3=>?_,hd.fr.os.trans h.os,hd.fr.tape.trans h.tape,hd.fr.output.trans h.output,Nat.le_trans h.grow hd.fr.size,fun b hb hr=>?_,fun n k1 k2=>⟨(hd.fr.lo n (by omega)).1.trans (h.pl n k1 k2).1,(hd.fr.lo n (by omega)).2.trans (h.pl n k1 k2).2⟩,?_,h.glob⟩
 · rw[←h.size];cases o.dst<;>simp[Act.put]
 · rw[hget t (by rw[←hdi];exact ht i (.inl rfl))]
   exact VR.stay (h.s0 t (fun j hj=>ht j (.inr hj)) ZN ZM fun k hk=>hc k (.inr hk)) hd.fr h0 (hc i (.inl rfl)).1 (hc i (.inl rfl)).2
 · rcases hj with rfl|hj
   · have e:(a.put o.dst v).tmps.getD t undef=v:=by
      rw[←hdi,hdj];have:t < a.tmps.size:=by rw[h.size];exact htl
      simp[Act.put,Array.getD_eq_getD_getElem?,this]
     rw[e];exact VR.weaker hd.vr
   · have hne:i≠j:=fun e=>hE (e ▸ hj)
     rw[hget t (fun e=>hne (hdist i j t (by rw[hdi];exact e) hdj))]
     have hci:=hc i (.inl rfl) hne (hup j hj)
     exact VR.stay (h.s1 j t hj hdj htl ZN ZM fun k hk=>hc k (.inr hk)) hd.fr h0 hci.1 hci.2
 · exact OR.stay (h.o0 q hq ZN ZM o' (fun k hk=>hc k (.inr hk)) h1 h2 h3) h3 h1 h2 hd.fr h0 (hc i (.inl rfl)).1 (hc i (.inl rfl)).2
 · rcases hj with rfl|hj
   · have key:=hd.ob q hq
     by_cases hz:0∈ZN
     · cases hq2:q.2 with
       | box l =>
         rw[hq2] at key h3
         simp only[Ob.kill,Option.some.injEq] at h3
         subst h3;obtain⟨us,T,k1,k2,k3⟩:=key;refine⟨us,T,k1,k2,?_⟩
         have:∀(l:List CV) (us:List Value),VRs R' w' l us→VRs R' w' (l.map (CV.kill ZN ZM)) us:=by
          intro l
          induction l with
          | nil=>intro us h;exact h
          | cons c l ih =>
            intro us h
            obtain⟨u,us',rfl,m1,m2⟩:=h;refine⟨u,us',rfl,?_,ih us' m2⟩
            unfold CV.kill;split
            · trivial
            · exact m1
         exact this _ _ k3
       | row e t xs S =>
         rw[hq2] at key h3
         simp only[Ob.kill] at h3
         split at h3
         · cases h3
         · cases h3;exact key
       | map t xs S =>
         rw[hq2] at key h3
         simp only[Ob.kill] at h3
         split at h3
         · cases h3
         · cases h3;exact key
       | tree e t xs h' =>
         rw[hq2] at key h3
         simp only[Ob.kill,Option.some.injEq] at h3
         subst h3;exact key
     · exact OR.kill key (FR.refl ZN ZM R' w') hz h1 h2 h3
   · have hne:i≠j:=fun e=>hE (e ▸ hj)
     have hci:=hc i (.inl rfl) hne (hup j hj)
     exact OR.stay (h.o1 j hj q hq ZN ZM o' (fun k hk=>hc k (.inr hk)) h1 h2 h3) h3 h1 h2 hd.fr h0 hci.1 hci.2
 · obtain⟨h1,h2⟩:=h.keep b hb hr
   obtain⟨k1,k2⟩:=hd.fr.keep b (Nat.lt_of_lt_of_le hb h.grow) (fun hm=>by rw[h2] at hm;have:=hd.n5 _ hm;omega)
   exact⟨k1.trans h1,k2.trans h2⟩
 · cases o.dst<;>exact h.defers
end
open Go.RowKit
theorem A6A (l:List Nat):∀(xs:List AV) (i t:Nat),((Y1 l i xs)[t]?).getD (.c .bot)=if l.contains (i+t) then (xs[t]?).getD (.c .bot) else .c .bot:=by
 intro xs
 induction xs with
 | nil=>intro i t;simp[Y1]
 | cons x xs ih =>
   intro i t
   cases t with
   | zero=>simp[Y1]
   | succ t=>simp only[Y1,List.getElem?_cons_succ];rw[ih];congr 2;congr 1;omega
theorem A74 (l:List Nat):∀(xs:List AV) (i:Nat),(Y1 l i xs).length=xs.length:=by
 intro xs
 induction xs with
 | nil=>intro i;rfl
 | cons x xs ih=>intro i;simp[Y1,ih]
theorem A3f {N M:List Nat}:(AV.c CV.bot).kill N M=.c .bot:=by simp[AV.kill,CV.kill,CV.hit,CV.srcs,CV.ids]
def C06 (P:Program) (G:TypeId→Option Ty) (T:G4) (dn:List (List Nat)) (ops:List Oper) (σ0:St) (rs:List DR) (i:Nat) (o:Oper):Prop :=
 ((o.guard=none∨∃j want d,o.guard=some (j,want)∧A3a (sT σ0 ops dn rs i) ops j=some (d,want))∧aop P G T (sB (sT σ0 ops dn rs i) (T5 o) (dn.getD i [])) o=some (Rr rs i)∧(Rr rs i).c) ∨
 ((∃j want,o.guard=some (j,want)∧((∃d,A3a (sT σ0 ops dn rs i) ops j=some (d,!want))∨A1Y (sT σ0 ops dn rs i) ops j=true))∧Rr rs i=DR.none.r)
theorem B96 {P:Program} {G:TypeId→Option Ty} {T:G4} {dn:List (List Nat)} {all:List Oper} {σ0:St}:∀{l:List Oper} {i:Nat} {σ:St} {rs:List DR} {σ':St},DTr P G T dn all l i σ rs σ' →
 ∀(pre:List Oper) (prs:List DR),all=pre++l→pre.length=i→prs.length=i→σ=sT σ0 all dn (prs++rs) i →
 rs.length=l.length∧σ'=sT σ0 all dn (prs++rs) (i+l.length)∧∀k o,l[k]?=some o→C06 P G T dn all σ0 (prs++rs) (i+k) o:=by
 intro l i σ rs σ' h
 induction h with
 | nil i σ=>intro pre prs _ _ _ h;exact⟨rfl,by simpa using h,fun k o h=>by simp at h⟩
 | @run o l i σ r rs σ' hg h hc k ih =>
   intro pre prs h1 h2 h3 h4
   have hr:Rr (prs++⟨true,r⟩::rs) i=r:=by
    simp[Rr,List.getD,List.getElem?_append_right (show prs.length≤i by omega),show i - prs.length=0 by omega]
   have hd:J5 all i=o.dst:=by
    simp[J5,h1,List.getElem?_append_right (show pre.length≤i by omega),show i - pre.length=0 by omega]
   obtain⟨k1,k2,k3⟩:=ih (pre++[o]) (prs++[⟨true,r⟩]) (by simp[h1]) (by simp[h2]) (by simp[h3]) (by
    simp only[List.append_assoc,List.singleton_append,sT];rw[hr,hd,←h4])
   simp only[List.append_assoc,List.singleton_append] at k2 k3
   refine⟨by simp[k1],by rw[k2];congr 1;simp;omega,fun m o' hm=>?_⟩
   cases m with
   | zero =>
     simp only[List.getElem?_cons_zero,Option.some.injEq] at hm
     subst hm;rw[Nat.add_zero];refine .inl ⟨?_,?_,by rw[hr];exact hc⟩
     · rw[←h4];exact hg
     · rw[←h4,hr];exact h
   | succ m =>
     simp only[List.getElem?_cons_succ] at hm
     have:=k3 m o' hm
     rw[show i+(m+1)=i+1+m by omega]
     exact this
 | @skip o l i σ rs σ' hg k ih =>
   intro pre prs h1 h2 h3 h4
   have hr:Rr (prs++DR.none::rs) i=DR.none.r:=by
    simp[Rr,List.getD,List.getElem?_append_right (show prs.length≤i by omega),show i - prs.length=0 by omega]
   have hd:J5 all i=o.dst:=by
    simp[J5,h1,List.getElem?_append_right (show pre.length≤i by omega),show i - pre.length=0 by omega]
   obtain⟨k1,k2,k3⟩:=ih (pre++[o]) (prs++[DR.none]) (by simp[h1]) (by simp[h2]) (by simp[h3]) (by
    simp only[List.append_assoc,List.singleton_append,sT];rw[hr,hd,←h4])
   simp only[List.append_assoc,List.singleton_append] at k2 k3
   refine⟨by simp[k1],by rw[k2];congr 1;simp;omega,fun m o' hm=>?_⟩
   cases m with
   | zero =>
     simp only[List.getElem?_cons_zero,Option.some.injEq] at hm
     subst hm;rw[Nat.add_zero];exact .inr ⟨by rw[←h4];exact hg,hr⟩
   | succ m =>
     simp only[List.getElem?_cons_succ] at hm
     have:=k3 m o' hm
     rw[show i+(m+1)=i+1+m by omega]
     exact this
structure Chk (ops:List Oper) (bf dn dc:List (List Nat)) (rs:List DR):Prop where
 dist:∀j k t,J5 ops j=some t→J5 ops k=some t→j=k
 sel:∀(i:Nat) (o:Oper) cs b,ops[i]?=some o→o.op≠.select cs b
 edge:∀(i:Nat) (o:Oper),ops[i]?=some o→∀e∈o.after,Region.binds .any e=true→e.on < i
 bef:∀(i:Nat) (o:Oper),ops[i]?=some o→∀j∈M5 bf i,j < i∧∃e∈o.after,Region.binds .any e=true∧(e.on=j∨j∈M5 bf e.on)
 out:∀i:Nat,ops[i]?=none→M5 bf i=[]
 slot:∀(i:Nat) (o:Oper),ops[i]?=some o→∀t∈T5 o,∀j,J5 ops j=some t→j=i∨j∈M5 bf i∨i∈M5 bf j
 grd:∀(i:Nat) (o:Oper) j want,ops[i]?=some o→o.guard=some (j,want)→j∈M5 bf i
 down:∀i k,i < ops.length→k < ops.length→A14 bf i k=true→∀m∈M5 dc k,m∈dn.getD i []
 dec:∀i k,i < ops.length→k < ops.length→A14 bf i k=true→(∀n∈Nk rs k,n∈ctD (M5 dc k))∧(∀n∈Mk rs k,n∈mvD (M5 dc k))∧∀p∈(Rr rs k).news,p.1∈ctD (M5 dc k)
theorem A6w {ops:List Oper} (h:(B4B ops).Nodup):∀j k t,J5 ops j=some t→J5 ops k=some t→j=k:=by
 induction ops with
 | nil=>intro j k t h;simp[J5] at h
 | cons o ops ih =>
   have mem:∀(k:Nat) (t:Tmp),J5 ops k=some t→t∈B4B ops:=fun k t hk=>by
    unfold J5 at hk;cases hq:ops[k]? with
    | none=>rw[hq] at hk;simp at hk
    | some q=>rw[hq] at hk;exact List.mem_filterMap.2 ⟨q,List.mem_of_getElem? hq,by simpa using hk⟩
   have h':(B4B ops).Nodup∧∀t,o.dst=some t→t ∉ B4B ops:=by
    unfold B4B at h ⊢
    rw[List.filterMap_cons] at h;cases hd:o.dst with
    | none=>rw[hd] at h;exact⟨h,fun t ht=>by cases ht⟩
    | some d =>
      rw[hd] at h;simp only[List.nodup_cons] at h
      exact⟨h.2,fun t ht=>by cases ht;exact h.1⟩
   intro j k t hj hk
   cases j with
   | zero =>
     cases k with
     | zero=>rfl
     | succ k =>
       have hj:o.dst=some t:=by simpa [J5] using hj
       exact absurd (mem k t (by simpa [J5] using hk)) (h'.2 t hj)
   | succ j =>
     cases k with
     | zero =>
       have hk:o.dst=some t:=by simpa [J5] using hk
       exact absurd (mem j t (by simpa [J5] using hj)) (h'.2 t hk)
     | succ k=>rw[ih h'.1 j k t (by simpa [J5] using hj) (by simpa [J5] using hk)]
theorem B70 {n:Nat} {bf dc:List (List Nat)}:∀{rs:List DR} {k:Nat},B06 n bf dc k rs=true→∀m d,rs[m]?=some d→∀i,i < n→A14 bf i (k+m)=true →
 (∀x∈d.r.N,x∈ctD (M5 dc (k+m)))∧(∀x∈d.r.M,x∈mvD (M5 dc (k+m)))∧∀p∈d.r.news,p.1∈ctD (M5 dc (k+m)):=by
 intro rs
 induction rs with
 | nil=>intro k _ m d h;simp at h
 | cons d0 rs ih =>
   intro k h m d hm i hi hu
   simp only[B06,Bool.and_eq_true] at h
   cases m with
   | zero =>
     simp only[List.getElem?_cons_zero,Option.some.injEq] at hm
     subst hm;rw[Nat.add_zero] at hu ⊢
     rcases (Bool.or_eq_true _ _).mp h.1 with h1|h1
     · have:=List.all_eq_true.1 h1 i (List.mem_range.2 hi)
       rw[hu] at this;simp at this
     · simp only[Bool.and_eq_true] at h1
       exact⟨fun x hx=>by simpa using List.all_eq_true.1 h1.1.1 x hx,fun x hx=>by simpa using List.all_eq_true.1 h1.1.2 x hx,fun p hp=>by simpa using List.all_eq_true.1 h1.2 p hp⟩
   | succ m =>
     simp only[List.getElem?_cons_succ] at hm
     have:=ih h.2 m d hm i hi (by rw[show k+1+m=k+(m+1) by omega];exact hu)
     rw[show k+1+m=k+(m+1) by omega] at this
     exact this
theorem B95 {ops:List Oper} {bf dn dc:List (List Nat)} {rs:List DR} (h:B7W ops bf dn dc=true) (hl:bf.length≤ops.length) (k:B06 ops.length bf dc 0 rs=true):Chk ops bf dn dc rs:=by
 simp only[B7W,Bool.and_eq_true,decide_eq_true_eq] at h
 obtain⟨h1,h2⟩:=h
 have at_:∀i o,ops[i]?=some o→_:=fun i o ho=>by
  have h3:=List.all_eq_true.1 h2 i (List.mem_range.2 (List.getElem?_eq_some_iff.1 ho).1)
  rw[ho] at h3;simp only[Bool.and_eq_true] at h3
  exact h3
 refine⟨A6w h1,fun i o cs b ho e=>?_,fun i o ho e he hb=>?_,fun i o ho j hj=>?_,fun i hi=>?_,fun i o ho t ht j hj=>?_,fun i o j want ho hg=>?_,fun i k hi hk hu m hm=>?_,fun i k' hi hk hu=>?_⟩
 · have:=(at_ i o ho).1.1.1.1.1
   rw[e] at this;cases this
 · have:=List.all_eq_true.1 (at_ i o ho).1.1.1.1.2 e (by simpa using he)
   rw[hb] at this;simpa using this
 · have:=List.all_eq_true.1 (at_ i o ho).1.1.1.2 j hj
   simp only[Bool.and_eq_true,decide_eq_true_eq] at this
   obtain⟨e,he,hh⟩:=List.any_eq_true.1 this.2
   simp only[Bool.and_eq_true,Bool.or_eq_true,beq_iff_eq,List.contains_iff_mem] at hh
   exact⟨this.1,e,by simpa using he,hh.1,hh.2⟩
 · unfold M5;have:ops.length≤i:=List.getElem?_eq_none_iff.1 hi
   rw[List.getD_eq_getElem?_getD,List.getElem?_eq_none (by omega)];rfl
 · have h3:=List.all_eq_true.1 (at_ i o ho).1.1.2 t ht
   cases hq:ops[j]? with
   | none=>simp[J5,hq] at hj
   | some oj =>
     have h4:=List.all_eq_true.1 h3 j (List.mem_range.2 (List.getElem?_eq_some_iff.1 hq).1)
     have h5:oj.dst=some t:=by simpa [J5,hq] using hj
     rw[hq] at h4;simp only[h5,beq_self_eq_true,Bool.not_true,Bool.false_or,Bool.or_eq_true,beq_iff_eq,List.contains_iff_mem] at h4
     rcases h4 with (h4|h4)|h4
     · exact .inl h4
     · exact .inr (.inl h4)
     · exact .inr (.inr h4)
 · have h3:=(at_ i o ho).1.2
   rw[hg] at h3
   simpa using h3
 · have h3:=(at_ i _ (List.getElem?_eq_getElem hi)).2
   have h4:=List.all_eq_true.1 h3 k (List.mem_range.2 hk)
   rw[hu] at h4;simp only[Bool.not_true,Bool.false_or] at h4
   simpa [M5] using List.all_eq_true.1 h4 m hm
 · cases hq:rs[k']? with
   | none =>
     have:Rr rs k'=DR.none.r:=by simp[Rr,List.getD,hq]
     simp only[Nk,Mk,this,DR.none];exact⟨fun n hn=>(by cases hn),fun n hn=>(by cases hn),fun p hp=>(by cases hp)⟩
   | some d =>
     have h3:=B70 k k' d hq i hi (by rw[Nat.zero_add];exact hu)
     rw[Nat.zero_add] at h3;have:Rr rs k'=d.r:=by simp[Rr,List.getD,hq]
     simp only[Nk,Mk,this];exact h3
section
variable {P:Program} {G:TypeId→Option Ty} {T:G4} {R0:Rz} {w0:World} {σ0:St} {ops:List Oper} {bf dn dc:List (List Nat)} {rs:List DR} {E:Nat→Prop} {R:Rz} {a:Act} {w:World}
theorem A1P {i k:Nat} (h1:k≠i) (h2:k ∉ M5 bf i) (h3:i ∉ M5 bf k):A14 bf i k=true:=by
 simp only[A14,Bool.and_eq_true,bne_iff_ne,ne_eq,Bool.not_eq_true',←Bool.not_eq_true,List.contains_iff_mem];exact⟨⟨fun e=>h1 e.symm,h2⟩,h3⟩
theorem Chk.lt (h:Chk ops bf dn dc rs) {i j:Nat} (hj:j∈M5 bf i):j < i:=by
 cases ho:ops[i]? with
 | none=>rw[h.out i ho] at hj;cases hj
 | some o=>exact(h.bef i o ho j hj).1
theorem Chk.cover (h:Chk ops bf dn dc rs) (hl:rs.length=ops.length) (hlt:∀k,E k→k < ops.length) {i j:Nat} (hi:i < ops.length) (hj:j < ops.length) (hji:j < i) (hE:∀k,E k→k≠i∧i ∉ M5 bf k) :
 ∀k,E k→k≠j→k ∉ M5 bf j→(∀n∈Nk rs k,n∈ctD (dn.getD j [])++cat (Nk rs) (j+1) i++ctD (dn.getD i []))∧(∀n∈Mk rs k,n∈mvD (dn.getD j [])++cat (Mk rs) (j+1) i++mvD (dn.getD i [])):=by
 intro k hk hkj hkb
 have hkl:=hlt k hk
 by_cases h1:k∈M5 bf i
 · have hki:=h.lt h1
   by_cases h2:j < k
   · exact⟨fun n hn=>List.mem_append_left _ (List.mem_append_right _ (y7.2 ⟨k,h2,hki,hn⟩)),fun n hn=>List.mem_append_left _ (List.mem_append_right _ (y7.2 ⟨k,h2,hki,hn⟩))⟩
   · have hu:A14 bf j k=true:=A1P hkj hkb (fun hh=>h2 (h.lt hh))
     have hd:=h.dec j k hj hkl hu
     exact⟨fun n hn=>List.mem_append_left _ (List.mem_append_left _ (A3O (h.down j k hj hkl hu) n (hd.1 n hn))),fun n hn=>List.mem_append_left _ (List.mem_append_left _ (A5M (h.down j k hj hkl hu) n (hd.2.1 n hn)))⟩
 · have hu:A14 bf i k=true:=A1P (hE k hk).1 h1 (hE k hk).2
   have hd:=h.dec i k hi hkl hu
   exact⟨fun n hn=>List.mem_append_right _ (A3O (h.down i k hi hkl hu) n (hd.1 n hn)),fun n hn=>List.mem_append_right _ (A5M (h.down i k hi hkl hu) n (hd.2.1 n hn))⟩
theorem Chk.cover0 (h:Chk ops bf dn dc rs) (hlt:∀k,E k→k < ops.length) {i:Nat} (hi:i < ops.length) (hE:∀k,E k→k≠i∧i ∉ M5 bf k) :
 ∀k,E k→(∀n∈Nk rs k,n∈cat (Nk rs) 0 i++ctD (dn.getD i []))∧(∀n∈Mk rs k,n∈cat (Mk rs) 0 i++mvD (dn.getD i [])):=by
 intro k hk
 have hkl:=hlt k hk
 by_cases h1:k∈M5 bf i
 · have hki:=h.lt h1
   exact⟨fun n hn=>List.mem_append_left _ (y7.2 ⟨k,Nat.zero_le _,hki,hn⟩),fun n hn=>List.mem_append_left _ (y7.2 ⟨k,Nat.zero_le _,hki,hn⟩)⟩
 · have hu:A14 bf i k=true:=A1P (hE k hk).1 h1 (hE k hk).2
   have hd:=h.dec i k hi hkl hu
   exact⟨fun n hn=>List.mem_append_right _ (A3O (h.down i k hi hkl hu) n (hd.1 n hn)),fun n hn=>List.mem_append_right _ (A5M (h.down i k hi hkl hu) n (hd.2.1 n hn))⟩
theorem Inv.slot (h:Inv R0 w0 σ0 ops bf rs E R a w) (hc:Chk ops bf dn dc rs) (hl:rs.length=ops.length) (hlt:∀k,E k→k < ops.length) {i:Nat} (hi:i < ops.length) (hE:∀k,E k→k≠i∧i ∉ M5 bf k) (hbf:∀j∈M5 bf i,E j)
 {t:Nat} (ht:∀j,J5 ops j=some t→j=i∨j∈M5 bf i∨i∈M5 bf j):VR R w (((sT σ0 ops dn rs i).get t).kill (ctD (dn.getD i [])) (mvD (dn.getD i []))) (a.tmps.getD t undef):=by
 by_cases htl:t < σ0.tm.length
 · by_cases hj:∃j,j∈M5 bf i∧J5 ops j=some t
   · obtain⟨j,hj,hd⟩:=hj;have hji:=hc.lt hj
     rw[B5B hd htl (fun k hk=>hc.dist k j t hk hd) i hji,AV.kill_kill]
     exact h.s1 j t (hbf j hj) hd htl _ _ (hc.cover hl hlt hi (by omega) hji hE)
   · have hold:∀j,j < i→J5 ops j≠some t:=fun j hji hd=>by
      rcases ht j hd with h1|h1|h1
      · omega
      · exact hj ⟨j,h1,hd⟩
      · have:=hc.lt h1;omega
     rw[B5e i hold,AV.kill_kill];refine h.s0 t (fun j hEj hd=>?_) _ _ (hc.cover0 hlt hi hE)
     rcases ht j hd with h1|h1|h1
     · exact(hE j hEj).1 h1
     · exact hj ⟨j,h1,hd⟩
     · exact(hE j hEj).2 h1
 · have e:(sT σ0 ops dn rs i).get t=.c .bot:=by
    unfold St.get
    rw[List.getElem?_eq_none (by rw[A0F];omega)];rfl
   rw[e,A3f];simp[VR,VRc]
theorem Inv.before (h:Inv R0 w0 σ0 ops bf rs E R a w) (hc:Chk ops bf dn dc rs) (hl:rs.length=ops.length) (hlt:∀k,E k→k < ops.length) {i:Nat} {o:Oper} (ho:ops[i]?=some o) (hE:∀k,E k→k≠i∧i ∉ M5 bf k) (hbf:∀j∈M5 bf i,E j) :
 Sim R0 w0 R (sB (sT σ0 ops dn rs i) (T5 o) (dn.getD i [])) a w:=by
 have hi:=(List.getElem?_eq_some_iff.1 ho).1
 refine h.sim (by simp[sB,A0u,A74,A0F]) (fun t=>?_) (fun p hp=>?_)
 · unfold sB St.get
   simp only[A2E,A6A,Nat.zero_add]
   split
   · rename_i hm
     exact h.slot hc hl hlt hi hE hbf (hc.slot i o ho t (by simpa using hm))
   · rw[A3f];simp[VR,VRc]
 · obtain⟨q,h1,h2,h3,h4,h5⟩:=A3N hp
   rw[h2];rcases B8V i h1 with⟨q',k1,k2,k3,k4,k5⟩|⟨j,hj,q',k1,k2,k3,k4,k5⟩
   · rw[←k2];exact h.o0 q' k1 _ _ _ (hc.cover0 hlt hi hE) (by rw[List.mem_append,k2];exact fun hh=>hh.elim (fun hh=>k3 (k2 ▸ hh)) h3) (by rw[List.mem_append,k2];exact fun hh=>hh.elim (fun hh=>k4 (k2 ▸ hh)) h4) (Ob.kill_kill k5 h5)
   · rw[←k2]
     by_cases hb:j∈M5 bf i
     · exact h.o1 j (hbf j hb) q' k1 _ _ _ (hc.cover hl hlt hi (by omega) hj hE) (by rw[List.mem_append,k2];exact fun hh=>hh.elim (fun hh=>k3 (k2 ▸ hh)) h3) (by rw[List.mem_append,k2];exact fun hh=>hh.elim (fun hh=>k4 (k2 ▸ hh)) h4) (Ob.kill_kill k5 h5)
     · have hu:A14 bf i j=true:=A1P (by omega) hb (fun hh=>absurd (hc.lt hh) (by omega))
       have hd:=(hc.dec i j hi (by omega) hu).2.2 q' k1
       exact absurd (A3O (hc.down i j hi (by omega) hu) _ hd) (by rw[k2];exact h3)
theorem Inv.fin (h:Inv R0 w0 σ0 ops bf rs E R a w) (hc:Chk ops bf dn dc rs) (hl:rs.length=ops.length) (hall:∀k,k < ops.length→E k) (hlt:∀k,E k→k < ops.length):Sim R0 w0 R (sT σ0 ops dn rs ops.length) a w:=by
 have cov:∀j,j < ops.length→∀k,E k→k≠j→k ∉ M5 bf j→(∀n∈Nk rs k,n∈ctD (dn.getD j [])++cat (Nk rs) (j+1) ops.length)∧(∀n∈Mk rs k,n∈mvD (dn.getD j [])++cat (Mk rs) (j+1) ops.length):=fun j hj k hk hkj hkb=>by
  have hkl:=hlt k hk
  by_cases h2:j < k
  · exact⟨fun n hn=>List.mem_append_right _ (y7.2 ⟨k,h2,hkl,hn⟩),fun n hn=>List.mem_append_right _ (y7.2 ⟨k,h2,hkl,hn⟩)⟩
  · have hu:A14 bf j k=true:=A1P hkj hkb (fun hh=>h2 (hc.lt hh))
    have hd:=hc.dec j k hj hkl hu
    exact⟨fun n hn=>List.mem_append_left _ (A3O (hc.down j k hj hkl hu) n (hd.1 n hn)),fun n hn=>List.mem_append_left _ (A5M (hc.down j k hj hkl hu) n (hd.2.1 n hn))⟩
 have cov0:∀k,E k→(∀n∈Nk rs k,n∈cat (Nk rs) 0 ops.length)∧(∀n∈Mk rs k,n∈cat (Mk rs) 0 ops.length):=fun k hk =>
  ⟨fun n hn=>y7.2 ⟨k,Nat.zero_le _,hlt k hk,hn⟩,fun n hn=>y7.2 ⟨k,Nat.zero_le _,hlt k hk,hn⟩⟩
 refine h.sim (A0F _) (fun t=>?_) (fun p hp=>?_)
 · by_cases htl:t < σ0.tm.length
   · by_cases hj:∃j,J5 ops j=some t
     · obtain⟨j,hd⟩:=hj
       have hjl:j < ops.length:=by
        cases hq:ops[j]? with
        | none=>simp[J5,hq] at hd
        | some o=>exact(List.getElem?_eq_some_iff.1 hq).1
       rw[B5B hd htl (fun k hk=>hc.dist k j t hk hd) _ hjl]
       exact h.s1 j t (hall j hjl) hd htl _ _ (cov j hjl)
     · rw[B5e _ (fun j _ hd=>hj ⟨j,hd⟩)]
       exact h.s0 t (fun j _ hd=>hj ⟨j,hd⟩) _ _ cov0
   · have e:(sT σ0 ops dn rs ops.length).get t=.c .bot:=by
      unfold St.get
      rw[List.getElem?_eq_none (by rw[A0F];omega)];rfl
     rw[e];simp[VR,VRc]
 · rcases B8V _ hp with⟨q',k1,k2,k3,k4,k5⟩|⟨j,hj,q',k1,k2,k3,k4,k5⟩
   · rw[←k2];exact h.o0 q' k1 _ _ _ cov0 k3 k4 k5
   · rw[←k2];exact h.o1 j (hall j hj) q' k1 _ _ _ (cov j hj) k3 k4 k5
theorem B4N (hT:B5 P T) {opsA:Array Oper} (hops:opsA.toList=ops) {Q:Exit→Act→World→Prop} (hc:Chk ops bf dn dc rs) (hl:rs.length=ops.length) (htr:∀k o,ops[k]?=some o→C06 P G T dn ops σ0 rs k o)
 (hQ:∀R a w,Sim R0 w0 R (sT σ0 ops dn rs ops.length) a w→Q .normal a w):∀(fuel:Nat) (listed:Array Bool) (R:Rz) (a:Act) (w:World),listed.size=ops.length→((List.range ops.length).filter fun i=>!listed.getD i true).length=fuel →
 (∀k,listed.getD k false=true→∀j∈M5 bf k,listed.getD j false=true)→Inv R0 w0 σ0 ops bf rs (fun k=>listed.getD k false=true) R a w→wpAny P .any opsA Q fuel listed a w:=by
 have lt_of:∀(listed:Array Bool),listed.size=ops.length→∀k,listed.getD k false=true→k < ops.length:=fun listed hs k hk=>by
  rcases Nat.lt_or_ge k listed.size with h|h
  · omega
  · simp[Array.getElem?_eq_none h] at hk
 have get2:∀(listed:Array Bool),listed.size=ops.length→∀k,k < ops.length→listed.getD k true=listed.getD k false:=fun listed hs k hk=>by
  simp[show k < listed.size by omega]
 have opsAt:∀k:Nat,opsA[k]?=ops[k]?:=fun k=>by rw[←hops,Array.getElem?_toList]
 have hsz:opsA.size=ops.length:=by rw[←hops];simp
 have none_ready:∀(listed:Array Bool),listed.size=ops.length→Region.ready .any opsA listed=[]→∀k,k < ops.length→listed.getD k false=true:=by
  intro listed hs hr k
  induction k using Nat.strongRecOn with
  | _ k ih =>
    intro hk;cases hg:listed.getD k false with
    | true=>rfl
    | false =>
      exfalso;have ho:ops[k]?=some ops[k]:=List.getElem?_eq_getElem hk
      have:k∈Region.ready .any opsA listed:=mem_ready.2 ⟨by rw[get2 listed hs k hk];exact hg,ops[k],by rw[opsAt];exact ho,fun e he hb=>ih e.on (hc.edge k _ ho e he hb) (by have:=hc.edge k _ ho e he hb;omega)⟩
      rw[hr] at this;cases this
 intro fuel
 induction fuel with
 | zero =>
   intro listed R a w hs hf hdown hinv
   have hall:∀k,k < ops.length→listed.getD k false=true:=fun k hk=>by
    have h1:=List.eq_nil_of_length_eq_zero hf
    cases hg:listed.getD k false with
    | true=>rfl
    | false =>
      have:k∈(List.range ops.length).filter fun i=>!listed.getD i true:=List.mem_filter.2 ⟨List.mem_range.2 hk,by rw[get2 listed hs k hk,hg];rfl⟩
      rw[h1] at this;cases this
   refine⟨?_,hQ R a w (hinv.fin hc hl hall (lt_of listed hs))⟩
   apply List.eq_nil_iff_forall_not_mem.2
   intro k hk
   obtain⟨h1,o,h2,_⟩:=mem_ready.1 hk
   rw[opsAt] at h2;have hkl:=(List.getElem?_eq_some_iff.1 h2).1
   rw[get2 listed hs k hkl,hall k hkl] at h1;cases h1
 | succ fuel ih =>
   intro listed R a w hs hf hdown hinv
   refine⟨fun hr=>hQ R a w (hinv.fin hc hl (none_ready listed hs hr) (lt_of listed hs)),fun i hi=>?_⟩
   obtain⟨hun,o,ho',hed⟩:=mem_ready.1 hi
   have ho:ops[i]?=some o:=by rw[←opsAt];exact ho'
   have hil:=(List.getElem?_eq_some_iff.1 ho).1
   have hnE:¬listed.getD i false=true:=by rw[←get2 listed hs i hil,hun];simp
   have hbf:∀j∈M5 bf i,listed.getD j false=true:=fun j hj=>by
    obtain⟨_,e,he,hb,hh⟩:=hc.bef i o ho j hj
    rcases hh with rfl|hh
    · exact hed e he hb
    · exact hdown e.on (hed e he hb) j hh
   have hE:∀k,listed.getD k false=true→k≠i∧i ∉ M5 bf k:=fun k hk=>⟨fun e=>hnE (e ▸ hk),fun hh=>hnE (hdown k hk i hh)⟩
   have hlt:=lt_of listed hs
   have set_get:∀k,(listed.setIfInBounds i true).getD k false=true↔k=i∨listed.getD k false=true:=fun k=>by
    by_cases e:i=k
    · subst e;simp[show i < listed.size by omega]
    · rw[getD_set_ne false e]
      constructor
      · exact .inr
      · rintro (h|h)
        · exact absurd h.symm e
        · exact h
   have next:∀(R':Rz) (v:Value) (w':World),Done R w (Nk rs i) (Mk rs i) (Rr rs i).r (Rr rs i).news R' v w'→wpAny P .any opsA Q fuel (listed.setIfInBounds i true) (a.put o.dst v) w':=fun R' v w' hd=>by
    refine ih _ R' _ w' (by simpa using hs) ?_ (fun k hk j hj=>?_) ?_
    · have h1:((List.range ops.length).filter fun j=>!(listed.setIfInBounds i true).getD j true)=((List.range ops.length).filter fun j=>!listed.getD j true).filter (fun j=>j != i):=by
       rw[List.filter_filter]
       apply List.filter_congr
       intro j hj
       have hj:=List.mem_range.1 hj
       by_cases e:i=j
       · subst e;simp[show i < listed.size by omega]
       · rw[getD_set_ne true e];have:(j != i)=true:=by simpa using fun h=>e h.symm
         rw[this,Bool.true_and]
      rw[h1];have hmem:i∈(List.range ops.length).filter fun j=>!listed.getD j true:=List.mem_filter.2 ⟨List.mem_range.2 hil,by rw[hun];rfl⟩
      have hnd:((List.range ops.length).filter fun j=>!listed.getD j true).Nodup:=List.Pairwise.filter _ List.nodup_range
      have h2:∀(l:List Nat),l.Nodup→i∈l→(l.filter (fun j=>j != i)).length+1=l.length:=by
       intro l
       induction l with
       | nil=>intro _ h;cases h
       | cons x l ihl =>
         intro hn hm
         simp only[List.nodup_cons] at hn
         rcases List.mem_cons.1 hm with rfl|hm
         · have:l.filter (fun j=>j != i)=l:=List.filter_eq_self.2 fun j hj=>by simp only[bne_iff_ne,ne_eq];rintro rfl;exact hn.1 hj
           simp[this]
         · have hx:x≠i:=fun e=>hn.1 (e ▸ hm)
           simp[hx,ihl hn.2 hm]
      have:=h2 _ hnd hmem
      omega
    · rw[set_get] at hk ⊢
      rcases hk with rfl|hk
      · exact .inr (hbf j hj)
      · exact .inr (hdown k hk j hj)
    · have:=hinv.step ho hc.dist hnE (fun j hj=>(hE j hj).2) hd
      have e:(fun k=>(listed.setIfInBounds i true).getD k false=true)=fun k=>k=i∨listed.getD k false=true:=funext fun k=>propext (set_get k)
      rw[e];exact this
   have guard_val:∀j want b d,o.guard=some (j,want)→A3a (sT σ0 ops dn rs i) ops j=some (d,b)→yielded opsA a.tmps j=some b:=fun j want b d hg hv=>by
    obtain⟨oj,e1,e2,e3⟩:=B0V hv
    have hjb:=hc.grd i o j want ho hg
    have hd:J5 ops j=some d:=by simp[J5,e1,e2]
    have h1:=hinv.slot hc hl hlt hil hE hbf (t:=d) (fun j' hj'=>.inr (.inl (by rw[hc.dist j' j d hj' hd];exact hjb)))
    rw[e3] at h1
    have h2:a.tmps.getD d undef=.bool b:=by
     simpa [AV.kill,CV.kill,CV.hit,CV.srcs,CV.ids,VR,VRc] using h1
    have h3:a.tmps[d]?=some (.bool b):=by
     rw[Array.getD_eq_getD_getElem?] at h2
     cases hq:a.tmps[d]? with
     | none=>rw[hq] at h2;cases h2
     | some v=>rw[hq] at h2;simp at h2;rw[h2]
    have e4:opsA[j]?=some oj:=by rw[opsAt];exact e1
    simp[yielded,e4,e2,h3]
   have guard_none:∀j want,o.guard=some (j,want)→A1Y (sT σ0 ops dn rs i) ops j=true→yielded opsA a.tmps j=none:=fun j want hg hv=>by
    obtain⟨oj,d,x,e1,e2,e3⟩:=A7a hv
    have hjb:=hc.grd i o j want ho hg
    have hd:J5 ops j=some d:=by simp[J5,e1,e2]
    have h1:=hinv.slot hc hl hlt hil hE hbf (t:=d) (fun j' hj'=>.inr (.inl (by rw[hc.dist j' j d hj' hd];exact hjb)))
    rw[e3] at h1
    have h2:a.tmps.getD d undef=.tuple x:=by
     simpa [AV.kill,CV.kill,CV.hit,CV.srcs,CV.ids,VR,VRc] using h1
    exact A3m (by rw[opsAt];exact e1) e2 h2
   unfold wpOp;rw[ho']
   simp only
   rcases htr i o ho with⟨hg,hop,hcond⟩|⟨⟨j,want,hg,hv⟩,hr⟩
   · have hw:Region.wanted o (yielded opsA a.tmps)=true:=by
      rcases hg with hg|⟨j,want,d,hg,hv⟩
      · simp[Region.wanted,hg]
      · simp[Region.wanted,hg,guard_val j want want d hg hv]
     rw[if_pos hw];exact .inl (B1B hT hop hcond (hinv.before hc hl hlt ho hE hbf) next)
   · have hw:Region.wanted o (yielded opsA a.tmps)=false:=by
      rcases hv with⟨d,hv⟩|hv
      · simp only[Region.wanted,hg,guard_val j want (!want) d hg hv];cases want<;>rfl
      · simp only[Region.wanted,hg,guard_none j want hg hv];cases want<;>rfl
     rw[if_neg (by rw[hw];simp)]
     refine next R undef w ?_
     have e1:Nk rs i=[]∧Mk rs i=[]∧(Rr rs i).r=.c (.sc (.tuple #[]))∧(Rr rs i).news=[]:=by simp[Nk,Mk,hr,DR.none]
     rw[e1.1,e1.2.1,e1.2.2.1,e1.2.2.2];exact⟨FR.refl _ _ _ _,by simp,by simp[VR,VRc,undef],fun p hp=>by cases hp⟩
end
theorem B5u {ops:List Oper} {bf:List (List Nat)} (h:decide (bf.length≤ops.length)=true):bf.length≤ops.length:=by simpa using h
theorem B6J {P:Program} {σ:St} {Q:Exit→St→Prop} {id:Nat} {ops:Array Oper} {G:TypeId→Option Ty} {T:G4} (hT:B5 P T) (hm:P.follows .mixedOrders=true) (bf dn dc:List (List Nat)) (hS:B7W ops.toList bf dn dc=true) (hb:decide (bf.length≤ops.toList.length)=true)
 (h:A1f P G T dn ops.toList ops.toList 0 σ [] (fun σ' rs=>B06 ops.toList.length bf dc 0 rs=true∧Q .normal σ')):AWP P (.region id ops true) σ Q:=fun R0 w0 R a w hs=>by
 obtain⟨rs,σ',h1,h2,h3⟩:=B6W ops.toList 0 σ [] h
 simp only[List.nil_append] at h2
 obtain⟨k1,k2,k3⟩:=B96 h1 [] [] rfl rfl rfl rfl
 simp only[List.nil_append,Nat.zero_add] at k2 k3
 refine wp_region_any hm ?_
 have hc:=B95 hS (B5u hb) h2
 have hs':Sim R0 w0 R σ a { w with drawn:=w.drawn+1 }:=by
  have:=hs
  exact⟨this.size,(show VRt R _ σ.tm a.tmps.toList from by
   have f:FR [] [] R w R { w with drawn:=w.drawn+1 }:=⟨rfl,rfl,rfl,Nat.le_refl _,fun _ _ _=>⟨rfl,rfl⟩,fun _ _=>⟨rfl,rfl⟩,fun _ _=>⟨rfl,rfl⟩⟩
   have:=VRt.kill hs.tm f (by simp)
   rwa [AV.killL_nil] at this),fun p hp=>by
   have f:FR [] [] R w R { w with drawn:=w.drawn+1 }:=⟨rfl,rfl,rfl,Nat.le_refl _,fun _ _ _=>⟨rfl,rfl⟩,fun _ _=>⟨rfl,rfl⟩,fun _ _=>⟨rfl,rfl⟩⟩
   refine OR.kill (hs.ob p hp) f (by simp) (by simp) (by simp) ?_
   cases p.2 with
   | box l=>simp only[Ob.kill];congr 2;exact(List.map_congr_left fun c _=>CV.kill_nil c).trans (List.map_id _)
   | row e t xs S=>simp[Ob.kill]
   | tree e t xs h'=>simp[Ob.kill]
   | map t xs S=>simp[Ob.kill],hs.os,hs.tape,hs.output,hs.grow,hs.keep,hs.pl,hs.defers,hs.glob⟩
 have hfalse:(fun k=>(Array.replicate ops.size false).getD k false=true)=fun _=>False:=by
  funext k
  apply propext
  simp only[iff_false,Bool.not_eq_true];rcases Nat.lt_or_ge k ops.size with h|h<;>simp[h]
 refine B4N (R0:=R0) (w0:=w0) hT rfl hc k1 (fun k o ho=>k3 k o ho) (fun R' a' w' hs2=>⟨R',σ',by rw[k2];exact hs2,h3⟩) ops.size _ R a _ (by simp) ?_ (fun k hk=>?_) ?_
 · rw[List.filter_eq_self.2 (fun j hj=>by
    have:j < ops.size:=by simpa using List.mem_range.1 hj
    simp[this])]
   simp
 · have:=congrFun hfalse k
   rw[this] at hk;exact hk.elim
 · rw[hfalse];exact Inv.start hs'
open Go.RowKit
theorem B9G (n:Int):bits .and .i64 n 4294967295=n % 4294967296:=by
 have h:(4294967295:Int)=((4294967295:Nat):Int):=rfl
 unfold bits;rw[h];simp only[BitVec.ofInt_natCast,BitVec.toNat_and]
 have e:(BitVec.ofInt IntKind.i64.bits n).toNat=(n % 18446744073709551616).toNat:=by
  simp[BitVec.toNat_ofInt,IntKind.bits]
 have e2:(BitVec.ofNat IntKind.i64.bits 4294967295).toNat=2 ^ 32 - 1:=by simp[IntKind.bits]
 rw[e,e2,Nat.and_two_pow_sub_one_eq_mod,IntWalk.i64_in _ (by omega)]
 omega
theorem A7q (n:Int):-2147483648≤wrap32 n∧wrap32 n≤2147483647:=by unfold wrap32;omega
theorem B3c (n:Int):wrap32 (wrap64 n)=wrap32 n:=by unfold wrap64 wrap32;omega
theorem A5R (n:Int):(wrap32 n) % 4294967296=n % 4294967296:=by unfold wrap32;omega
theorem A93 {a b:Int} (h:a % 4294967296=b % 4294967296):wrap32 a=wrap32 b:=by unfold wrap32;omega
theorem s6 (a b:Int):wrap32 (wrap32 a+wrap32 b)=wrap32 (a+b):=by unfold wrap32;omega
theorem B1P (a b:Int):wrap32 (wrap32 a - wrap32 b)=wrap32 (a - b):=by unfold wrap32;omega
theorem B1a (a b:Int):wrap32 (wrap32 a * wrap32 b)=wrap32 (a * b):=by
 apply A93
 rw[Int.mul_emod,A5R,A5R,←Int.mul_emod]
theorem B03 (a:Int):wrap32 (wrap32 a)=wrap32 a:=by unfold wrap32;omega
open Go.RowKit
theorem B83 {v:Value} {N M:List Nat}:(AV.c (CV.sc v)).kill N M=.c (.sc v):=by simp[AV.kill,CV.kill,CV.hit,CV.srcs,CV.ids]
theorem B8N {N M:List Nat}:M0 N M []=[]:=rfl
theorem B97 (σ:St) (l D:List Nat) (i:Nat):(sB σ l D).get i=if l.contains i then (σ.get i).kill (ctD D) (mvD D) else .c .bot:=by
 unfold sB St.get
 rw[A2E,A6A,Nat.zero_add]
 split
 · rfl
 · exact A3f
theorem C0a (σ:St) (l D:List Nat) (n:Nat):(sB σ l D).look n=A0k n (M0 (ctD D) (mvD D) σ.ob):=rfl
theorem A9s (l:List (Nat × Ob)):M0 [] [] l=l:=by
 induction l with
 | nil=>rfl
 | cons p l ih =>
   obtain⟨m,o⟩:=p
   have e:o.kill [] []=some o:=by
    cases o with
    | box l=>simp only[Ob.kill];congr 2;rw[List.map_congr_left (g:=id) (fun c _=>CV.kill_nil c)];simp
    | row e t xs S=>simp[Ob.kill]
    | tree e t xs h'=>simp[Ob.kill]
    | map t xs S=>simp[Ob.kill]
   simp[M0,ih,e]
def A36 (P:Program) (G:TypeId→Option Ty) (T:G4) (dn:List (List Nat)) (all:List Oper):List Oper→Nat→St→List DR→(St→List DR→Prop)→Prop
 | [],_,σ,acc,K=>K σ acc
 | o :: l, i, σ, acc, K => match o.guard with
   | none => match aop P G T (sB σ (T5 o) (dn.getD i [])) o with
     | some r=>r.c∧A36 P G T dn all l (i+1) (A2K σ o.dst (dn.getD i []) r) (⟨true,r⟩::acc) K
     | none=>False
   | some (j, want) => match A1Y σ all j with
     | true=>A36 P G T dn all l (i+1) (A2K σ o.dst (dn.getD i []) DR.none.r) (DR.none::acc) K
     | false=>match A3a σ all j with
     | some (d,b)=>A0V b want (match aop P G T (sB (σ.setb d want) (T5 o) (dn.getD i [])) o with
      | some r=>r.c∧A36 P G T dn all l (i+1) (A2K (σ.setb d want) o.dst (dn.getD i []) r) (⟨true,r⟩::acc) K
      | none=>False)
      (A36 P G T dn all l (i+1) (A2K (σ.setb d (!want)) o.dst (dn.getD i []) DR.none.r) (DR.none::acc) K)
     | none=>False
theorem A7 {P:Program} {G:TypeId→Option Ty} {T:G4} {dn:List (List Nat)} {all:List Oper} {K:St→List DR→Prop}:∀{l:List Oper} {i:Nat} {σ:St} {acc:List DR},
 A36 P G T dn all l i σ acc (fun σ rs=>K σ rs.reverse)→A1f P G T dn all l i σ acc.reverse K:=by
 intro l
 induction l with
 | nil=>intro i σ acc h;exact h
 | cons o l ih =>
   intro i σ acc h
   unfold A36 at h;unfold A1f;cases hg:o.guard with
   | none =>
     simp only[hg] at h ⊢
     cases ha:aop P G T (sB σ (T5 o) (dn.getD i [])) o with
     | none=>simp only[ha] at h
     | some r =>
       simp only[ha] at h ⊢
       have:=ih h.2
       rw[List.reverse_cons] at this;exact⟨h.1,this⟩
   | some jw =>
     obtain⟨j,want⟩:=jw;simp only[hg] at h ⊢
     cases hn:A1Y σ all j with
     | true =>
       simp only[hn] at h ⊢
       have:=ih h
       rw[List.reverse_cons] at this;exact this
     | false =>
     simp only[hn] at h ⊢
     cases hv:A3a σ all j with
     | none=>simp only[hv] at h
     | some db =>
       obtain⟨d,b⟩:=db;simp only[hv] at h ⊢
       refine⟨fun hb=>?_,fun hb=>?_⟩
       · have h1:=h.1 hb
         cases ha:aop P G T (sB (σ.setb d want) (T5 o) (dn.getD i [])) o with
         | none=>simp only[ha] at h1
         | some r =>
           simp only[ha] at h1 ⊢
           have:=ih h1.2
           rw[List.reverse_cons] at this;exact⟨h1.1,this⟩
       · have:=ih (h.2 hb)
         rw[List.reverse_cons] at this;exact this
def A0h:List Operand→List Nat
 | []=>[]
 | .tmp t::l=>t::A0h l
 | .const _::l=>A0h l
 | .global _::l=>A0h l
 | .func _::l=>A0h l
theorem B2I (o:Oper):T5 o=A0h o.op.operands.toList:=by
 unfold T5;generalize o.op.operands.toList=l
 induction l with
 | nil=>rfl
 | cons x l ih=>cases x<;>simp[A0h,ih]
theorem B6G {n k:Nat} {bf dc:List (List Nat)} {rs:List DR} (h:B06 n bf dc k rs=true):B06 n bf dc k rs=true:=h
attribute [go_sem ↓] B83 A3f AV.killL_nil AV.kill_nil A9s
attribute [go_sem ↓ high] B97 C0a
attribute [go_sem] ctD mvD Nat.reduceMod
attribute [go_sem] Int.toNat_natCast A36 A2K B2I A0h List.getD_cons_zero List.getD_cons_succ List.getD_nil DR.none B8N Op.operands Call.operands List.toList_toArray List.cons_append List.append_toArray Option.toArray_some Option.toArray_none bne_iff_ne List.length_append List.range_zero Bool.or_true Bool.true_or List.append_assoc
theorem H4 {n:Int} (h:-9223372036854775808≤n∧n≤9223372036854775807):IntKind.i64.wrap n=n:=IntWalk.i64_in _ h
theorem wk {k:Nat} (h:k < 9223372036854775807):IntKind.i64.wrap ((k:Int)+1)=((k+1:Nat):Int):=by
 rw[H4 (by omega)];omega
section
variable {α:Type} {p:α→Bool} {xs:List α} {k:Nat} {d:α}
theorem J8 (hk:k < xs.length):xs.take (k+1)=xs.take k++[xs.getD k d]:=by
 rw[List.take_succ_eq_append_getElem hk];simp[List.getD,hk]
theorem J6 (hk:k < xs.length) (h:(xs.take k).all p=true) (hp:p (xs.getD k d)=true):(xs.take (k+1)).all p=true:=by
 rw[J8 (d:=d) hk,List.all_append,h,List.all_cons,hp];rfl
theorem M2 (hk:k < xs.length) (hp:p (xs.getD k d)=false):xs.all p=false:=by
 rw[←Bool.not_eq_true];intro h;have:=List.all_eq_true.1 h (xs[k]) (List.getElem_mem hk)
 have e:xs.getD k d=xs[k]:=by simp[List.getD,hk]
 rw[e] at hp;rw[hp] at this;cases this
theorem I7 (h:(xs.take k).all p=true) (hk:¬k < xs.length):xs.all p=true:=by
 rw[List.take_of_length_le (by omega)] at h;exact h
end
def I6 (x lo hi:Int):Bool:=decide (lo≤x) && decide (x≤hi)
theorem L8 {x lo hi:Int} (h1:lo≤x) (h2:x≤hi):I6 x lo hi=true:=by simp[I6,h1,h2]
theorem B4 {x lo hi:Int}:I6 x lo hi=true↔lo≤x∧x≤hi:=by simp[I6]
theorem B4o {x lo hi:Int}:I6 x lo hi=false↔x < lo∨hi < x:=by simp[I6];omega
def smp (x:Int):Bool:=I6 x (-2147483648) 2147483647
def I9 (xs:List Int):Bool:=xs.all smp
def N2 (n:Int) (xs:List Int):Bool:=xs.all fun i=>I6 i 0 (n - 1)
open Go.RowKit
def B8W:Ob→Ob
 | .box l=>.box l
 | .row e t xs S=>.row e t xs S
 | .tree e t xs h=>.tree e t xs (match h with|none=>some (0,0)|some p=>some p)
 | .map t xs S=>.map t xs S
def A8s (n:Nat):List (Nat × Ob)→List (Nat × Ob)
 | []=>[]
 | p::l=>(if p.1=n then (p.1,B8W p.2) else p)::A8s n l
def St.hole (σ:St) (n:Nat):St:=⟨σ.tm,A8s n σ.ob⟩
def takeC (k m:Nat):Ob→Ob
 | .box l=>.box (l.set k (.ow m))
 | .row e t xs S=>.row e t xs S
 | .tree e t xs h=>.tree e t xs h
 | .map t xs S=>.map t xs S
def A8F (n k m:Nat):List (Nat × Ob)→List (Nat × Ob)
 | []=>[]
 | p::l=>(if p.1=n then (p.1,takeC k m p.2) else p)::A8F n k m l
def St.takeS (σ:St) (bx k m:Nat):St :=
 match σ.look bx with
 | some (.box l) => match l[k]? with
   | some (.sub n i wd o e t xs) => match σ.look n with
     | some (.tree e2 T XS (some h))=>⟨AV.killL [n] [m] σ.tm,(m,.row e t xs [])::(n,.tree e2 T XS (some (0,i+1)))::A8F bx k m (M0 [n] [m] σ.ob)⟩
     | _=>σ
   | _=>σ
 | _=>σ
def St.takeC (σ:St) (bx k m:Nat):Prop :=
 match σ.look bx with
 | some (.box l) => match l[k]? with
   | some (.sub n i wd o e t xs) => match σ.look n with
     | some (.tree e2 T XS (some h))=>h.1=0∧h.2=i∧i < XS.length∧wd=T.w∧o < T.w∧5 < n∧n≠m∧bx≠n∧bx≠m∧100≤m
     | _=>False
   | _=>False
 | _=>False
attribute [go_sem] B8W A8s St.hole takeC A8F St.takeS St.takeC
open Go.RowKit
def B5n (n:Nat) (e:TypeId) (t:Ty) (xs:List t.den):AV→AV
 | .c (.ow m)=>if m=n then .c (.rd [] e t xs) else .c (.ow m)
 | x=>x.kill [] [n]
def A7m (n:Nat) (e:TypeId) (t:Ty) (xs:List t.den):List AV→List AV
 | []=>[]
 | x::l=>B5n n e t xs x::A7m n e t xs l
def A4v (n:Nat):List (Nat × Ob)→List (Nat × Ob)
 | []=>[]
 | p :: l => if p.1 = n then A4v n l else match p.2 with
   | .box cs=>(p.1,.box (cs.map (CV.kill [] [n])))::A4v n l
   | o=>(p.1,o)::A4v n l
def St.free (σ:St) (n:Nat):St:=match σ.look n with
 | some (.row e t xs S) => match t.flat with
   | true=>⟨A7m n e t xs σ.tm,A4v n σ.ob⟩
   | false=>σ
 | _=>σ
theorem B7g (σ:St) (n:Nat) (hn:5 < n):Wk σ (σ.free n):=fun R0 w0 R a w hs=>by
 unfold St.free
 split
 case h_2=>exact⟨R,hs⟩
 rename_i e t xs S he
 split
 case h_2=>exact⟨R,hs⟩
 rename_i hf
 obtain⟨R',hR'⟩:∃R':Rz,R'={ R with root:=fun b=>if R.root b=n then 0 else R.root b }:=⟨_,rfl⟩
 have hok:∀S b,okS R S b→okS R' S b:=fun S b hb=>by
  show R'.root b=0∨R'.root b∈S
  rw[hR']
  simp only
  split
  · exact .inl rfl
  · exact hb
 have hrt:∀b m,m≠n→R.root b=m→R'.root b=m:=fun b m hm hb=>by rw[hR'];simp[hb,hm]
 have hbk:∀m,R'.bk m=R.bk m:=fun m=>by rw[hR']
 have hhd:∀m,R'.hd m=R.hd m:=fun m=>by rw[hR']
 have hC:∀(c:CV) (u:Value),VRc R w c u→VRc R' w (c.kill [] [n]) u:=fun c u h=>by
  unfold CV.kill
  split
  · trivial
  · rename_i hh
    simp only[CV.hit,Bool.or_eq_true,not_or,Bool.not_eq_true] at hh
    have hI:=W4 hh.2
    cases c with
    | sc v=>exact h
    | rd S e t xs=>exact Rd.mono h (hok S)
    | pt S t x k =>
      obtain⟨b,q,us,rfl,h1,h2,h3,h4⟩:=h;exact⟨b,q,us,rfl,hok S b h1,h2,h3,h4.mono (hok S)⟩
    | ow m=>show u=_;rw[hhd];exact h
    | po m k=>show u=.pointer (some ⟨_,k,none⟩);rw[hbk];exact h
    | pe m i wd k=>show u=.pointer (some ⟨_,i * wd+k,none⟩);rw[hbk];exact h
    | sub m i wd o e t xs =>
      have hm:m≠n:=by have:=hI m (by simp[CV.ids]);simpa using this
      obtain⟨h1,h2,h3⟩:=h;refine⟨by rw[hbk];exact h1,by rw[hbk];exact hrt _ _ hm h2,?_⟩
      rcases h3 with h3|⟨b,cap,cur,k1,k2,k3,k4,k5,k6,k7⟩
      · exact .inl h3
      · exact .inr ⟨b,cap,cur,k1,hrt _ _ hm k2,k3,k4,k5,k6,fun j hj=>(k7 j hj).mono (hok [])⟩
    | pi m i wd o j t x k =>
      have hm:m≠n:=by have:=hI m (by simp[CV.ids]);simpa using this
      obtain⟨b,l,cap,us,h1,h2,h3,h4,h5,h6,h7⟩:=h;exact⟨b,l,cap,us,by rw[hbk];exact h1,by rw[hbk];exact hrt _ _ hm h2,hrt _ _ hm h3,h4,h5,h6,h7.mono (hok [m])⟩
    | fn f l =>
      have h:u=_:=h
      show u=_
      rw[h]
      congr 2
      exact List.map_congr_left fun m _=>by rw[hbk]
    | bot=>trivial
 have hCs:∀(l:List CV) (us:List Value),VRs R w l us→VRs R' w (l.map (CV.kill [] [n])) us:=by
  intro l
  induction l with
  | nil=>intro us h;exact h
  | cons c l ih=>intro us h;obtain⟨u,us',rfl,h1,h2⟩:=h;exact⟨u,us',rfl,hC c u h1,ih us' h2⟩
 have hA:∀(x:AV) (u:Value),VR R w x u→VR R' w (x.kill [] [n]) u:=by
  intro x;refine AV.rec (motive_1:=fun x=>∀u,VR R w x u→VR R' w (x.kill [] [n]) u) (motive_2:=fun l=>∀us,VRt R w l us→VRt R' w (AV.killL [] [n] l) us) ?_ ?_ ?_ ?_ ?_ x
  · intro c u h;simp only[VR,AV.kill] at h ⊢;exact hC c u h
  · intro l u h;simp only[VR,AV.kill] at h ⊢;obtain⟨us,rfl,h1⟩:=h;exact⟨us,rfl,hCs l _ h1⟩
  · intro l ih u h;simp only[VR,AV.kill] at h ⊢;obtain⟨us,rfl,h1⟩:=h;exact⟨us,rfl,ih _ h1⟩
  · intro us h;simpa only [VRt,AV.killL] using h
  · intro x l h1 h2 us h;simp only[VRt,AV.killL] at h ⊢;obtain⟨u,us',rfl,h3,h4⟩:=h;exact⟨u,us',rfl,h1 u h3,h2 us' h4⟩
 have hrow:Rd (okS R' []) w (.row e t) [R.hd n] xs:=by
  have h1:=o6 (p:=.ow n) hs (u:=R.hd n) rfl (e:=e) (t:=t) (xs:=xs) (by simp[d6,he])
  have h2:x6 σ (.ow n)=n::S:=by simp[x6,he]
  obtain⟨ad,cap,k1,k2,k3,k4⟩:=h1;refine⟨ad,cap,k1,k2,k3,fun h0=>?_⟩
  obtain⟨b,q,rfl,k5,k6⟩:=k4 h0
  refine⟨b,q,rfl,?_,fun i hi=>?_⟩
  · -- the row's own block
    rcases hs.look he with⟨g1,g2⟩|⟨cap',cur,g1,g2,_⟩
    · subst g2;simp at h0
    · rw[g1] at k1;simp only[List.cons.injEq,Value.slice.injEq,Option.some.injEq,Addr.mk.injEq,and_true] at k1
      left
      rw[hR',←k1.1.1]
      simp[g2]
  · obtain⟨vs,m1,m2,m3⟩:=k6 i hi
    exact⟨vs,m1,m2,Rd.flat hf m3⟩
 have hL:∀(l:List AV) (us:List Value),VRt R w l us→VRt R' w (A7m n e t xs l) us:=by
  intro l
  induction l with
  | nil=>intro us h;simpa only [VRt,A7m] using h
  | cons x l ih =>
    intro us h
    simp only[VRt,A7m] at h ⊢
    obtain⟨u,us',rfl,h1,h2⟩:=h;refine⟨u,us',rfl,?_,ih us' h2⟩
    unfold B5n
    split
    · rename_i m
      split
      · rename_i e1
        subst e1;simp only[VR,VRc] at h1 ⊢
        rw[h1];exact hrow
      · simp only[VR,VRc] at h1 ⊢;rw[hhd];exact h1
    · exact hA _ _ h1
 have hO:∀l,obsOk R w l→obsOk R' w (A4v n l):=by
  intro l
  induction l with
  | nil=>intro _ p hp;simp[A4v] at hp
  | cons q l ih =>
    intro hl p hp
    have h1:=hl q List.mem_cons_self
    have ih':=ih (fun p hp=>hl p (List.mem_cons_of_mem _ hp))
    simp only[A4v] at hp
    split at hp
    · exact ih' p hp
    · rename_i hq
      obtain⟨m,o⟩:=q;simp only at hq h1 hp
      cases o with
      | box cs =>
        simp only[List.mem_cons] at hp
        rcases hp with rfl|hp
        · obtain⟨us,T,g1,g2,g3⟩:=h1;exact⟨us,T,by simp only;rw[hbk];exact g1,by simp only;rw[hbk];exact hrt _ _ hq g2,hCs _ _ g3⟩
        · exact ih' p hp
      | row e' t' xs' S' =>
        simp only[List.mem_cons] at hp
        rcases hp with rfl|hp
        · rcases h1 with⟨g1,g2⟩|⟨cap,cur,g1,g2,g3,g4,g5,g6,g7⟩
          · exact .inl ⟨by simp only;rw[hhd];exact g1,g2⟩
          · exact .inr ⟨cap,cur,by simp only;rw[hhd,hbk];exact g1,by simp only;rw[hbk];exact hrt _ _ hq g2,by simp only;rw[hbk];exact g3,g4,g5,g6,fun i hi=>(g7 i hi).mono (hok S')⟩
        · exact ih' p hp
      | tree e' t' xs' h' =>
        simp only[List.mem_cons] at hp
        rcases hp with rfl|hp
        · rcases h1 with⟨g1,g2⟩|⟨cap,cur,g1,g2,g3,g4,g5,g6,g7,g8⟩
          · exact .inl ⟨by simp only;rw[hhd];exact g1,g2⟩
          · exact .inr ⟨cap,cur,by simp only;rw[hhd,hbk];exact g1,by simp only;rw[hbk];exact hrt _ _ hq g2,by simp only;rw[hbk];exact g3,g4,g5,g6,fun i hi hh=>(g7 i hi hh).mv fun c b l k _ hr hlt=>⟨rfl,hrt _ _ hq hr⟩,by simp only;rw[hbk];exact g8⟩
        · exact ih' p hp
      | map t' xs' S' =>
        simp only[List.mem_cons] at hp
        rcases hp with rfl|hp
        · obtain⟨es,ck,g1,g2,g3,g4,g5⟩:=h1;exact⟨es,ck,by simp only;rw[hhd,hbk];exact g1,by simp only;rw[hbk];exact hrt _ _ hq g2,by simp only;rw[hbk];exact g3,g4,fun i hi=>(g5 i hi).mono (hok S')⟩
        · exact ih' p hp
 have hv:=hL _ _ hs.tm
 refine⟨R',?_,hv,hO _ hs.ob,hs.os,hs.tape,hs.output,hs.grow,fun b hb hr=>?_,fun m h1 h2=>⟨(hhd m).trans (hs.pl m h1 h2).1,(hbk m).trans (hs.pl m h1 h2).2⟩,hs.defers,hs.glob⟩
 · have:=hv.length;simp only;rw[←this];simp
 · obtain⟨k1,k2⟩:=hs.keep b hb hr
   refine⟨k1,?_⟩
   rw[hR']
   simp only
   rw[if_neg (by rw[k2];omega)]
   exact k2
attribute [go_sem] B5n A7m A4v St.free
attribute [go_sem] A9L PK.lenOk A5I GP.lenOk A11 GO.lenOk A5G Ty.lenOk Ty.flat implies_true forall_const
open Go.RowKit
def A06 (n:Nat) (e:TypeId) (t:Ty) (xs:List t.den):CV→CV
 | .ow m=>if m=n then .rd [] e t xs else .ow m
 | c=>c.kill [] [n]
def A9N (n:Nat) (e:TypeId) (t:Ty) (xs:List t.den):AV→AV
 | .c x=>.c (A06 n e t xs x)
 | .agg l=>.agg (l.map (A06 n e t xs))
 | x=>x.kill [] [n]
def A00 (n:Nat) (e:TypeId) (t:Ty) (xs:List t.den):List AV→List AV
 | []=>[]
 | x::l=>A9N n e t xs x::A00 n e t xs l
def k9 (n:Nat) (e:TypeId) (t:Ty) (xs:List t.den):List (Nat × Ob)→List (Nat × Ob)
 | []=>[]
 | p :: l => if p.1 = n then k9 n e t xs l else match p.2 with
   | .box cs=>(p.1,.box (cs.map (A06 n e t xs)))::k9 n e t xs l
   | o=>(p.1,o)::k9 n e t xs l
def St.freeB (σ:St) (n:Nat):St:=match σ.look n with
 | some (.tree e t xs none)=>⟨A00 n e t xs σ.tm,k9 n e t xs σ.ob⟩
 | _=>σ
theorem A5z (σ:St) (n:Nat) (hn:5 < n):Wk σ (σ.freeB n):=fun R0 w0 R a w hs=>by
 unfold St.freeB
 split
 case h_2=>exact⟨R,hs⟩
 rename_i e t xs he
 obtain⟨R',hR'⟩:∃R':Rz,R'={ R with root:=fun b=>if R.root b=n then 0 else R.root b }:=⟨_,rfl⟩
 have hok:∀S b,okS R S b→okS R' S b:=fun S b hb=>by
  show R'.root b=0∨R'.root b∈S
  rw[hR']
  simp only
  split
  · exact .inl rfl
  · exact hb
 have hrt:∀b m,m≠n→R.root b=m→R'.root b=m:=fun b m hm hb=>by rw[hR'];simp[hb,hm]
 have hbk:∀m,R'.bk m=R.bk m:=fun m=>by rw[hR']
 have hhd:∀m,R'.hd m=R.hd m:=fun m=>by rw[hR']
 have hC:∀(c:CV) (u:Value),VRc R w c u→VRc R' w (c.kill [] [n]) u:=fun c u h=>by
  unfold CV.kill
  split
  · trivial
  · rename_i hh
    simp only[CV.hit,Bool.or_eq_true,not_or,Bool.not_eq_true] at hh
    have hI:=W4 hh.2
    cases c with
    | sc v=>exact h
    | rd S e t xs=>exact Rd.mono h (hok S)
    | pt S t x k =>
      obtain⟨b,q,us,rfl,h1,h2,h3,h4⟩:=h;exact⟨b,q,us,rfl,hok S b h1,h2,h3,h4.mono (hok S)⟩
    | ow m=>show u=_;rw[hhd];exact h
    | po m k=>show u=.pointer (some ⟨_,k,none⟩);rw[hbk];exact h
    | pe m i wd k=>show u=.pointer (some ⟨_,i * wd+k,none⟩);rw[hbk];exact h
    | sub m i wd o e t xs =>
      have hm:m≠n:=by have:=hI m (by simp[CV.ids]);simpa using this
      obtain⟨h1,h2,h3⟩:=h;refine⟨by rw[hbk];exact h1,by rw[hbk];exact hrt _ _ hm h2,?_⟩
      rcases h3 with h3|⟨b,cap,cur,k1,k2,k3,k4,k5,k6,k7⟩
      · exact .inl h3
      · exact .inr ⟨b,cap,cur,k1,hrt _ _ hm k2,k3,k4,k5,k6,fun j hj=>(k7 j hj).mono (hok [])⟩
    | pi m i wd o j t x k =>
      have hm:m≠n:=by have:=hI m (by simp[CV.ids]);simpa using this
      obtain⟨b,l,cap,us,h1,h2,h3,h4,h5,h6,h7⟩:=h;exact⟨b,l,cap,us,by rw[hbk];exact h1,by rw[hbk];exact hrt _ _ hm h2,hrt _ _ hm h3,h4,h5,h6,h7.mono (hok [m])⟩
    | fn f l =>
      have h:u=_:=h
      show u=_
      rw[h]
      congr 2
      exact List.map_congr_left fun m _=>by rw[hbk]
    | bot=>trivial
 have hCs:∀(l:List CV) (us:List Value),VRs R w l us→VRs R' w (l.map (CV.kill [] [n])) us:=by
  intro l
  induction l with
  | nil=>intro us h;exact h
  | cons c l ih=>intro us h;obtain⟨u,us',rfl,h1,h2⟩:=h;exact⟨u,us',rfl,hC c u h1,ih us' h2⟩
 have hA:∀(x:AV) (u:Value),VR R w x u→VR R' w (x.kill [] [n]) u:=by
  intro x;refine AV.rec (motive_1:=fun x=>∀u,VR R w x u→VR R' w (x.kill [] [n]) u) (motive_2:=fun l=>∀us,VRt R w l us→VRt R' w (AV.killL [] [n] l) us) ?_ ?_ ?_ ?_ ?_ x
  · intro c u h;simp only[VR,AV.kill] at h ⊢;exact hC c u h
  · intro l u h;simp only[VR,AV.kill] at h ⊢;obtain⟨us,rfl,h1⟩:=h;exact⟨us,rfl,hCs l _ h1⟩
  · intro l ih u h;simp only[VR,AV.kill] at h ⊢;obtain⟨us,rfl,h1⟩:=h;exact⟨us,rfl,ih _ h1⟩
  · intro us h;simpa only [VRt,AV.killL] using h
  · intro x l h1 h2 us h;simp only[VRt,AV.killL] at h ⊢;obtain⟨u,us',rfl,h3,h4⟩:=h;exact⟨u,us',rfl,h1 u h3,h2 us' h4⟩
 have hok2:∀b,okS R [n] b→okS R' [] b:=fun b hb=>by
  left
  rw[hR']
  simp only
  rcases hb with hb|hb
  · split<;>simp_all
  · simp at hb;rw[if_pos hb]
 have hrow:Rd (okS R' []) w (.row e t) [R.hd n] xs:=by
  have h1:=o6 (p:=.ow n) hs (u:=R.hd n) rfl (e:=e) (t:=t) (xs:=xs) (by simp[d6,he])
  have h2:x6 σ (.ow n)=[n]:=by simp[x6,he]
  rw[h2] at h1;exact h1.mono hok2
 have hD:∀(c:CV) (u:Value),VRc R w c u→VRc R' w (A06 n e t xs c) u:=fun c u h=>by
  unfold A06
  split
  · rename_i m
    split
    · rename_i e1
      subst e1;have h:u=_:=h
      show Rd _ _ _ _ _
      rw[h];exact hrow
    · show u=_;rw[hhd];exact h
  · exact hC _ _ h
 have hDs:∀(l:List CV) (us:List Value),VRs R w l us→VRs R' w (l.map (A06 n e t xs)) us:=by
  intro l
  induction l with
  | nil=>intro us h;exact h
  | cons c l ih=>intro us h;obtain⟨u,us',rfl,h1,h2⟩:=h;exact⟨u,us',rfl,hD c u h1,ih us' h2⟩
 have hL:∀(l:List AV) (us:List Value),VRt R w l us→VRt R' w (A00 n e t xs l) us:=by
  intro l
  induction l with
  | nil=>intro us h;simpa only [VRt,A00] using h
  | cons x l ih =>
    intro us h
    simp only[VRt,A00] at h ⊢
    obtain⟨u,us',rfl,h1,h2⟩:=h;refine⟨u,us',rfl,?_,ih us' h2⟩
    unfold A9N
    split
    · simp only[VR] at h1 ⊢;exact hD _ _ h1
    · simp only[VR] at h1 ⊢
      obtain⟨vs,rfl,h3⟩:=h1;exact⟨vs,rfl,hDs _ _ h3⟩
    · exact hA _ _ h1
 have hO:∀l,obsOk R w l→obsOk R' w (k9 n e t xs l):=by
  intro l
  induction l with
  | nil=>intro _ p hp;simp[k9] at hp
  | cons q l ih =>
    intro hl p hp
    have h1:=hl q List.mem_cons_self
    have ih':=ih (fun p hp=>hl p (List.mem_cons_of_mem _ hp))
    simp only[k9] at hp
    split at hp
    · exact ih' p hp
    · rename_i hq
      obtain⟨m,o⟩:=q;simp only at hq h1 hp
      cases o with
      | box cs =>
        simp only[List.mem_cons] at hp
        rcases hp with rfl|hp
        · obtain⟨us,T,g1,g2,g3⟩:=h1;exact⟨us,T,by simp only;rw[hbk];exact g1,by simp only;rw[hbk];exact hrt _ _ hq g2,hDs _ _ g3⟩
        · exact ih' p hp
      | row e' t' xs' S' =>
        simp only[List.mem_cons] at hp
        rcases hp with rfl|hp
        · rcases h1 with⟨g1,g2⟩|⟨cap,cur,g1,g2,g3,g4,g5,g6,g7⟩
          · exact .inl ⟨by simp only;rw[hhd];exact g1,g2⟩
          · exact .inr ⟨cap,cur,by simp only;rw[hhd,hbk];exact g1,by simp only;rw[hbk];exact hrt _ _ hq g2,by simp only;rw[hbk];exact g3,g4,g5,g6,fun i hi=>(g7 i hi).mono (hok S')⟩
        · exact ih' p hp
      | tree e' t' xs' h' =>
        simp only[List.mem_cons] at hp
        rcases hp with rfl|hp
        · rcases h1 with⟨g1,g2⟩|⟨cap,cur,g1,g2,g3,g4,g5,g6,g7,g8⟩
          · exact .inl ⟨by simp only;rw[hhd];exact g1,g2⟩
          · exact .inr ⟨cap,cur,by simp only;rw[hhd,hbk];exact g1,by simp only;rw[hbk];exact hrt _ _ hq g2,by simp only;rw[hbk];exact g3,g4,g5,g6,fun i hi hh=>(g7 i hi hh).mv fun c b l k _ hr hlt=>⟨rfl,hrt _ _ hq hr⟩,by simp only;rw[hbk];exact g8⟩
        · exact ih' p hp
      | map t' xs' S' =>
        simp only[List.mem_cons] at hp
        rcases hp with rfl|hp
        · obtain⟨es,ck,g1,g2,g3,g4,g5⟩:=h1;exact⟨es,ck,by simp only;rw[hhd,hbk];exact g1,by simp only;rw[hbk];exact hrt _ _ hq g2,by simp only;rw[hbk];exact g3,g4,fun i hi=>(g5 i hi).mono (hok S')⟩
        · exact ih' p hp
 have hv:=hL _ _ hs.tm
 refine⟨R',?_,hv,hO _ hs.ob,hs.os,hs.tape,hs.output,hs.grow,fun b hb hr=>?_,fun m h1 h2=>⟨(hhd m).trans (hs.pl m h1 h2).1,(hbk m).trans (hs.pl m h1 h2).2⟩,hs.defers,hs.glob⟩
 · have:=hv.length;simp only;rw[←this];simp
 · obtain⟨k1,k2⟩:=hs.keep b hb hr
   refine⟨k1,?_⟩
   rw[hR']
   simp only
   rw[if_neg (by rw[k2];omega)]
   exact k2
attribute [go_sem] A06 A9N A00 k9 St.freeB
open Go.RowKit
open Go.RowKit
def St.takeT (σ:St) (j m:Nat):St :=
 match σ.tm[j]? with
 | some (.c (.sub n i wd o e t xs))=>⟨(AV.killL [n] [m] σ.tm).set j (.c (.ow m)),(m,.row e t xs [])::M0 [n] [m] σ.ob⟩
 | _=>σ
def St.takeTC (σ:St) (j m:Nat):Prop :=
 match σ.tm[j]? with
 | some (.c (.sub n i wd o e t xs))=>5 < n∧n≠m∧100≤m
 | _=>False
attribute [go_sem] St.takeT St.takeTC
open Go.RowKit
class Nm (p:Prop) (q:outParam Prop):Prop where
 mp:p→q
instance (priority:=low) nmId {p:Prop}:Nm p p:=⟨id⟩
instance nmDt {p q:Prop} [Decidable p] [h:Nm p q]:Nm (decide p=true) q:=⟨fun e=>h.mp (of_decide_eq_true e)⟩
instance nmDf {p q:Prop} [Decidable p] [h:Nm (¬p) q]:Nm (decide p=false) q:=⟨fun e=>h.mp (of_decide_eq_false e)⟩
instance nmNt {b:Bool} {q:Prop} [h:Nm (b=false) q]:Nm ((!b)=true) q:=⟨fun e=>h.mp (by simpa using e)⟩
instance nmNf {b:Bool} {q:Prop} [h:Nm (b=true) q]:Nm ((!b)=false) q:=⟨fun e=>h.mp (by simpa using e)⟩
instance nmLt {a b:Int}:Nm (¬a < b) (b≤a):=⟨Int.not_lt.1⟩
instance nmLe {a b:Int}:Nm (¬a≤b) (b < a):=⟨Int.not_le.1⟩
theorem oC {P:Program} {σ:St} {Q:Exit→St→Prop} {c:Operand} {x y:Code} {b:Bool} {p q:Prop} [h1:Nm (b=true) p] [h2:Nm (b=false) q] (hc:σ.ev c=.c (.sc (.bool b)))
 (ht:p→AWP P x σ Q) (hf:q→AWP P y σ Q):AWP P (.cond c x y) σ Q:=D5 hc (fun e=>ht (h1.mp e)) (fun e=>hf (h2.mp e))
theorem oA {p q:Prop} (k:q) (h:p:=by first|omega|exact⟨rfl,by omega,by omega,by omega⟩):p∧q:=⟨h,k⟩
theorem oD {p q:Prop} (k:q) (h:p:=by first|exact B6G (by kernel_rfl)|omega|exact⟨rfl,by omega,by omega,by omega⟩):p∧q:=⟨h,k⟩
theorem oF {σ:St} {ids:List (Option Nat)} (h:m5 σ ids=true:=by rfl) (k:ids.length≤8:=by decide):B2l σ ids:=B4w h k
theorem oG {σ τ:St} (h:σ.toOk τ=true:=by rfl):B2N σ τ:=B3g h
theorem oS {P:Program} {σ:St} {Q:Exit→St→Prop} {x y:Code} (h:∀K:St→Prop,(∀σ',AWP P y σ' Q→K σ')→AWP P x σ (A65 K Q)):AWP P (.seq x y) σ Q:=B4Y h
theorem oFr {α:Type} {x y:α} {σ:St} {ids:List (Option Nat)} (h:x=y:=by rfl) (k:m5 σ ids=true:=by rfl) (l:ids.length≤8:=by decide):x=y∧B2l σ ids:=⟨h,k,l⟩
theorem oK {σ τ:St} (h2:(σ.to τ).tm=τ.tm∧A7b τ.ob (σ.to τ).ob) (h:σ.toOk τ=true:=by kernel_rfl):Wk σ τ:=B8T h h2
class Ng (p:Prop) (q:outParam Prop):Prop where
 mp:p→q
instance (priority:=low) ngId {p:Prop}:Ng p p:=⟨id⟩
instance ngDt {p:Prop} [Decidable p]:Ng (decide p=true) p:=⟨of_decide_eq_true⟩
instance ngDf {p:Prop} [Decidable p]:Ng (decide p=false) (¬p):=⟨of_decide_eq_false⟩
instance ngNt {b:Bool} {q:Prop} [h:Ng (b=false) q]:Ng ((!b)=true) q:=⟨fun e=>h.mp (by simpa using e)⟩
instance ngNf {b:Bool} {q:Prop} [h:Ng (b=true) q]:Ng ((!b)=false) q:=⟨fun e=>h.mp (by simpa using e)⟩
theorem oT {b:Bool} {p q P Q:Prop} [h1:Ng (b=true) p] [h2:Ng (b=false) q] (h:p→P) (k:q→Q):A0V b true P Q:=⟨fun e=>h (h1.mp e),fun e=>k (h2.mp e)⟩
theorem oE {b:Bool} {p q P Q:Prop} [h1:Ng (b=false) p] [h2:Ng (b=true) q] (h:p→P) (k:q→Q):A0V b false P Q:=⟨fun e=>h (h1.mp e),fun e=>k (h2.mp e)⟩
theorem F8 {P:Program} {T:G4} {n:FuncId} {K:Con} (h:C8 P n K) (k:B75 P n) (hT:B5 P T):B5 P (fun f=>if f=n then some (.p K) else T f):=fun f k' e=>by
 dsimp only at e
 split at e
 · rename_i e2;cases e;subst e2;exact⟨h,k⟩
 · exact hT f k' e
theorem A0M {P:Program} {T:G4} {n:FuncId} {K:GCon} (h:l6 P n K) (k:B75 P n) (hT:B5 P T):B5 P (fun f=>if f=n then some (.g K) else T f):=fun f k' e=>by
 dsimp only at e
 split at e
 · rename_i e2;cases e;subst e2;exact⟨h,k⟩
 · exact hT f k' e
theorem W6 {P:Program} {T U:G4} (hT:B5 P T) (hU:B5 P U):B5 P (fun f=>match T f with|some k=>some k|none=>U f):=fun f k h=>by
 dsimp only at h
 split at h
 · rename_i e;cases h;exact hT f _ e
 · exact hU f k h
theorem zA {p:Prop} [Decidable p]:(decide p=true)=p:=decide_eq_true_eq
theorem zB {p:Prop} [Decidable p]:(decide p=false)=¬p:=propext decide_eq_false_iff_not
theorem zC (b:Bool):((!b)=true)=(b=false):=by simp
theorem zD (b:Bool):((!b)=false)=(b=true):=by simp
theorem zE {α:Type} (a b:α):(a≠b)=¬(a=b):=rfl
theorem zF {a b:Int}:(¬a < b)=(b≤a):=propext Int.not_lt
theorem zG {a b:Int}:(¬a≤b)=(b < a):=propext Int.not_le
theorem zH:(true=false)=False:=by simp
theorem zI:(false=true)=False:=by simp
end Go.Proofs.YtenjbehedcegdaaGreat
