/-
  Texts of this claim, joined (part 19). No condition beyond those of the theorems.
-/
import Derived.Test.YtflobmmbhaofbaaGreatQ04
set_option linter.unusedSimpArgs false
set_option linter.unusedVariables false
namespace Go.Proofs.YtflobmmbhaofbaaGreat
open Go.RowKit
def G6 (E:Nat→Nat→Bool):Nat→List Int × Int
 | 0=>([],0)
 | i + 1 => match (List.range i).find? (fun k => E k i) with
   | some k=>((G6 E i).1++[(G6 E i).1.getD k 0],(G6 E i).2)
   | none=>((G6 E i).1++[(G6 E i).2],(G6 E i).2+1)
def y4 (E:Nat→Nat→Bool) (i:Nat):List Nat→Nat
 | []=>0
 | k::l=>match E k i with|true=>0|false=>y4 E i l+1
def E1 (E:Nat→Nat→Bool):Nat→List Int × List Nat
 | 0=>([],[])
 | i + 1 => match decide (y4 E i (E1 E i).2 < (E1 E i).2.length) with
   | true=>((E1 E i).1++[(y4 E i (E1 E i).2:Int)],(E1 E i).2)
   | false=>((E1 E i).1++[((E1 E i).2.length:Int)],(E1 E i).2++[i])
theorem B0J (E:Nat→Nat→Bool) (i:Nat):∀l:List Nat,y4 E i l≤l.length∧(∀j,j < y4 E i l→E (l.getD j 0) i=false)∧(y4 E i l < l.length→E (l.getD (y4 E i l) 0) i=true):=by
 intro l
 induction l with
 | nil=>exact⟨Nat.le_refl _,fun j hj=>absurd hj (Nat.not_lt_zero _),fun h=>absurd h (Nat.lt_irrefl _)⟩
 | cons k l ih =>
   unfold y4;cases e:E k i with
   | true=>exact⟨by simp,fun j hj=>absurd hj (Nat.not_lt_zero _),fun _=>by simpa using e⟩
   | false =>
     simp only[List.length_cons];refine⟨by omega,fun j hj=>?_,fun hl=>?_⟩
     · cases j with
       | zero=>simpa using e
       | succ j=>simpa using ih.2.1 j (by omega)
     · simpa using ih.2.2 (by omega)
theorem B6C {E E':Nat→Nat→Bool} {i:Nat}:∀{l:List Nat},(∀k∈l,E k i=E' k i)→y4 E i l=y4 E' i l:=by
 intro l
 induction l with
 | nil=>intro _;rfl
 | cons k l ih=>intro h;unfold y4;rw[h k List.mem_cons_self,ih fun k hk=>h k (List.mem_cons_of_mem _ hk)]
structure DivOk (E:Nat→Nat→Bool) (i:Nat) (d:List Int × List Nat):Prop where
 len:d.1.length=i
 lt:∀c,c < d.2.length→d.2.getD c 0 < i
 at_:∀k,k < i→∃c:Nat,d.1.getD k 0=(c:Int)∧c < d.2.length∧E (d.2.getD c 0) k=true
 ne:∀c c',c < c'→c' < d.2.length→E (d.2.getD c 0) (d.2.getD c' 0)=false
theorem m9 {α:Type} {l:List α} {x d:α} {k:Nat} (h:k < l.length):(l++[x]).getD k d=l.getD k d:=by
 rw[List.getD_eq_getElem?_getD,List.getD_eq_getElem?_getD,List.getElem?_append_left h]
theorem A1G {α:Type} {l:List α} {x d:α} {k:Nat} (h:k=l.length):(l++[x]).getD k d=x:=by
 subst h;simp[List.getD]
section
variable {E:Nat→Nat→Bool} {n:Nat} (rfl':∀k,E k k=true) (sym:∀k i,E k i=true→E i k=true) (tr:∀k i j,E k i=true→E i j=true→E k j=true)
include rfl' in
theorem n9:∀i,DivOk E i (E1 E i):=by
 intro i
 induction i with
 | zero=>exact⟨rfl,fun c hc=>absurd hc (Nat.not_lt_zero _),fun k hk=>absurd hk (Nat.not_lt_zero _),fun c c' _ hc=>absurd hc (Nat.not_lt_zero _)⟩
 | succ i ih =>
   obtain⟨g1,g2,g3⟩:=B0J E i (E1 E i).2
   simp only[E1]
   by_cases c:y4 E i (E1 E i).2 < (E1 E i).2.length
   · rw[decide_eq_true c];refine⟨by simp[ih.len],fun q hq=>by have:=ih.lt q hq;simp only;omega,fun k hk=>?_,ih.ne⟩
     rcases Nat.lt_succ_iff_lt_or_eq.1 hk with h|h
     · obtain⟨q,q1,q2,q3⟩:=ih.at_ k h
       exact⟨q,by simp only;rw[m9 (by rw[ih.len];exact h)];exact q1,q2,q3⟩
     · subst h;exact⟨_,by simp only;rw[A1G ih.len.symm],c,g3 c⟩
   · rw[decide_eq_false c];refine⟨by simp[ih.len],fun q hq=>?_,fun k hk=>?_,fun q q' hqq hq'=>?_⟩
     · simp only[List.length_append,List.length_singleton] at hq ⊢
       rcases Nat.lt_succ_iff_lt_or_eq.1 hq with h|h
       · rw[m9 h];have:=ih.lt q h;omega
       · rw[A1G h];omega
     · simp only
       rcases Nat.lt_succ_iff_lt_or_eq.1 hk with h|h
       · obtain⟨q,q1,q2,q3⟩:=ih.at_ k h
         exact⟨q,by rw[m9 (by rw[ih.len];exact h)];exact q1,by simp;omega,by rw[m9 q2];exact q3⟩
       · subst h;exact⟨(E1 E k).2.length,by rw[A1G ih.len.symm],by simp,by rw[A1G rfl];exact rfl' k⟩
     · simp only[List.length_append,List.length_singleton] at hq' ⊢
       rcases Nat.lt_succ_iff_lt_or_eq.1 hq' with h|h
       · rw[m9 h,m9 (by omega)];exact ih.ne q q' hqq h
       · rw[A1G h,m9 (by omega)];exact g2 q (by omega)
include sym tr in
theorem DivOk.uniq {i:Nat} {d:List Int × List Nat} (h:DivOk E i d) {c c':Nat} (hc:c < d.2.length) (hc':c' < d.2.length) {k:Nat} (h1:E (d.2.getD c 0) k=true) (h2:E (d.2.getD c' 0) k=true):c=c':=by
 have h3:=tr _ _ _ h1 (sym _ _ h2)
 rcases Nat.lt_trichotomy c c' with e|e|e
 · rw[h.ne c c' e hc'] at h3;cases h3
 · exact e
 · have h4:=sym _ _ h3
   rw[h.ne c' c e hc] at h4;cases h4
include sym tr in
theorem DivOk.rel {i:Nat} {d:List Int × List Nat} (h:DivOk E i d) {k j:Nat} (hk:k < i) (hj:j < i):d.1.getD k 0=d.1.getD j 0↔E k j=true:=by
 obtain⟨c,c1,c2,c3⟩:=h.at_ k hk
 obtain⟨c',c1',c2',c3'⟩:=h.at_ j hj
 rw[c1,c1']
 constructor
 · intro e;obtain rfl:c=c':=by omega
   exact tr _ _ _ (sym _ _ c3) c3'
 · intro e;rw[h.uniq sym tr c2 c2' (tr _ _ _ c3 e) c3']
include rfl' sym tr in
theorem w3:∀i,G6 E i=((E1 E i).1,((E1 E i).2.length:Int)):=by
 intro i
 induction i with
 | zero=>rfl
 | succ i ih =>
   have h:=n9 rfl' (E:=E) i
   obtain⟨g1,g2,g3⟩:=B0J E i (E1 E i).2
   simp only[G6,E1];rw[ih];cases e:(List.range i).find? (fun k=>E k i) with
   | none =>
     have hn:¬y4 E i (E1 E i).2 < (E1 E i).2.length:=fun c=>by
      have:=g3 c
      have h2:=List.find?_eq_none.1 e _ (List.mem_range.2 (h.lt _ c))
      exact h2 this
     rw[decide_eq_false hn];simp
   | some k =>
     have h1:E k i=true:=by simpa using List.find?_some e
     have h2:k < i:=List.mem_range.1 (List.mem_of_find?_eq_some e)
     obtain⟨c,c1,c2,c3⟩:=h.at_ k h2
     have c4:=tr _ _ _ c3 h1
     have hc:y4 E i (E1 E i).2 < (E1 E i).2.length:=Nat.lt_of_le_of_ne g1 fun e2=>by
      have:=g2 c (by omega);rw[c4] at this;cases this
     have:y4 E i (E1 E i).2=c:=h.uniq sym tr hc c2 (g3 hc) c4
     rw[decide_eq_true hc];simp only
     rw[c1,this]
end
def C3 {κ:Type} [DecidableEq κ] (f:Nat→κ) (k i:Nat):Bool:=decide (f k=f i)
section
variable {κ:Type} [DecidableEq κ] {f:Nat→κ}
theorem I1 (k:Nat):C3 f k k=true:=decide_eq_true rfl
theorem P0 (k i:Nat) (h:C3 f k i=true):C3 f i k=true:=decide_eq_true (of_decide_eq_true h).symm
theorem V0 (k i j:Nat) (h1:C3 f k i=true) (h2:C3 f i j=true):C3 f k j=true:=decide_eq_true ((of_decide_eq_true h1).trans (of_decide_eq_true h2))
def P9 (f:Nat→κ) (n:Nat):List Int:=(E1 (C3 f) n).1
def S7 (f:Nat→κ) (n:Nat):Nat:=(E1 (C3 f) n).2.length
theorem Y5 (f:Nat→κ) (n:Nat):DivOk (C3 f) n (E1 (C3 f) n):=n9 I1 n
theorem B7y (f:Nat→κ) (n:Nat):(P9 f n).length=n:=(Y5 f n).len
theorem X1 {n k j:Nat} (hk:k < n) (hj:j < n):(P9 f n).getD k 0=(P9 f n).getD j 0↔f k=f j:=by
 have:=(Y5 f n).rel P0 V0 hk hj
 unfold P9;rw[this];exact⟨of_decide_eq_true,decide_eq_true⟩
theorem B0U {n k:Nat} (hk:k < n):0≤(P9 f n).getD k 0∧(P9 f n).getD k 0 < S7 f n:=by
 obtain⟨c,c1,c2,_⟩:=(Y5 f n).at_ k hk
 unfold P9 S7;rw[c1];omega
theorem Z7 (f:Nat→κ):∀n,S7 f n≤n:=by
 intro n
 induction n with
 | zero=>exact Nat.le_refl _
 | succ n ih =>
   unfold S7 at *
   simp only[E1]
   split
   · simp only;omega
   · simp only[List.length_append,List.length_singleton];omega
end
theorem A71 {κ κ':Type} [DecidableEq κ] [DecidableEq κ'] {f:Nat→κ} {g:Nat→κ'} {n:Nat} (h:∀k i,k < n→i < n→(f k=f i↔g k=g i)):∀i,i≤n→E1 (C3 f) i=E1 (C3 g) i:=by
 intro i
 induction i with
 | zero=>intro _;rfl
 | succ i ih =>
   intro hi;have e:=ih (by omega)
   have e2:y4 (C3 f) i (E1 (C3 g) i).2=y4 (C3 g) i (E1 (C3 g) i).2:=B6C fun k hk=>by
    have hok:=Y5 g i
    obtain⟨c,hc,rfl⟩:=List.mem_iff_getElem.1 hk
    have hlt:=hok.lt c hc
    rw[List.getD_eq_getElem?_getD,List.getElem?_eq_getElem hc] at hlt
    simp only[C3];exact decide_eq_decide.2 (h _ _ (by simpa using Nat.lt_trans hlt (by omega)) (by omega))
   simp only[E1];rw[e,e2]
theorem B4a {κ κ':Type} [DecidableEq κ] [DecidableEq κ'] {f:Nat→κ} {g:Nat→κ'} {n:Nat} (hr:∀k i,k < n→i < n→f k=f i→g k=g i) (hc:S7 f n≤S7 g n):P9 f n=P9 g n∧S7 f n=S7 g n:=by
 have key:∀k i,k < n→i < n→(f k=f i↔g k=g i):=by
  -- the first ones of g's classes lie in different classes of f; there are as many
  have F:=Y5 f n
  have G':=Y5 g n
  have gne:∀c c',c < (E1 (C3 g) n).2.length→c' < (E1 (C3 g) n).2.length→g ((E1 (C3 g) n).2.getD c 0)=g ((E1 (C3 g) n).2.getD c' 0)→c=c':=fun c c' h1 h2 e =>
   G'.uniq P0 V0 h1 h2 (k:=(E1 (C3 g) n).2.getD c' 0) (decide_eq_true e) (I1 _)
  -- each class of f has one of g: an injection from g's classes into f's
  obtain⟨m,hm⟩:∃m:Nat→Nat,∀c,c < (E1 (C3 g) n).2.length→m c < (E1 (C3 f) n).2.length∧f ((E1 (C3 f) n).2.getD (m c) 0)=f ((E1 (C3 g) n).2.getD c 0):=by
   refine⟨fun c=>((E1 (C3 f) n).1.getD ((E1 (C3 g) n).2.getD c 0) 0).toNat,fun c hc'=>?_⟩
   obtain⟨q,q1,q2,q3⟩:=F.at_ _ (G'.lt c hc')
   simp only[q1,Int.toNat_natCast];exact⟨q2,of_decide_eq_true q3⟩
  have minj:∀c c',c < (E1 (C3 g) n).2.length→c' < (E1 (C3 g) n).2.length→m c=m c'→c=c':=fun c c' h1 h2 e=>by
   obtain⟨_,e1⟩:=hm c h1
   obtain⟨_,e2⟩:=hm c' h2
   rw[e,e2] at e1;exact gne c c' h1 h2 (hr _ _ (G'.lt _ h1) (G'.lt _ h2) e1.symm)
  -- so it is onto
  have onto:∀q,q < (E1 (C3 f) n).2.length→∃c,c < (E1 (C3 g) n).2.length∧m c=q:=fun q hq=>by
   have h1:((List.range (E1 (C3 g) n).2.length).map fun c=>(m c:Int)).Nodup:=by
    rw[List.nodup_iff_pairwise_ne,List.pairwise_map];refine List.Pairwise.imp_of_mem (R:=fun a b=>a < b) ?_ List.pairwise_lt_range
    intro a b ha hb hab e
    have:=minj a b (List.mem_range.1 ha) (List.mem_range.1 hb) (by omega)
    omega
   have h2:∀x∈(List.range (E1 (C3 g) n).2.length).map fun c=>(m c:Int),0≤x∧x < ((E1 (C3 f) n).2.length:Int):=fun x hx=>by
    obtain⟨c,hc',rfl⟩:=List.mem_map.1 hx
    have:=(hm c (List.mem_range.1 hc')).1
    omega
   have h3:((List.range (E1 (C3 g) n).2.length).map fun c=>(m c:Int)).length=(E1 (C3 f) n).2.length:=by
    have:=B5d _ _ h1 h2
    simp only[List.length_map,List.length_range] at this ⊢
    unfold S7 at hc;omega
   have h4:=full h1 h2 h3 q hq
   obtain⟨c,hc',e⟩:=List.mem_map.1 h4
   exact⟨c,List.mem_range.1 hc',by omega⟩
  intro k i hk hi
  refine⟨hr k i hk hi,fun e=>?_⟩
  obtain⟨q,q1,q2,q3⟩:=F.at_ k hk
  obtain⟨q',q1',q2',q3'⟩:=F.at_ i hi
  obtain⟨c,c1,rfl⟩:=onto q q2
  obtain⟨c',c1',rfl⟩:=onto q' q2'
  have a1:=(hm c c1).2
  have a2:=(hm c' c1').2
  have b1:g ((E1 (C3 g) n).2.getD c 0)=g k:=hr _ _ (G'.lt _ c1) hk (a1.symm.trans (of_decide_eq_true q3))
  have b2:g ((E1 (C3 g) n).2.getD c' 0)=g i:=hr _ _ (G'.lt _ c1') hi (a2.symm.trans (of_decide_eq_true q3'))
  have:=gne c c' c1 c1' (b1.trans (e.trans b2.symm))
  subst this;exact(of_decide_eq_true q3:_=_).symm.trans (of_decide_eq_true q3')
 have:=A71 key n (Nat.le_refl _)
 unfold P9 S7;rw[this];exact⟨rfl,rfl⟩
open Go.RowKit
def V3 (ts:List (List Int)) (n:A4):Int × Int × Int × List Int:=match decide (n.1=13) with
 | true=>(n.1,n.2.2.1,0,ts.getD n.2.1.toNat [])
 | false=>(n.1,n.2.2.1,n.2.1,[])
def A2W (ts:List (List Int)) (a b:A4):Bool:=decide (V3 ts a=V3 ts b)
theorem A0r {ts:List (List Int)} {n:A4} (h:n.1=13):V3 ts n=(n.1,n.2.2.1,0,ts.getD n.2.1.toNat []):=by unfold V3;rw[decide_eq_true h]
theorem A0w {ts:List (List Int)} {n:A4} (h:¬n.1=13):V3 ts n=(n.1,n.2.2.1,n.2.1,[]):=by unfold V3;rw[decide_eq_false h]
theorem o7 {ts:List (List Int)} {n:A4}:(V3 ts n).1=n.1∧(V3 ts n).2.1=n.2.2.1:=by unfold V3;split<;>exact⟨rfl,rfl⟩
theorem B74 {ts:List (List Int)} {a b:A4} (h:¬a.1=b.1):A2W ts a b=false:=decide_eq_false fun e=>h (by rw[←(o7 (ts:=ts) (n:=a)).1,e,o7.1])
theorem B6x {ts:List (List Int)} {a b:A4} (h:¬a.2.2.1=b.2.2.1):A2W ts a b=false:=decide_eq_false fun e=>h (by rw[←(o7 (ts:=ts) (n:=a)).2,e,o7.2])
theorem B4N {ts:List (List Int)} {a b:A4} (h1:a.1=b.1) (h2:a.2.2.1=b.2.2.1) (h3:a.1=13):A2W ts a b=eqD (ts.getD a.2.1.toNat []) (ts.getD b.2.1.toNat []):=by
 unfold A2W eqD;rw[A0r h3,A0r (h1 ▸ h3)]
 exact decide_eq_decide.2 ⟨fun e=>congrArg (fun (z:Int × Int × Int × List Int)=>z.2.2.2) e,fun e=>by rw[h1,h2,e]⟩
theorem B9I {ts:List (List Int)} {a b:A4} (h1:a.1=b.1) (h2:a.2.2.1=b.2.2.1) (h3:¬a.1=13):A2W ts a b=decide (a.2.1=b.2.1):=by
 unfold A2W;rw[A0w h3,A0w (h1 ▸ h3)]
 exact decide_eq_decide.2 ⟨fun e=>congrArg (fun (z:Int × Int × Int × List Int)=>z.2.2.1) e,fun e=>by rw[h1,h2,e]⟩
theorem B0T {ts:List (List Int)} {a b:A4} (h:A2W ts a b=true):a.1=b.1:=by
 have e:=of_decide_eq_true h
 rw[←(o7 (ts:=ts) (n:=a)).1,e,o7.1]
def I3 (n:A4):Bool:=decide (n.1=3) || decide (n.1=9)
def srt:List Int→List Int
 | [a,b]=>match decide (b < a) with|true=>[b,a]|false=>[a,b]
 | l=>l
def H2 (cl fr:List Int):List Int:=fr.map fun q=>cl.getD q.toNat 0
def A0t (n:A4) (cl:List Int):List Int:=match I3 n with|true=>srt (H2 cl n.2.2.2)|false=>H2 cl n.2.2.2
theorem V6 {n:A4} {cl:List Int} (h:I3 n=true):A0t n cl=srt (H2 cl n.2.2.2):=by unfold A0t;rw[h]
theorem Z1 {n:A4} {cl:List Int} (h:I3 n=false):A0t n cl=H2 cl n.2.2.2:=by unfold A0t;rw[h]
def A16 (ts:List (List Int)) (cl:List Int) (a b:A4):Bool:=A2W ts a b && eqD (A0t a cl) (A0t b cl)
theorem A8i {x y:List Int} (hx:x.length=2) (hy:y.length=2):srt x=srt y↔x=y∨(x.getD 0 0=y.getD 1 0∧x.getD 1 0=y.getD 0 0):=by
 match x,y,hx,hy with
 | [a, b], [c, d], _, _ =>
   simp only[srt]
   by_cases h1:b < a<;>by_cases h2:d < c<;>simp only[h1,h2,decide_true,decide_false,List.cons.injEq,and_true,List.getD_cons_zero,List.getD_cons_succ]<;>omega
theorem B63 {ts:List (List Int)} {cl:List Int} {a b:A4} (hk:A2W ts a b=true) (ha:I3 a=true→a.2.2.2.length=2) (hb:I3 b=true→b.2.2.2.length=2) :
 A16 ts cl a b=(eqD (H2 cl a.2.2.2) (H2 cl b.2.2.2) || (I3 a && (decide ((H2 cl a.2.2.2).getD 0 0=(H2 cl b.2.2.2).getD 1 0) && decide ((H2 cl a.2.2.2).getD 1 0=(H2 cl b.2.2.2).getD 0 0)))):=by
 unfold A16;rw[hk,Bool.true_and];have hsw:I3 b=I3 a:=by unfold I3;rw[B0T hk]
 cases h:I3 a with
 | false =>
   rw[Z1 h,Z1 (by rw[hsw];exact h)];simp
 | true =>
   have l1:(H2 cl a.2.2.2).length=2:=by simp[H2,ha h]
   have l2:(H2 cl b.2.2.2).length=2:=by simp[H2,hb (by rw[hsw];exact h)]
   rw[V6 h,V6 (by rw[hsw];exact h)]
   unfold eqD;rw[Bool.true_and,←Bool.decide_and,←Bool.decide_or];exact decide_eq_decide.2 (A8i l1 l2)
abbrev C1F:=Int × (Int × Int × Int × List Int) × List Int
def Q6 (ts:List (List Int)) (ns:List A4) (cl:List Int) (i:Nat):C1F:=(cl.getD i 0,V3 ts (ns.getD i n0),A0t (ns.getD i n0) cl)
def J7 (ts:List (List Int)) (ns:List A4) (i:Nat):Int × Int × Int × List Int:=V3 ts (ns.getD i n0)
theorem C0U {ts:List (List Int)} {ns:List A4} {k i:Nat}:C3 (J7 ts ns) k i=A2W ts (ns.getD k n0) (ns.getD i n0):=rfl
theorem B5I {ts:List (List Int)} {ns:List A4} {cl:List Int} {k i:Nat}:C3 (Q6 ts ns cl) k i=(decide (cl.getD k 0=cl.getD i 0) && A16 ts cl (ns.getD k n0) (ns.getD i n0)):=by
 unfold C3 Q6 A16 A2W eqD;rw[←Bool.decide_and,←Bool.decide_and];exact decide_eq_decide.2 (by simp only[Prod.mk.injEq])
def M4 (ts:List (List Int)) (ns:List A4):Nat→List Int
 | 0=>P9 (J7 ts ns) ns.length
 | j+1=>P9 (Q6 ts ns (M4 ts ns j)) ns.length
def A4p (ts:List (List Int)) (ns:List A4):Nat→Nat
 | 0=>S7 (J7 ts ns) ns.length
 | j+1=>S7 (Q6 ts ns (M4 ts ns j)) ns.length
def H1 (ts:List (List Int)) (ns:List A4):List Int:=M4 ts ns ns.length
section
variable {ts:List (List Int)} {ns:List A4}
theorem A2b:∀j,∃(κ:Type) (_:DecidableEq κ) (g:Nat→κ),M4 ts ns j=P9 g ns.length∧A4p ts ns j=S7 g ns.length:=by
 intro j;cases j with
 | zero=>exact⟨_,inferInstance,J7 ts ns,rfl,rfl⟩
 | succ j=>exact⟨_,inferInstance,Q6 ts ns (M4 ts ns j),rfl,rfl⟩
theorem i9 (j:Nat):(M4 ts ns j).length=ns.length:=by
 obtain⟨κ,_,g,h1,_⟩:=A2b (ts:=ts) (ns:=ns) j
 rw[h1];exact B7y _ _
theorem A5N (j:Nat):A4p ts ns j≤ns.length:=by
 obtain⟨κ,_,g,_,h2⟩:=A2b (ts:=ts) (ns:=ns) j
 rw[h2];exact Z7 _ _
theorem B2x {cl:List Int} {k i:Nat} (h:Q6 ts ns cl k=Q6 ts ns cl i):cl.getD k 0=cl.getD i 0:=congrArg (fun (z:C1F)=>z.1) h
theorem A9t {j:Nat} (h:A4p ts ns (j+1)≤A4p ts ns j):M4 ts ns (j+1)=M4 ts ns j:=by
 obtain⟨κ,_,g,h1,h2⟩:=A2b (ts:=ts) (ns:=ns) j
 rw[h2] at h;rw[h1];exact(B4a (fun k i hk hi e=>(X1 hk hi).1 (by rw[←h1];exact B2x e)) h).1
theorem B8e {κ κ':Type} [DecidableEq κ] [DecidableEq κ'] {f:Nat→κ} {g:Nat→κ'} {n:Nat} (h:P9 f n=P9 g n):S7 f n=S7 g n:=by
 unfold S7;rw[A71 (f:=f) (g:=g) (n:=n) (fun k i hk hi=>by rw[←X1 (f:=f) hk hi,←X1 (f:=g) hk hi,h]) n (Nat.le_refl _)]
theorem B7U {j:Nat} (h:M4 ts ns (j+1)=M4 ts ns j):A4p ts ns (j+1)=A4p ts ns j:=by
 obtain⟨κ,_,g,h1,h2⟩:=A2b (ts:=ts) (ns:=ns) j
 rw[h2];exact B8e (by rw[←h1];exact h)
theorem A1I:∀j,(∀i,i < j→M4 ts ns (i+1)≠M4 ts ns i)→j≤A4p ts ns j:=by
 intro j
 induction j with
 | zero=>intro _;omega
 | succ j ih =>
   intro h;have h1:=ih fun i hi=>h i (by omega)
   rcases Nat.lt_or_ge (A4p ts ns j) (A4p ts ns (j+1)) with c|c
   · omega
   · exact absurd (A9t c) (h j (by omega))
theorem B0Y {j:Nat} (h:M4 ts ns (j+1)=M4 ts ns j):∀k,M4 ts ns (j+k)=M4 ts ns j:=by
 intro k
 induction k with
 | zero=>rfl
 | succ k ih =>
   have:M4 ts ns (j+k+1)=P9 (Q6 ts ns (M4 ts ns (j+k))) ns.length:=rfl
   rw[←Nat.add_assoc,this,ih];exact h
theorem B26 {j:Nat} (hj:j≤ns.length) (h:M4 ts ns (j+1)=M4 ts ns j):H1 ts ns=M4 ts ns j:=by
 unfold H1;rw[show ns.length=j+(ns.length - j) by omega]
 exact B0Y h _
def A6i (cl:List Int):Int:=cl.foldl (fun c x=>max c (x+1)) 0
theorem A7u {l:List Int} {x:Int}:A6i (l++[x])=max (A6i l) (x+1):=by unfold A6i;rw[List.foldl_append];rfl
theorem A8x (E:Nat→Nat→Bool):∀i,A6i (E1 E i).1=((E1 E i).2.length:Int):=by
 intro i
 induction i with
 | zero=>rfl
 | succ i ih =>
   simp only[E1]
   split
   · rename_i h
     have h:=of_decide_eq_true h
     simp only
     rw[A7u,ih];omega
   · simp only
     rw[A7u,ih,List.length_append,List.length_singleton];omega
theorem B61 (j:Nat):A6i (M4 ts ns j)=A4p ts ns j:=by
 obtain⟨κ,_,g,h1,h2⟩:=A2b (ts:=ts) (ns:=ns) j
 rw[h1,h2];exact A8x _ _
def B2N (ts:List (List Int)) (ns:List A4):Int:=A6i (H1 ts ns)
theorem A1f:(H1 ts ns).length=ns.length:=i9 _
theorem A5V:P9 (Q6 ts ns (H1 ts ns)) ns.length=H1 ts ns:=by
 have:∃j,j≤ns.length∧M4 ts ns (j+1)=M4 ts ns j:=by
  apply Classical.byContradiction
  intro hc;have h:=A1I (ts:=ts) (ns:=ns) (ns.length+1) fun i hi e=>hc ⟨i,by omega,e⟩
  have:=A5N (ts:=ts) (ns:=ns) (ns.length+1)
  omega
 obtain⟨j,h1,h2⟩:=this;rw[B26 h1 h2];exact h2
end
open Go.RowKit
def T5 (ts:List (List Int)) (n:A4):Prop:=n.1=13→0≤n.2.1∧n.2.1 < ts.length
def j9 (m:Nat) (n:A4):Prop:=n.2.2.2.length≤3∧J4 m n.2.2.2=true∧(I3 n=true→n.2.2.2.length=2)
def uOk (ts:List (List Int)) (ns:List A4):Prop:=ns.length≤48∧∀n∈ns,T5 ts n∧j9 ns.length n
theorem A7e {p:A6} {n:A4} (q:N5 n p.2.1.length=true):n.2.2.2.length≤3∧(I3 n=true→n.2.2.2.length=2)∧(n.1=13→0≤n.2.1∧n.2.1 < p.2.1.length):=by
 obtain⟨kd,a,b,fr⟩:=n;obtain⟨h1,h2,_⟩:=a5 q
 obtain⟨_,_,_,_,_,h13,_,h3,h4,h5,h6⟩:=f0 q
 simp only at h1 h2 h13 ⊢
 refine⟨?_,fun hs=>?_,fun e=>⟨(h13 e).1,(h13 e).2.2⟩⟩
 · have e3:(kd=3∨kd=4∨kd=9∨kd=16)∨(kd=5∨kd=6∨kd=7∨kd=8∨kd=10∨kd=11∨kd=12∨kd=13∨kd=17)∨kd=15∨(kd=1∨kd=2∨kd=14):=by omega
   rcases e3 with e|e|e|e
   · have:=h3 e;omega
   · have:=h4 e;omega
   · have:=h5 e;omega
   · have:=h6 e;omega
 · simp only[I3,Bool.or_eq_true,decide_eq_true_eq] at hs
   exact h3 (by omega)
theorem L3 {p:A6} (h:C5 p=true):uOk p.2.1 p.2.2.1:=by
 refine⟨by have:=(A8 h).1;omega,fun n hn=>?_⟩
 obtain⟨q1,q2,_⟩:=G1 (List.all_eq_true.1 (A8 h).2.2.2.2.2.2 n hn)
 obtain⟨a,b,c⟩:=A7e (p:=p) q1
 exact⟨c,a,q2,b⟩
theorem B8y {x:A4} {a b m t:Nat} (hx:x.2.2.2.length≤3) (hi:J4 m x.2.2.2=true) (ha:a≤24) (hm:m≤24) (hb:b≤4) (ht:t≤4) (h13:x.1=13→0≤x.2.1∧x.2.1 < t) (hs:I3 x=true→x.2.2.2.length=2) {ts:List (List Int)} (hts:ts.length=b+t) :
 T5 ts (M2 a b x)∧j9 (a+m) (M2 a b x):=by
 obtain⟨kd,A,B,fr⟩:=x;refine⟨fun e=>?_,by simpa [M2] using hx,List.all_eq_true.2 fun f hf=>?_,fun h=>by simpa [M2] using hs h⟩
 · have e:kd=13:=e
   have:=h13 e
   simp only at this
   simp only[M2,e,decide_true,j7];rw[G9 (by omega)]
   omega
 · simp only[M2,List.mem_map] at hf
   obtain⟨g,hg,rfl⟩:=hf;have:=I5 hi hg
   unfold j7;rw[G9 (by omega)]
   exact L2 (by omega) (by omega)
theorem B0c {p q:A6} (hp:C7 p=true) (hq:C7 q=true):uOk (S9 p q).2.1 (S9 p q).2.2.1:=by
 have Fp:=A8 (A9 hp).1
 have Fq:=A8 (A9 hq).1
 have tp:=(a7 Fp.2.2.1).1
 have tq:=(a7 Fq.2.2.1).1
 have np:=Fp.1
 have nq:=Fq.1
 have hl:(S9 p q).2.2.1.length=p.2.2.1.length+q.2.2.1.length:=by simp[S9]
 refine⟨by rw[hl];omega,fun n hn=>?_⟩
 rw[hl];simp only[S9,List.mem_append,List.mem_map] at hn
 rcases hn with hn|⟨x,hx,rfl⟩
 · obtain⟨q1,q2,_⟩:=G1 (List.all_eq_true.1 Fp.2.2.2.2.2.2 n hn)
   obtain⟨a,b,c⟩:=A7e (p:=p) q1
   refine⟨fun e=>?_,a,List.all_eq_true.2 fun f hf=>?_,b⟩
   · have:=c e;simp only[S9,List.length_append];omega
   · have:=I5 q2 hf;exact L2 (by omega) (by omega)
 · obtain⟨q1,q2,_⟩:=G1 (List.all_eq_true.1 Fq.2.2.2.2.2.2 x hx)
   obtain⟨a,b,c⟩:=A7e (p:=q) q1
   exact B8y a q2 np nq tp tq c b (by simp[S9])
def bub (l:List Int):Nat→List Int
 | 0=>l
 | j + 1 => match decide (l.getD (j + 1) 0 < l.getD j 0) with
   | true=>bub ((l.set (j+1) (l.getD j 0)).set j (l.getD (j+1) 0)) j
   | false=>l
theorem C0t {l:List Int} {j:Nat} (h:l.getD (j+1) 0 < l.getD j 0):bub l (j+1)=bub ((l.set (j+1) (l.getD j 0)).set j (l.getD (j+1) 0)) j:=by
 show (match decide (l.getD (j+1) 0 < l.getD j 0) with|true=>_|false=>_)=_
 rw[decide_eq_true h]
theorem B8x {l:List Int} {j:Nat} (h:¬l.getD (j+1) 0 < l.getD j 0):bub l (j+1)=l:=by
 show (match decide (l.getD (j+1) 0 < l.getD j 0) with|true=>_|false=>_)=_
 rw[decide_eq_false h]
def A63 (xs:List Int):Nat→List Int
 | 0=>xs
 | s+1=>bub (A63 xs s) (s+1)
theorem C2M:∀(j:Nat) (l:List Int),(bub l j).length=l.length:=by
 intro j
 induction j with
 | zero=>intro l;rfl
 | succ j ih =>
   intro l
   by_cases h:l.getD (j+1) 0 < l.getD j 0
   · rw[C0t h,ih];simp
   · rw[B8x h]
theorem B3w (xs:List Int):∀s,(A63 xs s).length=xs.length:=by
 intro s
 induction s with
 | zero=>rfl
 | succ s ih=>show (bub (A63 xs s) (s+1)).length=_;rw[C2M,ih]
theorem C0T {xs:List Int} (h:xs.length=2):A63 xs (xs.length - 1)=srt xs:=by
 match xs,h with
 | [a, b], _ =>
   show bub [a,b] 1=srt [a,b]
   by_cases c:b < a
   · rw[C0t (j:=0) (by simpa using c)];simp[srt,c,bub]
   · rw[B8x (j:=0) (by simpa using c)];simp[srt,c]
def A5i (E:Int→Bool):List Int→Nat
 | []=>0
 | x::l=>match E x with|true=>0|false=>A5i E l+1
theorem B0N (E:Int→Bool):∀l:List Int,A5i E l≤l.length∧(∀j,j < A5i E l→E (l.getD j 0)=false)∧(A5i E l < l.length→E (l.getD (A5i E l) 0)=true):=by
 intro l
 induction l with
 | nil=>exact⟨Nat.le_refl _,fun j hj=>absurd hj (Nat.not_lt_zero _),fun h=>absurd h (Nat.lt_irrefl _)⟩
 | cons k l ih =>
   unfold A5i;cases e:E k with
   | true=>exact⟨by simp,fun j hj=>absurd hj (Nat.not_lt_zero _),fun _=>by simpa using e⟩
   | false =>
     simp only[List.length_cons];refine⟨by omega,fun j hj=>?_,fun hl=>?_⟩
     · cases j with
       | zero=>simpa using e
       | succ j=>simpa using ih.2.1 j (by omega)
     · simpa using ih.2.2 (by omega)
def A9P (E:Int→Bool) (l:List Int):Int:=match decide (A5i E l < l.length) with|true=>(A5i E l:Int)|false=>-1
theorem A56 {E:Int→Bool} {l:List Int} {j:Nat} (hj:j < l.length) (h1:∀q,q < j→E (l.getD q 0)=false) (h2:E (l.getD j 0)=true):A9P E l=j:=by
 obtain⟨g1,g2,g3⟩:=B0N E l
 have e:A5i E l=j:=by
  rcases Nat.lt_trichotomy (A5i E l) j with h|h|h
  · have:=h1 _ h;rw[g3 (by omega)] at this;cases this
  · exact h
  · have:=g2 _ h;rw[h2] at this;cases this
 unfold A9P;rw[e,decide_eq_true hj]
theorem A3W {E:Int→Bool} {l:List Int} {j:Nat} (hj:l.length≤j) (h1:∀q,q < j→E (l.getD q 0)=false):A9P E l=-1:=by
 obtain⟨g1,g2,g3⟩:=B0N E l
 unfold A9P;rw[decide_eq_false];intro h;have:=h1 _ (Nat.lt_of_lt_of_le h hj);rw[g3 h] at this;cases this
theorem C0S {E:Nat→Nat→Bool} {i:Nat}:∀fs:List Nat,A5i (fun k=>E k.toNat i) (fs.map fun (n:Nat)=>(n:Int))=y4 E i fs:=by
 intro fs
 induction fs with
 | nil=>rfl
 | cons k l ih =>
   simp only[List.map_cons,A5i,y4,Int.toNat_natCast];cases E k i with
   | true=>rfl
   | false=>simp only[];rw[ih]
def J5 (E:Nat→Nat→Bool) (i:Nat):List Int:=(E1 E i).2.map fun (n:Nat)=>(n:Int)
def A4E (E:Nat→Nat→Bool) (i:Nat):Int:=A9P (fun k=>E k.toNat i) (J5 E i)
def A0W (E:Nat→Nat→Bool) (n i:Nat):List Int:=(E1 E i).1++List.replicate (n - i) 0
section
variable {E:Nat→Nat→Bool} {n i:Nat}
theorem A2G:(J5 E i).length=(E1 E i).2.length:=by simp[J5]
theorem B07:A4E E i=match decide (y4 E i (E1 E i).2 < (E1 E i).2.length) with|true=>(y4 E i (E1 E i).2:Int)|false=>-1:=by
 unfold A4E A9P;rw[show A5i (fun k=>E k.toNat i) (J5 E i)=y4 E i (E1 E i).2 from C0S _,A2G]
theorem A7I (h:0≤A4E E i):(E1 E (i+1)).1=(E1 E i).1++[A4E E i]∧J5 E (i+1)=J5 E i:=by
 have e:=B07 (E:=E) (i:=i)
 simp only[E1,J5];cases c:decide (y4 E i (E1 E i).2 < (E1 E i).2.length) with
 | true=>rw[c] at e;rw[e];exact⟨rfl,rfl⟩
 | false=>rw[c] at e;rw[e] at h;simp at h
theorem A7F (h:A4E E i < 0):(E1 E (i+1)).1=(E1 E i).1++[((J5 E i).length:Int)]∧J5 E (i+1)=J5 E i++[(i:Int)]:=by
 have e:=B07 (E:=E) (i:=i)
 rw[A2G];simp only[E1,J5];cases c:decide (y4 E i (E1 E i).2 < (E1 E i).2.length) with
 | true=>rw[c] at e;rw[e] at h;simp at h;omega
 | false=>exact⟨rfl,by simp⟩
theorem B3S (h1:(E1 E i).1.length=i) (hi:i≤n):(A0W E n i).length=n:=by simp[A0W,h1];omega
theorem A5J {c:Int} (h1:(E1 E i).1.length=i) (hi:i < n) (hc:(E1 E (i+1)).1=(E1 E i).1++[c]):(A0W E n i).set i c=A0W E n (i+1):=by
 unfold A0W;rw[hc,List.set_append_right _ _ (by omega),h1,Nat.sub_self,show n - i=(n - (i+1))+1 by omega,List.replicate_succ,List.set_cons_zero,List.append_assoc]
 rfl
theorem B40 (hi:n≤i):A0W E n i=(E1 E i).1:=by unfold A0W;rw[show n - i=0 by omega];simp
theorem A8p (h:∀q,q < i→E q i=false):G6 E (i+1)=((G6 E i).1++[(G6 E i).2],(G6 E i).2+1):=by
 have:(List.range i).find? (fun k=>E k i)=none:=List.find?_eq_none.2 fun q hq=>by rw[h q (List.mem_range.1 hq)];simp
 simp only[G6,this]
theorem B0A {k:Nat} (hk:k < i) (h0:∀q,q < k→E q i=false) (h1:E k i=true):G6 E (i+1)=((G6 E i).1++[(G6 E i).1.getD k 0],(G6 E i).2):=by
 have:(List.range i).find? (fun k=>E k i)=some k:=by
  cases e:(List.range i).find? (fun k=>E k i) with
  | none=>have:=List.find?_eq_none.1 e k (List.mem_range.2 hk);rw[h1] at this;simp at this
  | some q =>
    have e1:E q i=true:=by simpa using List.find?_some e
    rcases Nat.lt_trichotomy q k with h|h|h
    · rw[h0 q h] at e1;cases e1
    · rw[h]
    · exfalso;have:=List.find?_range_eq_some.1 e
      have:=this.2.2 k h
      rw[h1] at this;simp at this
 simp only[G6,this]
end
section
variable {p:A6} {cl:List Int}
end
def M3 (p q:A6):List Int:=(S9 p q).2.2.2.map fun z=>(H1 (S9 p q).2.1 (S9 p q).2.2.1).getD z.toNat 0
def r5 (p q:A6):Bool × Int:=match decide (j8 p q=0) with
 | true=>(eqD ((M3 p q).take p.2.2.2.length) ((M3 p q).drop p.2.2.2.length),0)
 | false=>(false,j8 p q)
theorem A0q {p q:A6} (h:j8 p q=0):r5 p q=(eqD ((M3 p q).take p.2.2.2.length) ((M3 p q).drop p.2.2.2.length),0):=by unfold r5;rw[decide_eq_true h]
theorem A5T {p q:A6} (h:¬j8 p q=0):r5 p q=(false,j8 p q):=by unfold r5;rw[decide_eq_false h]
theorem z7 (p q:A6):(M3 p q).length=p.2.2.2.length+q.2.2.2.length:=by simp[M3,S9]
theorem C04 {p q:A6} (hp:C7 p=true) (hq:C7 q=true):J4 (S9 p q).2.2.1.length (S9 p q).2.2.2=true:=by
 have Fp:=A8 (A9 hp).1
 have Fq:=A8 (A9 hq).1
 have hl:(S9 p q).2.2.1.length=p.2.2.1.length+q.2.2.1.length:=by simp[S9]
 rw[hl];refine List.all_eq_true.2 fun f hf=>?_
 simp only[S9,List.mem_append,List.mem_map] at hf
 have:=Fp.1
 have:=Fq.1
 rcases hf with hf|⟨g,hg,rfl⟩
 · have:=I5 Fp.2.2.2.2.2.1 hf;exact L2 (by omega) (by omega)
 · have:=I5 Fq.2.2.2.2.2.1 hg
   unfold j7;rw[G9 (by omega)]
   exact L2 (by omega) (by omega)
open Go.RowKit
abbrev P5 (p:A6):Nat→Nat→Bool:=C3 (Q6 p.2.1 p.2.2.1 (H1 p.2.1 p.2.2.1))
def A1v (cl:List Int) (n:A4):A4:=(n.1,n.2.1,n.2.2.1,H2 cl n.2.2.2)
def B4g (p:A6) (i:Nat):List A4:=(E1 (P5 p) i).2.map fun f=>A1v (H1 p.2.1 p.2.2.1) (p.2.2.1.getD f n0)
def Y1 (p:A6):A6:=(p.1,p.2.1,B4g p p.2.2.1.length,H2 (H1 p.2.1 p.2.2.1) p.2.2.2)
def A6F (p:A6):A6 × Int:=match C7 p with|true=>(Y1 p,0)|false=>((0,[],[],[]),1)
theorem B3s {p:A6} (h:C7 p=true):A6F p=(Y1 p,0):=by unfold A6F;rw[h]
theorem A8b {p:A6} (h:C7 p=false):A6F p=((0,[],[],[]),1):=by unfold A6F;rw[h]
theorem A1R (p:A6):(E1 (P5 p) p.2.2.1.length).1=H1 p.2.1 p.2.2.1:=A5V
theorem B9E (E:Nat→Nat→Bool) (i:Nat):∀k,∃t,(E1 E (i+k)).1=(E1 E i).1++t:=by
 intro k
 induction k with
 | zero=>exact⟨[],by simp⟩
 | succ k ih =>
   obtain⟨t,ht⟩:=ih;rw[←Nat.add_assoc];simp only[E1]
   split
   · exact⟨t++[_],by simp only;rw[ht,List.append_assoc]⟩
   · exact⟨t++[_],by simp only;rw[ht,List.append_assoc]⟩
theorem B7F (E:Nat→Nat→Bool) (i:Nat):∀k,∃t,(E1 E (i+k)).2=(E1 E i).2++t:=by
 intro k
 induction k with
 | zero=>exact⟨[],by simp⟩
 | succ k ih =>
   obtain⟨t,ht⟩:=ih;rw[←Nat.add_assoc];simp only[E1]
   split
   · exact⟨t,by simp only;rw[ht]⟩
   · exact⟨t++[_],by simp only;rw[ht,List.append_assoc]⟩
theorem C3S {p:A6} {i:Nat} (hi:i < p.2.2.1.length):(H1 p.2.1 p.2.2.1).getD i 0=(E1 (P5 p) (i+1)).1.getD i 0:=by
 obtain⟨t,ht⟩:=B9E (P5 p) (i+1) (p.2.2.1.length - (i+1))
 rw[show i+1+(p.2.2.1.length - (i+1))=p.2.2.1.length by omega,A1R] at ht
 have hl:(E1 (P5 p) (i+1)).1.length=i+1:=(n9 I1 (i+1)).len
 rw[ht,List.getD_eq_getElem?_getD,List.getD_eq_getElem?_getD,List.getElem?_append_left (by omega)]
theorem B9g (p:A6) (i:Nat):(B4g p i).length≤i:=by unfold B4g;rw[List.length_map];exact Z7 _ i
def A33 (cl:List Int) (m:Nat):Nat→List Int
 | 0=>List.replicate m 0
 | k+1=>(A33 cl m k).set (cl.getD (cl.length - 1 - k) 0).toNat ((cl.length - 1 - k:Nat):Int)
theorem A5j (cl:List Int) (m:Nat):∀k,(A33 cl m k).length=m:=by
 intro k
 induction k with
 | zero=>simp[A33]
 | succ k ih=>simp[A33,ih]
theorem C0F {cl:List Int} {m:Nat} (hr:∀i,i < cl.length→0≤cl.getD i 0∧cl.getD i 0 < m):∀k,k≤cl.length→∀c i:Nat,c < m→cl.length - k≤i→i < cl.length→cl.getD i 0=(c:Int)→(∀j,cl.length - k≤j→j < i→cl.getD j 0≠(c:Int))→(A33 cl m k).getD c 0=(i:Int):=by
 intro k
 induction k with
 | zero=>intro _ c i _ h1 h2;omega
 | succ k ih =>
   intro hk c i hc h1 h2 he hno
   have hl:=A5j cl m k
   have hq:=hr (cl.length - 1 - k) (by omega)
   simp only[A33];rw[A1U (by omega)]
   by_cases e:(cl.getD (cl.length - 1 - k) 0).toNat=c
   · rw[if_pos e]
     have:cl.length - 1 - k=i:=by
      rcases Nat.lt_or_ge (cl.length - 1 - k) i with h|h
      · exact absurd (by omega) (hno (cl.length - 1 - k) (by omega) h)
      · omega
     rw[this]
   · rw[if_neg e];refine ih (by omega) c i hc ?_ h2 he fun j hj1 hj2=>hno j (by omega) hj2
     rcases Nat.lt_or_ge i (cl.length - k) with h|h
     · have:cl.length - 1 - k=i:=by omega
       rw[this] at e;omega
     · exact h
theorem B42 {p:A6} {c:Nat} (hc:c < (E1 (P5 p) p.2.2.1.length).2.length):(A33 (H1 p.2.1 p.2.2.1) (E1 (P5 p) p.2.2.1.length).2.length p.2.2.1.length).getD c 0=(((E1 (P5 p) p.2.2.1.length).2.getD c 0:Nat):Int):=by
 have hok:=n9 (E:=P5 p) I1 p.2.2.1.length
 have hcl:(H1 p.2.1 p.2.2.1).length=p.2.2.1.length:=A1f
 have hlt:=hok.lt c hc
 have hval:∀i,i < p.2.2.1.length→∃q:Nat,(H1 p.2.1 p.2.2.1).getD i 0=(q:Int)∧q < (E1 (P5 p) p.2.2.1.length).2.length∧P5 p ((E1 (P5 p) p.2.2.1.length).2.getD q 0) i=true:=fun i hi=>by
  rw[←A1R];exact hok.at_ i hi
 have hown:(H1 p.2.1 p.2.2.1).getD ((E1 (P5 p) p.2.2.1.length).2.getD c 0) 0=(c:Int):=by
  obtain⟨q,q1,q2,q3⟩:=hval _ hlt
  rw[q1,hok.uniq P0 V0 q2 hc q3 (I1 _)]
 have hk:=C0F (cl:=H1 p.2.1 p.2.2.1) (m:=(E1 (P5 p) p.2.2.1.length).2.length) (fun i hi=>by
  obtain⟨q,q1,q2,_⟩:=hval i (by omega);rw[q1];omega) p.2.2.1.length (by omega) c _ hc (by omega) (by omega) hown (fun j hj1 hj2 e=>by
   -- no earlier node of this class
   have hj:j < p.2.2.1.length:=by omega
   have hpre:=C3S (p:=p) hj
   have hd:=n9 (E:=P5 p) I1 (j+1)
   obtain⟨q,q1,q2,q3⟩:=hd.at_ j (by omega)
   rw[hpre,q1] at e;have hqc:q=c:=by omega
   subst hqc;obtain⟨t,ht⟩:=B7F (P5 p) (j+1) (p.2.2.1.length - (j+1))
   rw[show j+1+(p.2.2.1.length - (j+1))=p.2.2.1.length by omega] at ht
   have h9:=hd.lt q q2
   rw[ht,List.getD_eq_getElem?_getD,List.getElem?_append_left q2,←List.getD_eq_getElem?_getD] at hj2
   omega)
 exact hk
open Go.RowKit
def byL (n:Nat) (kp:List Int):Nat→List Int
 | 0=>List.replicate n 0
 | k+1=>(byL n kp k).set (kp.getD k 0).toNat (k:Int)
theorem B19 (n:Nat) (kp:List Int):∀k,(byL n kp k).length=n:=by
 intro k
 induction k with
 | zero=>simp[byL]
 | succ k ih=>simp[byL,ih]
theorem C40 {n:Nat} {kp:List Int} (hr:∀j,j < kp.length→0≤kp.getD j 0∧kp.getD j 0 < n) (hd:∀i j,i < kp.length→j < kp.length→kp.getD i 0=kp.getD j 0→i=j):∀k,k≤kp.length→∀j,j < k→(byL n kp k).getD (kp.getD j 0).toNat 0=(j:Int):=by
 intro k
 induction k with
 | zero=>intro _ j hj;omega
 | succ k ih =>
   intro hk j hj
   have h1:=hr k (by omega)
   have h2:=hr j (by omega)
   have hl:=B19 n kp k
   simp only[byL];rw[A1U (by omega)]
   by_cases e:(kp.getD k 0).toNat=(kp.getD j 0).toNat
   · rw[if_pos e];have:k=j:=hd k j (by omega) (by omega) (by omega)
     rw[this]
   · rw[if_neg e];refine ih (by omega) j ?_
     rcases Nat.lt_or_ge j k with h|h
     · exact h
     · have:j=k:=by omega
       subst this;exact absurd rfl e
def A9F (ns:List A4) (b:List Int) (f:Int):A4:=A1v b (ns.getD f.toNat n0)
def B4D (p:A6) (kp:List Int):A6:=(p.1,p.2.1,kp.map (A9F p.2.2.1 (byL p.2.2.1.length kp kp.length)),H2 (byL p.2.2.1.length kp kp.length) p.2.2.2)
structure KeepOk (p:A6) (kp:List Int):Prop where
 fits:B30 p
 n24:p.2.2.1.length≤24
 k24:kp.length≤24
 rng:J4 p.2.2.1.length kp=true
 frs:∀x∈p.2.2.1,x.2.2.2.length≤23∧J4 p.2.2.1.length x.2.2.2=true
 o4:p.2.2.2.length≤4
 outs:J4 p.2.2.1.length p.2.2.2=true
def E4 (p:A6):List Int:=A33 (H1 p.2.1 p.2.2.1) (E1 (P5 p) p.2.2.1.length).2.length p.2.2.1.length
theorem R4 (p:A6):(E4 p).length=(E1 (P5 p) p.2.2.1.length).2.length:=A5j _ _ _
theorem B0m {p:A6} {q:Nat} (hq:q < p.2.2.1.length):∃c:Nat,(H1 p.2.1 p.2.2.1).getD q 0=(c:Int)∧c < (E1 (P5 p) p.2.2.1.length).2.length:=by
 obtain⟨c,c1,c2,_⟩:=(n9 (E:=P5 p) I1 p.2.2.1.length).at_ q hq
 rw[A1R] at c1;exact⟨c,c1,c2⟩
theorem A1t {p:A6} {c:Nat} (hc:c < (E1 (P5 p) p.2.2.1.length).2.length):(E4 p).getD c 0=(((E1 (P5 p) p.2.2.1.length).2.getD c 0:Nat):Int):=B42 hc
theorem A2O {p:A6} {j:Nat} (hj:j < (E4 p).length):0≤(E4 p).getD j 0∧(E4 p).getD j 0 < p.2.2.1.length:=by
 rw[R4] at hj;have:=(n9 (E:=P5 p) I1 p.2.2.1.length).lt j hj
 rw[A1t hj];omega
theorem B39 {p:A6} {i j:Nat} (hi:i < (E4 p).length) (hj:j < (E4 p).length) (e:(E4 p).getD i 0=(E4 p).getD j 0):i=j:=by
 rw[R4] at hi hj
 rw[A1t hi,A1t hj] at e;have e':(E1 (P5 p) p.2.2.1.length).2.getD i 0=(E1 (P5 p) p.2.2.1.length).2.getD j 0:=by omega
 exact(n9 (E:=P5 p) I1 p.2.2.1.length).uniq P0 V0 hi hj (k:=(E1 (P5 p) p.2.2.1.length).2.getD j 0) (by rw[e'];exact I1 _) (I1 _)
theorem A8w {f:Int→Int} {l:List Int} {q:Nat} (hq:q < l.length):(l.map f).getD q 0=f (l.getD q 0):=by
 rw[List.getD_eq_getElem?_getD,List.getD_eq_getElem?_getD,List.getElem?_map,List.getElem?_eq_getElem hq];rfl
theorem B2c {p:A6} {l:List Int} (hl:J4 p.2.2.1.length l=true):H2 (byL p.2.2.1.length (E4 p) (E4 p).length) (H2 (H2 (E4 p) (H1 p.2.1 p.2.2.1)) l)=H2 (H1 p.2.1 p.2.2.1) l:=by
 unfold H2;rw[List.map_map];refine List.map_congr_left fun q hq=>?_
 have hb:=I5 hl hq
 have hcl:(H1 p.2.1 p.2.2.1).length=p.2.2.1.length:=A1f
 obtain⟨c,c1,c2⟩:=B0m (p:=p) (q:=q.toNat) (by omega)
 simp only[Function.comp];rw[A8w (by omega),c1]
 simp only[Int.toNat_natCast];exact C40 (fun j hj=>A2O hj) (fun i j hi hj e=>B39 hi hj e) _ (Nat.le_refl _) c (by rw[R4];exact c2)
theorem B85 {a b:List Int} {x:A4}:A1v b (A1v a x)=(x.1,x.2.1,x.2.2.1,H2 b (H2 a x.2.2.2)):=rfl
def w9 (p:A6):A6:=(p.1,p.2.1,p.2.2.1.map (A1v (H2 (E4 p) (H1 p.2.1 p.2.2.1))),H2 (H2 (E4 p) (H1 p.2.1 p.2.2.1)) p.2.2.2)
theorem A1l (p:A6):(w9 p).2.2.1.length=p.2.2.1.length:=by simp[w9]
theorem B5Z {p:A6} {g:Nat→A4} {f:Int→A4} (h:∀c,c < (E1 (P5 p) p.2.2.1.length).2.length→f ((E4 p).getD c 0)=g ((E1 (P5 p) p.2.2.1.length).2.getD c 0)):(E4 p).map f=(E1 (P5 p) p.2.2.1.length).2.map g:=by
 refine List.ext_getElem (by rw[List.length_map,List.length_map,R4]) fun i h1 h2=>?_
 have hi:i < (E1 (P5 p) p.2.2.1.length).2.length:=by simpa using h2
 have hi':i < (E4 p).length:=by rw[R4];exact hi
 have:=h i hi
 rw[List.getD_eq_getElem?_getD,List.getD_eq_getElem?_getD,List.getElem?_eq_getElem hi,List.getElem?_eq_getElem hi'] at this
 simp only[List.getElem_map];exact this
theorem B5E {p:A6} (h:C7 p=true):B4D (w9 p) (E4 p)=Y1 p:=by
 have hF:=A8 (A9 h).1
 have hU:=L3 (A9 h).1
 have hn:∀f,f < p.2.2.1.length→J4 p.2.2.1.length (p.2.2.1.getD f n0).2.2.2=true:=fun f hf=>(hU.2 _ (B9 (d:=n0) hf)).2.2.1
 unfold B4D Y1;rw[A1l]
 have e1:(E4 p).map (A9F (w9 p).2.2.1 (byL p.2.2.1.length (E4 p) (E4 p).length))=B4g p p.2.2.1.length:=by
  refine B5Z fun c hc=>?_
  have hlt:=(n9 (E:=P5 p) I1 p.2.2.1.length).lt c hc
  rw[A1t hc];unfold A9F;rw[Int.toNat_natCast]
  have:(w9 p).2.2.1.getD ((E1 (P5 p) p.2.2.1.length).2.getD c 0) n0=A1v (H2 (E4 p) (H1 p.2.1 p.2.2.1)) (p.2.2.1.getD ((E1 (P5 p) p.2.2.1.length).2.getD c 0) n0):=by
   generalize (E1 (P5 p) p.2.2.1.length).2.getD c 0=f at hlt ⊢
   simp only[w9];rw[List.getD_eq_getElem?_getD,List.getD_eq_getElem?_getD,List.getElem?_map,List.getElem?_eq_getElem hlt];rfl
  rw[this,B85,B2c (hn _ hlt)]
  rfl
 rw[e1];have e2:H2 (byL p.2.2.1.length (E4 p) (E4 p).length) (w9 p).2.2.2=H2 (H1 p.2.1 p.2.2.1) p.2.2.2:=B2c hF.2.2.2.2.2.1
 rw[e2]
 rfl
theorem A5D {n:Nat} {l:List Int} (h:∀j,j < l.length→0≤l.getD j 0∧l.getD j 0 < n):J4 n l=true:=by
 refine List.all_eq_true.2 fun q hq=>?_
 obtain⟨i,hi,rfl⟩:=List.mem_iff_getElem.1 hq
 have:=h i hi
 rw[List.getD_eq_getElem?_getD,List.getElem?_eq_getElem hi] at this
 simp only[Option.getD_some] at this
 exact E0.2 ⟨this.1,by omega⟩
theorem B6E {p:A6} {l:List Int} (hl:J4 p.2.2.1.length l=true):J4 p.2.2.1.length (H2 (H2 (E4 p) (H1 p.2.1 p.2.2.1)) l)=true:=by
 refine A5D fun j hj=>?_
 have hj':j < l.length:=by simpa [H2] using hj
 have hb:=I5 hl (B9 (d:=(0:Int)) hj')
 have hcl:(H1 p.2.1 p.2.2.1).length=p.2.2.1.length:=A1f
 obtain⟨c,c1,c2⟩:=B0m (p:=p) (q:=(l.getD j 0).toNat) (by omega)
 have e:(H2 (H2 (E4 p) (H1 p.2.1 p.2.2.1)) l).getD j 0=(E4 p).getD c 0:=by
  unfold H2;rw[A8w hj',A8w (by omega),c1];rfl
 rw[e];exact A2O (by rw[R4];exact c2)
theorem C0x {p:A6}:J4 (E4 p).length (H1 p.2.1 p.2.2.1)=true:=by
 refine A5D fun j hj=>?_
 have hcl:(H1 p.2.1 p.2.2.1).length=p.2.2.1.length:=A1f
 obtain⟨c,c1,c2⟩:=B0m (p:=p) (q:=j) (by omega)
 rw[c1,R4];omega
theorem B1k {p:A6} (h:C7 p=true):KeepOk (w9 p) (E4 p):=by
 have hF:=A8 (A9 h).1
 have hU:=L3 (A9 h).1
 have hf:=X9 (Z8 h)
 have hx:∀x∈(w9 p).2.2.1,x.2.2.2.length≤3∧J4 p.2.2.1.length x.2.2.2=true:=fun x hx=>by
  simp only[w9,List.mem_map] at hx
  obtain⟨y,hy,rfl⟩:=hx;obtain⟨a,b,_⟩:=(hU.2 _ hy).2
  exact⟨by simp only[A1v,H2,List.length_map];exact a,B6E b⟩
 have ho:(w9 p).2.2.2.length=p.2.2.2.length:=by simp[w9,H2]
 refine⟨⟨hf.1,⟨by rw[A1l];exact hf.2.1.1,fun x hq=>by have:=(hx x hq).1;omega⟩,by rw[ho];exact hf.2.2⟩,by rw[A1l];exact hF.1,?_,?_,fun x hq=>?_,by rw[ho];exact hF.2.1,?_⟩
 · rw[R4];exact Nat.le_trans (Z7 _ _) hF.1
 · rw[A1l];exact A5D fun j hj=>A2O hj
 · rw[A1l];exact⟨by have:=(hx x hq).1;omega,(hx x hq).2⟩
 · rw[A1l];exact B6E hF.2.2.2.2.2.1
theorem B8t {α β:Type} {f:α→β} {xs:List α} {k:Nat} (d:α) (h:k < xs.length):(xs.take k).map f++[f (xs.getD k d)]=(xs.take (k+1)).map f:=by
 rw[G7 (d:=d) h,List.map_append];rfl
theorem C1w {f:A4→A4} {xs:List A4} {k:Nat} (d:A4) (h:k < xs.length):((xs.take k).map f++xs.drop k).getD k d=xs.getD k d:=by
 have hl:((xs.take k).map f).length=k:=by rw[List.length_map,List.length_take];omega
 rw[List.getD_eq_getElem?_getD,List.getD_eq_getElem?_getD,List.getElem?_append_right (by omega),List.getElem?_drop,hl]
 congr 2;omega
theorem C0n {f:A4→A4} {xs:List A4} {k:Nat} (d:A4) (h:k < xs.length):((xs.take k).map f++xs.drop k).set k (f (xs.getD k d))=(xs.take (k+1)).map f++xs.drop (k+1):=by
 have hl:((xs.take k).map f).length=k:=by rw[List.length_map,List.length_take];omega
 rw[←B8t d h,List.append_assoc,List.set_append_right _ _ (by omega),hl,Nat.sub_self,List.drop_eq_getElem_cons h,List.getD_eq_getElem?_getD,List.getElem?_eq_getElem h]
 rfl
theorem C0P {f:A4→A4} {xs:List A4} {k:Nat} (h:k≤xs.length):((xs.take k).map f).length+(xs.drop k).length=xs.length:=by rw[List.length_map,List.length_take,List.length_drop];omega
end Go.Proofs.YtflobmmbhaofbaaGreat
