/-
  Texts of this claim, joined (part 10). No condition beyond those of the theorems.
-/
import Derived.Test.YtenjbehedcegdaaGreatQ04
set_option linter.unusedSimpArgs false
set_option linter.unusedVariables false
namespace Go.Proofs.YtenjbehedcegdaaGreat
open Go.RowKit
abbrev A1:=Int × Int × Int × Int × List Int × Int
abbrev G0:=Int × Int × List (List Int) × List A1 × List Int
def x0:A1:=(0,0,0,0,[],0)
def nAt (ns:List B1) (i:Int):B1:=ns.getD i.toNat n0
def J4 (n:B1) (i:Int):A1:=(n.1,n.2.1,n.2.2.1,i,G9 n,i)
def O4 (n:B1) (d:Nat):A1:=(18,0,0,d,n.2.2.2,0)
abbrev U8:=List A1 × List Int
def y1 (ns:List B1) (done sto:List Int) (d:Nat):Bool:=decide ((ns.getD d n0).1=6) && (!sto.contains (d:Int) && (done.contains (d:Int) && done.contains ((ns.getD d n0).2.2.2.getD 0 0)))
def A6N (ns:List B1) (done:List Int) (st:U8) (d:Nat):U8:=match y1 ns done st.2 d with
 | true=>(st.1++[O4 (ns.getD d n0) d],st.2++[(d:Int)])
 | false=>st
def putN (ns:List B1) (done:List Int) (st:U8):Nat→U8
 | 0=>st
 | m+1=>A6N ns done (putN ns done st m) m
def R6 (ns:List B1) (o:List Int):Nat→U8
 | 0=>([],[])
 | k+1=>putN ns (o.take (k+1)) ((R6 ns o k).1++[J4 (nAt ns (o.getD k 0)) (o.getD k 0)],(R6 ns o k).2) ns.length
def C1 (ns:List B1):List A1:=(R6 ns (E3 ns) (E3 ns).length).1
section
variable {ns:List B1} {done sto:List Int} {d:Nat}
theorem B6T (h1:(ns.getD d n0).1=6) (h2:sto.contains (d:Int)=false) (h3:done.contains (d:Int)=true) (h4:done.contains ((ns.getD d n0).2.2.2.getD 0 0)=true):y1 ns done sto d=true:=by
 unfold y1;rw[decide_eq_true h1,h2,h3,h4];rfl
theorem B7F (h1:¬(ns.getD d n0).1=6):y1 ns done sto d=false:=by unfold y1;rw[decide_eq_false h1];rfl
theorem B71 (h:sto.contains (d:Int)=true):y1 ns done sto d=false:=by unfold y1;rw[h,Bool.not_true,Bool.false_and,Bool.and_false]
theorem B7v (h:done.contains (d:Int)=false):y1 ns done sto d=false:=by unfold y1;rw[h,Bool.false_and,Bool.and_false,Bool.and_false]
theorem B82 (h:done.contains ((ns.getD d n0).2.2.2.getD 0 0)=false):y1 ns done sto d=false:=by unfold y1;rw[h,Bool.and_false,Bool.and_false,Bool.and_false]
end
theorem B1i {ns:List B1} {done:List Int} {st:U8} {d:Nat} (h:y1 ns done st.2 d=true):A6N ns done st d=(st.1++[O4 (ns.getD d n0) d],st.2++[(d:Int)]):=by unfold A6N;rw[h]
theorem B1X {ns:List B1} {done:List Int} {st:U8} {d:Nat} (h:y1 ns done st.2 d=false):A6N ns done st d=st:=by unfold A6N;rw[h]
def V0 (ns:List B1) (k:Nat):List Int:=(E3 ns).take (k+1)
def stB (ns:List B1) (k:Nat):U8:=((R6 ns (E3 ns) k).1++[J4 (nAt ns ((E3 ns).getD k 0)) ((E3 ns).getD k 0)],(R6 ns (E3 ns) k).2)
def T3 (ns:List B1) (k d:Nat):U8:=putN ns (V0 ns k) (stB ns k) d
theorem A5F {ns:List B1} {k d:Nat} (h:y1 ns (V0 ns k) (T3 ns k d).2 d=true):(T3 ns k (d+1)).1=(T3 ns k d).1++[O4 (ns.getD d n0) d]∧(T3 ns k (d+1)).2=(T3 ns k d).2++[(d:Int)]:=by
 show (A6N ns (V0 ns k) (T3 ns k d) d).1=_∧(A6N ns (V0 ns k) (T3 ns k d) d).2=_
 rw[B1i h];exact⟨rfl,rfl⟩
theorem A5L {ns:List B1} {k d:Nat} (h:y1 ns (V0 ns k) (T3 ns k d).2 d=false):T3 ns k (d+1)=T3 ns k d:=B1X h
def Marks (n:Nat) (bs:List Bool) (l:List Int):Prop:=bs.length=n∧∀d,d < n→bs.getD d false=l.contains (d:Int)
theorem Marks.nil (n:Nat):Marks n (List.replicate n false) []:=⟨by simp,fun d hd=>by simp[List.getD,hd]⟩
theorem Marks.add {n:Nat} {bs:List Bool} {l:List Int} {i:Nat} (h:Marks n bs l) (hi:i < n):Marks n (bs.set i true) (l++[(i:Int)]):=by
 refine⟨by rw[List.length_set];exact h.1,fun d hd=>?_⟩
 have hl:=h.1
 rw[G6 (by omega)]
 split
 · rename_i e;subst e;simp
 · rename_i e
   rw[h.2 d hd,List.contains_append];have:([(i:Int)].contains (d:Int))=false:=by simp;omega
   rw[this,Bool.or_false]
theorem Marks.at {n:Nat} {bs:List Bool} {l:List Int} (h:Marks n bs l) {x:Int} (h0:0≤x) (hx:x < n):bs.getD x.toNat false=l.contains x:=by
 rw[h.2 x.toNat (by omega),Int.toNat_of_nonneg h0]
def X1 (n:Nat) (x:A1):Prop:=(0≤x.2.2.2.1∧x.2.2.2.1 < n)∧N2 n x.2.2.2.2.1=true∧x.2.2.2.2.1.length≤3
theorem Z8 {p:B7} (h:E4 p=true) {i:Nat} (hi:i < p.2.2.1.length):1≤(p.2.2.1.getD i n0).1∧(p.2.2.1.getD i n0).1≤17∧N2 p.2.2.1.length (p.2.2.1.getD i n0).2.2.2=true∧(p.2.2.1.getD i n0).2.2.2.length≤3∧((p.2.2.1.getD i n0).1=6→(p.2.2.1.getD i n0).2.2.2.length=1):=by
 obtain⟨q1,q2,_⟩:=M6 (A25 h hi)
 generalize p.2.2.1.getD i n0=n at *
 obtain⟨kd,a,b,fr⟩:=n;obtain⟨h1,h2,_⟩:=O5 q1
 obtain⟨_,_,_,_,_,_,_,h3,h4,h5,h6⟩:=Y2 q1
 simp only at h1 h2 q2 ⊢
 refine⟨h1,h2,q2,?_,fun e=>h4 (by omega)⟩
 have:kd=1∨kd=2∨kd=3∨kd=4∨kd=5∨kd=6∨kd=7∨kd=8∨kd=9∨kd=10∨kd=11∨kd=12∨kd=13∨kd=14∨kd=15∨kd=16∨kd=17:=by omega
 have e3:(kd=3∨kd=4∨kd=9∨kd=16)∨(kd=5∨kd=6∨kd=7∨kd=8∨kd=10∨kd=11∨kd=12∨kd=13∨kd=17)∨kd=15∨(kd=1∨kd=2∨kd=14):=by omega
 rcases e3 with e|e|e|e
 · have:=h3 e;omega
 · have:=h4 e;omega
 · have:=h5 e;omega
 · have:=h6 e;omega
theorem B0p {p:B7} (h:E4 p=true) {i:Nat} (hi:i < p.2.2.1.length):0≤(p.2.2.1.getD i n0).2.2.2.getD 0 0∧(p.2.2.1.getD i n0).2.2.2.getD 0 0 < p.2.2.1.length:=by
 obtain⟨_,_,q3,_,_⟩:=Z8 h hi
 by_cases hl:0 < (p.2.2.1.getD i n0).2.2.2.length
 · have:=O1 q3 (C6 (d:=(0:Int)) hl);omega
 · rw[List.getD_eq_getElem?_getD,List.getElem?_eq_none (by omega)];simp;omega
theorem B5k {l:List Int} (h:l.length=1):[l.getD 0 0]=l:=by
 match l,h with
 | [x],_=>rfl
theorem B5E {n:Int} {a b:List Int} (h:N2 n b=true) (hs:∀x∈a,x∈b):N2 n a=true:=List.all_eq_true.2 fun x hx=>List.all_eq_true.1 h x (hs x hx)
theorem B25 (n:B1):∀x∈G9 n,x∈n.2.2.2:=fun x hx=>by
 unfold G9 at hx
 split at hx
 · cases hx
 · exact hx
theorem B1J {p:B7} (h:E4 p=true) {i:Nat} (hi:i < p.2.2.1.length):X1 p.2.2.1.length (J4 (p.2.2.1.getD i n0) i):=by
 obtain⟨_,_,q3,q4,_⟩:=Z8 h hi
 exact⟨⟨by simp[J4],by simp[J4];omega⟩,B5E q3 (B25 _),Nat.le_trans (A0n _) q4⟩
theorem B1F {p:B7} (h:E4 p=true) {i:Nat} (hi:i < p.2.2.1.length):X1 p.2.2.1.length (O4 (p.2.2.1.getD i n0) i):=by
 obtain⟨_,_,q3,q4,_⟩:=Z8 h hi
 exact⟨⟨by simp[O4],by simp[O4];omega⟩,q3,q4⟩
theorem A6h {l:List Int} {x:Int} (h:x∈l):∃j,j < l.length∧l.getD j 0=x:=by
 obtain⟨i,hi,rfl⟩:=List.mem_iff_getElem.1 h
 exact⟨i,hi,by simp[List.getD,hi]⟩
structure CodeOk (ns:List B1) (done:List Int) (st:U8):Prop where
 ok:∀x∈st.1,X1 ns.length x
 len:st.1.length=done.length+st.2.length
 nd:st.2.Nodup
 rng:∀x∈st.2,0≤x∧x < ns.length
 nodes:(st.1.filter fun x=>!decide (x.1=18)).map (fun x=>x.2.2.2.1)=done
theorem CodeOk.put {p:B7} (h:E4 p=true) {done:List Int} {st:U8} {dn:List Int} (hc:CodeOk p.2.2.1 dn st) {d:Nat} (hd:d < p.2.2.1.length):CodeOk p.2.2.1 dn (A6N p.2.2.1 done st d):=by
 cases e:y1 p.2.2.1 done st.2 d with
 | false=>rw[B1X e];exact hc
 | true =>
   rw[B1i e]
   have hn:(d:Int) ∉ st.2:=by
    simp only[y1,Bool.and_eq_true,Bool.not_eq_true',List.contains_eq_mem,decide_eq_false_iff_not] at e
    exact e.2.1
   refine⟨fun x hx=>?_,?_,?_,fun x hx=>?_,?_⟩
   · rcases List.mem_append.1 hx with hx|hx
     · exact hc.ok x hx
     · rw[List.mem_singleton.1 hx];exact B1F h hd
   · simp only[List.length_append,hc.len,List.length_singleton];omega
   · refine List.nodup_append.2 ⟨hc.nd,by simp,fun a ha b hb=>?_⟩
     rw[List.mem_singleton.1 hb];rintro rfl;exact hn ha
   · rcases List.mem_append.1 hx with hx|hx
     · exact hc.rng x hx
     · rw[List.mem_singleton.1 hx];omega
   · rw[List.filter_append,List.map_append,hc.nodes];simp[O4]
theorem CodeOk.putN {p:B7} (h:E4 p=true) {done dn:List Int} {st:U8} (hc:CodeOk p.2.2.1 dn st):∀m,m≤p.2.2.1.length→CodeOk p.2.2.1 dn (putN p.2.2.1 done st m):=by
 intro m
 induction m with
 | zero=>intro _;exact hc
 | succ m ih=>intro hm;exact(ih (by omega)).put h (by omega)
theorem CodeOk.add {p:B7} (h:E4 p=true) {dn:List Int} {st:U8} (hc:CodeOk p.2.2.1 dn st) {i:Nat} (hi:i < p.2.2.1.length):CodeOk p.2.2.1 (dn++[(i:Int)]) (st.1++[J4 (p.2.2.1.getD i n0) i],st.2):=by
 have hk:=(Z8 h hi).2.1
 refine⟨fun x hx=>?_,?_,hc.nd,hc.rng,?_⟩
 · rcases List.mem_append.1 hx with hx|hx
   · exact hc.ok x hx
   · rw[List.mem_singleton.1 hx];exact B1J h hi
 · simp only[List.length_append,hc.len,List.length_singleton];omega
 · rw[List.filter_append,List.map_append,hc.nodes];have:(J4 (p.2.2.1.getD i n0) i).1≠18:=by show (p.2.2.1.getD i n0).1≠18;omega
   have e:([J4 (p.2.2.1.getD i n0) i].filter fun x=>!decide (x.1=18))=[J4 (p.2.2.1.getD i n0) i]:=by
    simp only[List.filter_cons,List.filter_nil];rw[if_pos (by rw[decide_eq_false this];rfl)]
   rw[e];rfl
theorem A9D {ns:List B1} {k:Nat} (hk:k < (E3 ns).length):0≤(E3 ns).getD k 0∧((E3 ns).getD k 0).toNat < ns.length∧(E3 ns).getD k 0 < ns.length:=by
 obtain⟨i,h1,h2,_⟩:=W2 ns k hk
 rw[h1];omega
theorem A5f {p:B7} (h:E4 p=true):∀k,k≤(E3 p.2.2.1).length→CodeOk p.2.2.1 ((E3 p.2.2.1).take k) (R6 p.2.2.1 (E3 p.2.2.1) k):=by
 intro k
 induction k with
 | zero=>intro _;exact⟨by simp[R6],by simp[R6],by simp[R6],by simp[R6],by simp[R6]⟩
 | succ k ih =>
   intro hk;obtain⟨h0,h1,h2⟩:=A9D (ns:=p.2.2.1) (show k < (E3 p.2.2.1).length by omega)
   have:=(ih (by omega)).add h h1
   rw[Int.toNat_of_nonneg h0,←J8 (d:=(0:Int)) (by omega)] at this
   exact this.putN h _ (Nat.le_refl _)
theorem CodeOk.small {p:B7} (h:E4 p=true) {dn:List Int} {st:U8} (hc:CodeOk p.2.2.1 dn st):st.2.length≤p.2.2.1.length:=A8q _ _ hc.nd hc.rng
theorem B5C {p:B7} (h:E4 p=true) {k d:Nat} (hk:k < (E3 p.2.2.1).length) (hd:d≤p.2.2.1.length):CodeOk p.2.2.1 (V0 p.2.2.1 k) (T3 p.2.2.1 k d):=by
 obtain⟨h0,h1,h2⟩:=A9D hk
 have:=(A5f h k (by omega)).add h h1
 rw[Int.toNat_of_nonneg h0,←J8 (d:=(0:Int)) hk] at this
 exact this.putN h d hd
def Q0 (l is:List Int) (v:Int):List Int:=is.foldl (fun l i=>l.set i.toNat v) l
theorem A0g {l is:List Int} {v:Int}:(Q0 l is v).length=l.length:=by
 unfold Q0
 induction is generalizing l with
 | nil=>rfl
 | cons i is ih=>rw[List.foldl_cons,ih,List.length_set]
theorem A4i {l is:List Int} {v:Int} {k:Nat} (h:k < is.length):Q0 l (is.take (k+1)) v=(Q0 l (is.take k) v).set (is.getD k 0).toNat v:=by
 unfold Q0;rw[J8 (d:=(0:Int)) h,List.foldl_append];rfl
def U3 (n:Nat) (code:List A1):Nat→List Int
 | 0=>List.replicate n (-1)
 | t+1=>Q0 (U3 n code t) (code.getD t x0).2.2.2.2.1 t
theorem o7 {n:Nat} {code:List A1}:∀t,(U3 n code t).length=n:=by
 intro t
 induction t with
 | zero=>simp[U3]
 | succ t ih=>simp only[U3,A0g,ih]
def K0 (n:Nat) (code:List A1) (os:List Int):List Int:=Q0 (U3 n code code.length) os code.length
theorem B4D {n:Nat} {code:List A1} {os:List Int}:(K0 n code os).length=n:=by unfold K0;rw[A0g,o7]
def freeR (last:List Int) (t:Int):List Int→Nat
 | []=>0
 | h::l=>match decide (t < last.getD h.toNat 0) with|true=>freeR last t l+1|false=>0
theorem y0 (last:List Int) (t:Int):∀(held:List Int),freeR last t held≤held.length∧(∀j,j < freeR last t held→t < last.getD (held.getD j 0).toNat 0)∧(freeR last t held < held.length→¬t < last.getD (held.getD (freeR last t held) 0).toNat 0):=by
 intro held
 induction held with
 | nil=>exact⟨Nat.le_refl _,fun j hj=>absurd hj (Nat.not_lt_zero _),fun h=>absurd h (Nat.lt_irrefl _)⟩
 | cons x l ih =>
   unfold freeR
   by_cases c:t < last.getD x.toNat 0
   · rw[decide_eq_true c];simp only[List.length_cons];refine⟨by omega,fun j hj=>?_,fun hl=>?_⟩
     · cases j with
       | zero=>exact c
       | succ j=>simpa using ih.2.1 j (by omega)
     · simpa using ih.2.2 (by omega)
   · rw[decide_eq_false c];exact⟨by simp,fun j hj=>absurd hj (Nat.not_lt_zero _),fun _=>by simpa using c⟩
theorem B6s {last:List Int} {t:Int} {held:List Int} {r:Nat} (h1:r≤held.length) (h2:∀j,j < r→t < last.getD (held.getD j 0).toNat 0) (h3:r < held.length→¬t < last.getD (held.getD r 0).toNat 0):freeR last t held=r:=by
 obtain⟨g1,g2,g3⟩:=y0 last t held
 rcases Nat.lt_trichotomy (freeR last t held) r with h|h|h
 · exact absurd (h2 _ h) (g3 (by omega))
 · exact h
 · exact absurd (g2 _ h) (h3 (by omega))
def Z1 (held:List Int) (r:Nat) (v:Int):List Int:=match decide (r=held.length) with|true=>(held++[0]).set r v|false=>held.set r v
theorem U1 {held:List Int} {r:Nat} {v:Int}:(Z1 held r v).length=if r=held.length then held.length+1 else held.length:=by
 unfold Z1
 by_cases c:r=held.length
 · rw[decide_eq_true c,if_pos c];simp
 · rw[decide_eq_false c,if_neg c];simp
theorem A3j {held:List Int} {r:Nat} {v:Int} (hr:r≤held.length) {j:Nat} (hj:j < (Z1 held r v).length):(Z1 held r v).getD j 0=if j=r then v else held.getD j 0:=by
 rw[U1] at hj;unfold Z1
 by_cases c:r=held.length
 · rw[if_pos c] at hj;rw[decide_eq_true c];simp only
   rw[G6 (by simp;omega)]
   by_cases e:r=j
   · rw[if_pos e,if_pos e.symm]
   · rw[if_neg e,if_neg (fun h=>e h.symm),List.getD_eq_getElem?_getD,List.getD_eq_getElem?_getD,List.getElem?_append_left (by omega)]
 · rw[if_neg c] at hj;rw[decide_eq_false c];simp only
   rw[G6 (by omega)]
   by_cases e:r=j
   · rw[if_pos e,if_pos e.symm]
   · rw[if_neg e,if_neg (fun h=>e h.symm)]
theorem B1o {held:List Int} {r:Nat} {v:Int} (h:r=held.length):Z1 held r v=(held++[0]).set r v:=by unfold Z1;rw[decide_eq_true h]
theorem B1L {held:List Int} {r:Nat} {v:Int} (h:¬r=held.length):Z1 held r v=held.set r v:=by unfold Z1;rw[decide_eq_false h]
def m6 (regs fr:List Int):List Int:=fr.map fun q=>regs.getD q.toNat 0
abbrev y8:=List Int × List Int × List A1
def A6O (last:List Int) (st:y8) (t:Nat) (x:A1):y8:=match decide (x.1=18) with
 | true=>(st.1,st.2.1,st.2.2++[(x.1,x.2.1,x.2.2.1,x.2.2.2.1,m6 st.2.1 x.2.2.2.2.1,x.2.2.2.2.2)])
 | false=>(Z1 st.1 (freeR last t st.1) x.2.2.2.1,st.2.1.set x.2.2.2.1.toNat (freeR last t st.1),st.2.2++[(x.1,x.2.1,x.2.2.1,x.2.2.2.1,m6 st.2.1 x.2.2.2.2.1,(freeR last t st.1:Int))])
theorem B0U {last:List Int} {st:y8} {t:Nat} {x:A1} (h:x.1=18):A6O last st t x=(st.1,st.2.1,st.2.2++[(x.1,x.2.1,x.2.2.1,x.2.2.2.1,m6 st.2.1 x.2.2.2.2.1,x.2.2.2.2.2)]):=by unfold A6O;rw[decide_eq_true h]
theorem B0D {last:List Int} {st:y8} {t:Nat} {x:A1} (h:¬x.1=18):A6O last st t x=(Z1 st.1 (freeR last t st.1) x.2.2.2.1,st.2.1.set x.2.2.2.1.toNat (freeR last t st.1),st.2.2++[(x.1,x.2.1,x.2.2.1,x.2.2.2.1,m6 st.2.1 x.2.2.2.2.1,(freeR last t st.1:Int))]):=by unfold A6O;rw[decide_eq_false h]
def D4 (last:List Int) (code:List A1) (n:Nat):Nat→y8
 | 0=>([],List.replicate n 0,[])
 | t+1=>A6O last (D4 last code n t) t (code.getD t x0)
theorem B0f {last:List Int} {code:List A1} {n t:Nat} (h:(code.getD t x0).1=18):(D4 last code n (t+1)).1=(D4 last code n t).1∧(D4 last code n (t+1)).2.1=(D4 last code n t).2.1 ∧
 (D4 last code n (t+1)).2.2=(D4 last code n t).2.2++[((code.getD t x0).1,(code.getD t x0).2.1,(code.getD t x0).2.2.1,(code.getD t x0).2.2.2.1,m6 (D4 last code n t).2.1 (code.getD t x0).2.2.2.2.1,(code.getD t x0).2.2.2.2.2)]:=by
 simp only[D4];rw[B0U h];exact⟨rfl,rfl,rfl⟩
theorem B0Y {last:List Int} {code:List A1} {n t r:Nat} (h:¬(code.getD t x0).1=18) (hr:freeR last t (D4 last code n t).1=r):(D4 last code n (t+1)).1=Z1 (D4 last code n t).1 r (code.getD t x0).2.2.2.1∧(D4 last code n (t+1)).2.1=(D4 last code n t).2.1.set (code.getD t x0).2.2.2.1.toNat (r:Int) ∧
 (D4 last code n (t+1)).2.2=(D4 last code n t).2.2++[((code.getD t x0).1,(code.getD t x0).2.1,(code.getD t x0).2.2.1,(code.getD t x0).2.2.2.1,m6 (D4 last code n t).2.1 (code.getD t x0).2.2.2.2.1,(r:Int))]:=by
 simp only[D4];rw[B0D h,hr];exact⟨rfl,rfl,rfl⟩
structure HeldOk (n:Nat) (code:List A1) (t:Nat) (st:y8):Prop where
 regs:st.2.1.length=n
 out:st.2.2.length=t
 small:st.1.length≤n
 rng:∀r,r < st.1.length→0≤st.1.getD r 0∧st.1.getD r 0 < n
 at_:∀r,r < st.1.length→st.2.1.getD (st.1.getD r 0).toNat 0=(r:Int)
 old:∀r,r < st.1.length→∃q,q < t∧q < code.length∧¬(code.getD q x0).1=18∧(code.getD q x0).2.2.2.1=st.1.getD r 0
def B7t (code:List A1):Prop:=∀q t,q < t→t < code.length→¬(code.getD q x0).1=18→¬(code.getD t x0).1=18→(code.getD q x0).2.2.2.1≠(code.getD t x0).2.2.2.1
theorem HeldOk.inj {n:Nat} {code:List A1} {t:Nat} {st:y8} (h:HeldOk n code t st) {i j:Nat} (hi:i < st.1.length) (hj:j < st.1.length) (e:st.1.getD i 0=st.1.getD j 0):i=j:=by
 have h1:=h.at_ i hi
 have h2:=h.at_ j hj
 rw[e,h2] at h1;omega
theorem A7L {n:Nat} {code:List A1} {last:List Int} (hok:∀x∈code,X1 n x) (hd:B7t code):∀t,t≤code.length→HeldOk n code t (D4 last code n t):=by
 intro t
 induction t with
 | zero=>intro _;exact⟨by simp[D4],by simp[D4],by simp[D4],by simp[D4],by simp[D4],by simp[D4]⟩
 | succ t ih =>
   intro ht;have h:=ih (by omega)
   have hx:=hok _ (C6 (d:=x0) (show t < code.length by omega))
   simp only[D4];generalize hxe:code.getD t x0=x at *
   by_cases c:x.1=18
   · rw[B0U c];exact⟨h.regs,by simp[h.out],h.small,h.rng,h.at_,fun r hr=>by obtain⟨q,q1,q2⟩:=h.old r hr;exact⟨q,by omega,q2⟩⟩
   · rw[B0D c];obtain⟨g1,g2,g3⟩:=y0 last t (D4 last code n t).1
     generalize freeR last t (D4 last code n t).1=r at *
     obtain⟨⟨x1,x2⟩,_,_⟩:=hx
     have hnew:∀j,j < (D4 last code n t).1.length→(D4 last code n t).1.getD j 0≠x.2.2.2.1:=fun j hj=>by
      obtain⟨q,q1,q2,q3,q4⟩:=h.old j hj
      rw[←q4];have:=hd q t q1 (by omega) q3 (by rw[hxe];exact c)
      rw[hxe] at this;exact this
     have hat:∀j,j < (Z1 (D4 last code n t).1 r x.2.2.2.1).length→(Z1 (D4 last code n t).1 r x.2.2.2.1).getD j 0=if j=r then x.2.2.2.1 else (D4 last code n t).1.getD j 0:=fun j hj=>A3j g1 hj
     have hjl:∀j,j < (Z1 (D4 last code n t).1 r x.2.2.2.1).length→j≠r→j < (D4 last code n t).1.length:=fun j hj hne=>by
      rw[U1] at hj;split at hj<;>omega
     have hat2:∀j,j < (Z1 (D4 last code n t).1 r x.2.2.2.1).length→((D4 last code n t).2.1.set x.2.2.2.1.toNat (r:Int)).getD ((Z1 (D4 last code n t).1 r x.2.2.2.1).getD j 0).toNat 0=(j:Int):=fun j hj=>by
      rw[hat j hj];have hr':=h.regs
      by_cases e:j=r
      · rw[if_pos e,G6 (by omega),if_pos rfl,e]
      · rw[if_neg e];have hj':=hjl j hj e
        have:=hnew j hj'
        have hr2:=h.rng j hj'
        rw[G6 (by omega),if_neg (by omega)]
        exact h.at_ j hj'
     have hrng:∀j,j < (Z1 (D4 last code n t).1 r x.2.2.2.1).length→0≤(Z1 (D4 last code n t).1 r x.2.2.2.1).getD j 0∧(Z1 (D4 last code n t).1 r x.2.2.2.1).getD j 0 < n:=fun j hj=>by
      rw[hat j hj]
      by_cases e:j=r
      · rw[if_pos e];exact⟨x1,x2⟩
      · rw[if_neg e];exact h.rng j (hjl j hj e)
     refine⟨by simp[h.regs],by simp[h.out],?_,hrng,hat2,fun j hj=>?_⟩
     · refine A8q n _ ?_ (fun y hy=>?_)
       · rw[List.nodup_iff_pairwise_ne];refine List.pairwise_iff_getElem.2 fun i j hi hj hij e=>?_
         have k1:=hat2 i hi
         have k2:=hat2 j hj
         rw[show (Z1 (D4 last code n t).1 r x.2.2.2.1).getD i 0=(Z1 (D4 last code n t).1 r x.2.2.2.1).getD j 0 by simp only[List.getD_eq_getElem?_getD,List.getElem?_eq_getElem hi,List.getElem?_eq_getElem hj,e]] at k1
         rw[k2] at k1;omega
       · obtain⟨i,hi,rfl⟩:=List.mem_iff_getElem.1 hy
         have:=hrng i hi
         rwa [List.getD_eq_getElem?_getD,List.getElem?_eq_getElem hi] at this
     · by_cases e:j=r
       · exact⟨t,by omega,by omega,by rw[hxe];exact c,by rw[hat j hj,if_pos e,hxe]⟩
       · obtain⟨q,q1,q2,q3,q4⟩:=h.old j (hjl j hj e)
         exact⟨q,by omega,q2,q3,by rw[hat j hj,if_neg e];exact q4⟩
def LiveOk (last held live:List Int) (t:Nat):Prop:=∀x,(t:Int) < last.getD x.toNat 0→(x∈live↔x∈held)
def B2n (last:List Int) (t:Int) (live:List Int):List Int:=live.filter fun x=>decide (t < last.getD x.toNat 0)
theorem LiveOk.rest {last held live:List Int} {t:Nat} (h:LiveOk last held live t) {x:Int}:x∈B2n last t live↔(t:Int) < last.getD x.toNat 0∧x∈held:=by
 unfold B2n;rw[List.mem_filter,decide_eq_true_eq];exact⟨fun ⟨a,b⟩=>⟨b,(h x b).1 a⟩,fun ⟨a,b⟩=>⟨(h x a).2 b,a⟩⟩
theorem LiveOk.store {last held live:List Int} {t:Nat} (h:LiveOk last held live t):LiveOk last held (B2n last t live) (t+1):=fun x hx=>by
 rw[h.rest];exact⟨fun g=>g.2,fun g=>⟨by omega,g⟩⟩
theorem B0m {held:List Int} {r:Nat} {v:Int} (hr:r≤held.length) {x:Int}:x∈Z1 held r v↔x=v∨∃j,j < held.length∧j≠r∧held.getD j 0=x:=by
 constructor
 · intro hx;obtain⟨j,hj,rfl⟩:=A6h hx
   rw[A3j hr hj]
   by_cases e:j=r
   · rw[if_pos e];exact .inl rfl
   · rw[if_neg e];refine .inr ⟨j,?_,e,rfl⟩
     rw[U1] at hj;split at hj<;>omega
 · have hl:r < (Z1 held r v).length:=by rw[U1];split<;>omega
   rintro (rfl|⟨j,hj,hne,rfl⟩)
   · have:=C6 (d:=(0:Int)) hl
     rwa [A3j hr hl,if_pos rfl] at this
   · have hl2:j < (Z1 held r v).length:=by rw[U1];split<;>omega
     have:=C6 (d:=(0:Int)) hl2
     rwa [A3j hr hl2,if_neg hne] at this
theorem LiveOk.next {last held live:List Int} {t:Nat} (h:LiveOk last held live t) (v:Int):LiveOk last (Z1 held (freeR last t held) v) (B2n last t live++[v]) (t+1):=fun x hx=>by
 obtain⟨g1,g2,g3⟩:=y0 last t held
 rw[List.mem_append,List.mem_singleton,h.rest,B0m g1]
 constructor
 · rintro (⟨a,b⟩|rfl)
   · obtain⟨j,hj,rfl⟩:=A6h b
     by_cases e:j=freeR last t held
     · exact absurd a (by rw[e];exact g3 (by omega))
     · exact .inr ⟨j,hj,e,rfl⟩
   · exact .inl rfl
 · rintro (rfl|⟨j,hj,hne,rfl⟩)
   · exact .inr rfl
   · exact .inl ⟨by omega,C6 hj⟩
def M4 (p:B7):G0 :=
 (p.1,((D4 (K0 p.2.2.1.length (C1 p.2.2.1) p.2.2.2) (C1 p.2.2.1) p.2.2.1.length (C1 p.2.2.1).length).1.length:Int),p.2.1,
  (D4 (K0 p.2.2.1.length (C1 p.2.2.1) p.2.2.2) (C1 p.2.2.1) p.2.2.1.length (C1 p.2.2.1).length).2.2,
  m6 (D4 (K0 p.2.2.1.length (C1 p.2.2.1) p.2.2.2) (C1 p.2.2.1) p.2.2.1.length (C1 p.2.2.1).length).2.1 p.2.2.2)
def A4l (p:B7):G0 × Int:=match G3 p with|true=>(M4 p,0)|false=>((0,0,[],[],[]),1)
theorem A5N {p:B7} (h:G3 p=true):A4l p=(M4 p,0):=by unfold A4l;rw[h]
theorem A8y {p:B7} (h:G3 p=false):A4l p=((0,0,[],[],[]),1):=by unfold A4l;rw[h]
theorem B5a {p:B7} (h:E4 p=true):CodeOk p.2.2.1 (E3 p.2.2.1) (R6 p.2.2.1 (E3 p.2.2.1) (E3 p.2.2.1).length):=by
 have:=A5f h _ (Nat.le_refl _)
 rwa [List.take_length] at this
theorem B87 {code:List A1} (h:((code.filter fun x=>!decide (x.1=18)).map (fun x=>x.2.2.2.1)).Nodup):B7t code:=fun q t hqt ht hq0 ht0 e=>by
 have hq:q < code.length:=by omega
 have e1:code=code.take t++code[t]::code.drop (t+1):=by rw[←List.drop_eq_getElem_cons ht,List.take_append_drop]
 rw[e1,List.filter_append,List.map_append] at h;have gq:code.getD q x0=code[q]:=by simp[List.getD,hq]
 have gt:code.getD t x0=code[t]:=by simp[List.getD,ht]
 rw[gq] at hq0 e
 rw[gt] at ht0 e
 have m1:code[q].2.2.2.1∈((code.take t).filter fun x=>!decide (x.1=18)).map (fun x=>x.2.2.2.1):=by
  refine List.mem_map.2 ⟨code[q],List.mem_filter.2 ⟨?_,by simp[hq0]⟩,rfl⟩
  exact List.mem_iff_getElem.2 ⟨q,by simp;omega,by simp⟩
 have m2:code[t].2.2.2.1∈((code[t]::code.drop (t+1)).filter fun x=>!decide (x.1=18)).map (fun x=>x.2.2.2.1):=by
  refine List.mem_map.2 ⟨code[t],List.mem_filter.2 ⟨List.mem_cons_self,by simp[ht0]⟩,rfl⟩
 exact(List.nodup_append.1 h).2.2 _ m1 _ m2 e
theorem Q5 {p:B7} (h:E4 p=true):(∀x∈C1 p.2.2.1,X1 p.2.2.1.length x)∧B7t (C1 p.2.2.1)∧(C1 p.2.2.1).length≤48:=by
 have hc:=B5a h
 refine⟨hc.ok,B87 ?_,?_⟩
 · rw[show C1 p.2.2.1=(R6 p.2.2.1 (E3 p.2.2.1) (E3 p.2.2.1).length).1 from rfl,hc.nodes]
   exact(W2 p.2.2.1).nodup
 · have h1:=hc.len
   have h2:=hc.small h
   have h3:=A8q p.2.2.1.length _ (W2 p.2.2.1).nodup fun x hx=>by
    obtain⟨j,hj,rfl⟩:=A6h hx
    have:=A9D (ns:=p.2.2.1) hj
    omega
   have h4:=(C0 h).1
   show (R6 p.2.2.1 (E3 p.2.2.1) (E3 p.2.2.1).length).1.length≤48
   omega
open Go.RowKit
instance:DecidableEq A1:=inferInstanceAs (DecidableEq (Int × Int × Int × Int × List Int × Int))
instance:DecidableEq G0:=instDecidableEqProd
end Go.Proofs.YtenjbehedcegdaaGreat
