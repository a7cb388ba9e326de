/-
  Texts of this claim, joined (part 8). No condition beyond those of the theorems.
-/
import Derived.Test.YtenjbehedcegdaaR05
set_option linter.unusedSimpArgs false
set_option linter.unusedVariables false
namespace Go.Proofs.Ytenjbehedcegdaa
open Go.RowKit
abbrev InstrD:=Int × Int × Int × Int × List Int × Int
abbrev ProgD:=Int × Int × List (List Int) × List InstrD × List Int
def x0:InstrD:=(0,0,0,0,[],0)
def nAt (ns:List NodeD) (i:Int):NodeD:=ns.getD i.toNat n0
def instrOf (n:NodeD) (i:Int):InstrD:=(n.1,n.2.1,n.2.2.1,i,waitsL n,i)
def storeOf (n:NodeD) (d:Nat):InstrD:=(18,0,0,d,n.2.2.2,0)
abbrev CodeSt:=List InstrD × List Int
def putB (ns:List NodeD) (done sto:List Int) (d:Nat):Bool:=decide ((ns.getD d n0).1=6) && (!sto.contains (d:Int) && (done.contains (d:Int) && done.contains ((ns.getD d n0).2.2.2.getD 0 0)))
def putS (ns:List NodeD) (done:List Int) (st:CodeSt) (d:Nat):CodeSt:=match putB ns done st.2 d with
 | true=>(st.1++[storeOf (ns.getD d n0) d],st.2++[(d:Int)])
 | false=>st
def putN (ns:List NodeD) (done:List Int) (st:CodeSt):Nat→CodeSt
 | 0=>st
 | m+1=>putS ns done (putN ns done st m) m
def codeK (ns:List NodeD) (o:List Int):Nat→CodeSt
 | 0=>([],[])
 | k+1=>putN ns (o.take (k+1)) ((codeK ns o k).1++[instrOf (nAt ns (o.getD k 0)) (o.getD k 0)],(codeK ns o k).2) ns.length
def codeL (ns:List NodeD):List InstrD:=(codeK ns (ordL ns) (ordL ns).length).1
section
variable {ns:List NodeD} {done sto:List Int} {d:Nat}
end
theorem putS_t {ns:List NodeD} {done:List Int} {st:CodeSt} {d:Nat} (h:putB ns done st.2 d=true):putS ns done st d=(st.1++[storeOf (ns.getD d n0) d],st.2++[(d:Int)]):=by unfold putS;rw[h]
theorem putS_f {ns:List NodeD} {done:List Int} {st:CodeSt} {d:Nat} (h:putB ns done st.2 d=false):putS ns done st d=st:=by unfold putS;rw[h]
def Marks (n:Nat) (bs:List Bool) (l:List Int):Prop:=bs.length=n∧∀d,d < n→bs.getD d false=l.contains (d:Int)
theorem Marks.nil (n:Nat):Marks n (List.replicate n false) []:=⟨by simp,fun d hd=>by simp[List.getD,hd]⟩
theorem Marks.add {n:Nat} {bs:List Bool} {l:List Int} {i:Nat} (h:Marks n bs l) (hi:i < n):Marks n (bs.set i true) (l++[(i:Int)]):=by
 refine⟨by rw[List.length_set];exact h.1,fun d hd=>?_⟩
 have hl:=h.1
 rw[getD_set (by omega)]
 split
 · rename_i e;subst e;simp
 · rename_i e
   rw[h.2 d hd,List.contains_append]
   have:([(i:Int)].contains (d:Int))=false:=by simp;omega
   rw[this,Bool.or_false]
theorem Marks.at {n:Nat} {bs:List Bool} {l:List Int} (h:Marks n bs l) {x:Int} (h0:0≤x) (hx:x < n):bs.getD x.toNat false=l.contains x:=by
 rw[h.2 x.toNat (by omega),Int.toNat_of_nonneg h0]
def InstrOk (n:Nat) (x:InstrD):Prop:=(0≤x.2.2.2.1∧x.2.2.2.1 < n)∧idxs n x.2.2.2.2.1=true∧x.2.2.2.2.1.length≤3
theorem kind_at {p:PatchD} (h:formedB p=true) {i:Nat} (hi:i < p.2.2.1.length):1≤(p.2.2.1.getD i n0).1∧(p.2.2.1.getD i n0).1≤17∧idxs p.2.2.1.length (p.2.2.1.getD i n0).2.2.2=true∧(p.2.2.1.getD i n0).2.2.2.length≤3∧((p.2.2.1.getD i n0).1=6→(p.2.2.1.getD i n0).2.2.2.length=1):=by
 obtain⟨q1,q2,_⟩:=nodeIn_parts (node_at h hi)
 generalize p.2.2.1.getD i n0=n at *
 obtain⟨kd,a,b,fr⟩:=n
 obtain⟨h1,h2,_⟩:=nodeB_parts q1
 obtain⟨_,_,_,_,_,_,_,h3,h4,h5,h6⟩:=nodeB_ab q1
 simp only at h1 h2 q2 ⊢
 refine⟨h1,h2,q2,?_,fun e=>h4 (by omega)⟩
 have:kd=1∨kd=2∨kd=3∨kd=4∨kd=5∨kd=6∨kd=7∨kd=8∨kd=9∨kd=10∨kd=11∨kd=12∨kd=13∨kd=14∨kd=15∨kd=16∨kd=17:=by omega
 have e3:(kd=3∨kd=4∨kd=9∨kd=16)∨(kd=5∨kd=6∨kd=7∨kd=8∨kd=10∨kd=11∨kd=12∨kd=13∨kd=17)∨kd=15∨(kd=1∨kd=2∨kd=14):=by omega
 rcases e3 with e|e|e|e
 · have:=h3 e;omega
 · have:=h4 e;omega
 · have:=h5 e;omega
 · have:=h6 e;omega
theorem one_of {l:List Int} (h:l.length=1):[l.getD 0 0]=l:=by
 match l,h with
 | [x],_=>rfl
theorem idxs_sub {n:Int} {a b:List Int} (h:idxs n b=true) (hs:∀x∈a,x∈b):idxs n a=true:=List.all_eq_true.2 fun x hx=>List.all_eq_true.1 h x (hs x hx)
theorem waitsL_sub (n:NodeD):∀x∈waitsL n,x∈n.2.2.2:=fun x hx=>by
 unfold waitsL at hx
 split at hx
 · cases hx
 · exact hx
theorem instrOf_ok {p:PatchD} (h:formedB p=true) {i:Nat} (hi:i < p.2.2.1.length):InstrOk p.2.2.1.length (instrOf (p.2.2.1.getD i n0) i):=by
 obtain⟨_,_,q3,q4,_⟩:=kind_at h hi
 exact⟨⟨by simp[instrOf],by simp[instrOf];omega⟩,idxs_sub q3 (waitsL_sub _),Nat.le_trans (waitsL_len _) q4⟩
theorem storeOf_ok {p:PatchD} (h:formedB p=true) {i:Nat} (hi:i < p.2.2.1.length):InstrOk p.2.2.1.length (storeOf (p.2.2.1.getD i n0) i):=by
 obtain⟨_,_,q3,q4,_⟩:=kind_at h hi
 exact⟨⟨by simp[storeOf],by simp[storeOf];omega⟩,q3,q4⟩
theorem mem_at {l:List Int} {x:Int} (h:x∈l):∃j,j < l.length∧l.getD j 0=x:=by
 obtain⟨i,hi,rfl⟩:=List.mem_iff_getElem.1 h
 exact⟨i,hi,by simp[List.getD,hi]⟩
structure CodeOk (ns:List NodeD) (done:List Int) (st:CodeSt):Prop where
 ok:∀x∈st.1,InstrOk ns.length x
 len:st.1.length=done.length+st.2.length
 nd:st.2.Nodup
 rng:∀x∈st.2,0≤x∧x < ns.length
 nodes:(st.1.filter fun x=>!decide (x.1=18)).map (fun x=>x.2.2.2.1)=done
theorem CodeOk.put {p:PatchD} (h:formedB p=true) {done:List Int} {st:CodeSt} {dn:List Int} (hc:CodeOk p.2.2.1 dn st) {d:Nat} (hd:d < p.2.2.1.length):CodeOk p.2.2.1 dn (putS p.2.2.1 done st d):=by
 cases e:putB p.2.2.1 done st.2 d with
 | false=>rw[putS_f e];exact hc
 | true =>
   rw[putS_t e]
   have hn:(d:Int) ∉ st.2:=by
    simp only[putB,Bool.and_eq_true,Bool.not_eq_true',List.contains_eq_mem,decide_eq_false_iff_not] at e
    exact e.2.1
   refine⟨fun x hx=>?_,?_,?_,fun x hx=>?_,?_⟩
   · rcases List.mem_append.1 hx with hx|hx
     · exact hc.ok x hx
     · rw[List.mem_singleton.1 hx];exact storeOf_ok h hd
   · simp only[List.length_append,hc.len,List.length_singleton];omega
   · refine List.nodup_append.2 ⟨hc.nd,by simp,fun a ha b hb=>?_⟩
     rw[List.mem_singleton.1 hb];rintro rfl;exact hn ha
   · rcases List.mem_append.1 hx with hx|hx
     · exact hc.rng x hx
     · rw[List.mem_singleton.1 hx];omega
   · rw[List.filter_append,List.map_append,hc.nodes]
     simp[storeOf]
theorem CodeOk.putN {p:PatchD} (h:formedB p=true) {done dn:List Int} {st:CodeSt} (hc:CodeOk p.2.2.1 dn st):∀m,m≤p.2.2.1.length→CodeOk p.2.2.1 dn (putN p.2.2.1 done st m):=by
 intro m
 induction m with
 | zero=>intro _;exact hc
 | succ m ih=>intro hm;exact(ih (by omega)).put h (by omega)
theorem CodeOk.add {p:PatchD} (h:formedB p=true) {dn:List Int} {st:CodeSt} (hc:CodeOk p.2.2.1 dn st) {i:Nat} (hi:i < p.2.2.1.length):CodeOk p.2.2.1 (dn++[(i:Int)]) (st.1++[instrOf (p.2.2.1.getD i n0) i],st.2):=by
 have hk:=(kind_at h hi).2.1
 refine⟨fun x hx=>?_,?_,hc.nd,hc.rng,?_⟩
 · rcases List.mem_append.1 hx with hx|hx
   · exact hc.ok x hx
   · rw[List.mem_singleton.1 hx];exact instrOf_ok h hi
 · simp only[List.length_append,hc.len,List.length_singleton];omega
 · rw[List.filter_append,List.map_append,hc.nodes]
   have:(instrOf (p.2.2.1.getD i n0) i).1≠18:=by show (p.2.2.1.getD i n0).1≠18;omega
   have e:([instrOf (p.2.2.1.getD i n0) i].filter fun x=>!decide (x.1=18))=[instrOf (p.2.2.1.getD i n0) i]:=by
    simp only[List.filter_cons,List.filter_nil];rw[if_pos (by rw[decide_eq_false this];rfl)]
   rw[e];rfl
theorem CodeOk.small {p:PatchD} (h:formedB p=true) {dn:List Int} {st:CodeSt} (hc:CodeOk p.2.2.1 dn st):st.2.length≤p.2.2.1.length:=pigeon _ _ hc.nd hc.rng
def setAll (l is:List Int) (v:Int):List Int:=is.foldl (fun l i=>l.set i.toNat v) l
def lastK (n:Nat) (code:List InstrD):Nat→List Int
 | 0=>List.replicate n (-1)
 | t+1=>setAll (lastK n code t) (code.getD t x0).2.2.2.2.1 t
def lastP (n:Nat) (code:List InstrD) (os:List Int):List Int:=setAll (lastK n code code.length) os code.length
def freeR (last:List Int) (t:Int):List Int→Nat
 | []=>0
 | h::l=>match decide (t < last.getD h.toNat 0) with|true=>freeR last t l+1|false=>0
theorem freeR_spec (last:List Int) (t:Int):∀(held:List Int),freeR last t held≤held.length∧(∀j,j < freeR last t held→t < last.getD (held.getD j 0).toNat 0)∧(freeR last t held < held.length→¬t < last.getD (held.getD (freeR last t held) 0).toNat 0):=by
 intro held
 induction held with
 | nil=>exact⟨Nat.le_refl _,fun j hj=>absurd hj (Nat.not_lt_zero _),fun h=>absurd h (Nat.lt_irrefl _)⟩
 | cons x l ih =>
   unfold freeR
   by_cases c:t < last.getD x.toNat 0
   · rw[decide_eq_true c]
     simp only[List.length_cons]
     refine⟨by omega,fun j hj=>?_,fun hl=>?_⟩
     · cases j with
       | zero=>exact c
       | succ j=>simpa using ih.2.1 j (by omega)
     · simpa using ih.2.2 (by omega)
   · rw[decide_eq_false c]
     exact⟨by simp,fun j hj=>absurd hj (Nat.not_lt_zero _),fun _=>by simpa using c⟩
def setH (held:List Int) (r:Nat) (v:Int):List Int:=match decide (r=held.length) with|true=>(held++[0]).set r v|false=>held.set r v
theorem setH_len {held:List Int} {r:Nat} {v:Int}:(setH held r v).length=if r=held.length then held.length+1 else held.length:=by
 unfold setH
 by_cases c:r=held.length
 · rw[decide_eq_true c,if_pos c];simp
 · rw[decide_eq_false c,if_neg c];simp
theorem setH_at {held:List Int} {r:Nat} {v:Int} (hr:r≤held.length) {j:Nat} (hj:j < (setH held r v).length):(setH held r v).getD j 0=if j=r then v else held.getD j 0:=by
 rw[setH_len] at hj
 unfold setH
 by_cases c:r=held.length
 · rw[if_pos c] at hj
   rw[decide_eq_true c]
   simp only
   rw[getD_set (by simp;omega)]
   by_cases e:r=j
   · rw[if_pos e,if_pos e.symm]
   · rw[if_neg e,if_neg (fun h=>e h.symm),List.getD_eq_getElem?_getD,List.getD_eq_getElem?_getD,List.getElem?_append_left (by omega)]
 · rw[if_neg c] at hj
   rw[decide_eq_false c]
   simp only
   rw[getD_set (by omega)]
   by_cases e:r=j
   · rw[if_pos e,if_pos e.symm]
   · rw[if_neg e,if_neg (fun h=>e h.symm)]
def mapR (regs fr:List Int):List Int:=fr.map fun q=>regs.getD q.toNat 0
abbrev AllocSt:=List Int × List Int × List InstrD
def allocS (last:List Int) (st:AllocSt) (t:Nat) (x:InstrD):AllocSt:=match decide (x.1=18) with
 | true=>(st.1,st.2.1,st.2.2++[(x.1,x.2.1,x.2.2.1,x.2.2.2.1,mapR st.2.1 x.2.2.2.2.1,x.2.2.2.2.2)])
 | false=>(setH st.1 (freeR last t st.1) x.2.2.2.1,st.2.1.set x.2.2.2.1.toNat (freeR last t st.1),st.2.2++[(x.1,x.2.1,x.2.2.1,x.2.2.2.1,mapR st.2.1 x.2.2.2.2.1,(freeR last t st.1:Int))])
def allocK (last:List Int) (code:List InstrD) (n:Nat):Nat→AllocSt
 | 0=>([],List.replicate n 0,[])
 | t+1=>allocS last (allocK last code n t) t (code.getD t x0)
structure HeldOk (n:Nat) (code:List InstrD) (t:Nat) (st:AllocSt):Prop where
 regs:st.2.1.length=n
 out:st.2.2.length=t
 small:st.1.length≤n
 rng:∀r,r < st.1.length→0≤st.1.getD r 0∧st.1.getD r 0 < n
 at_:∀r,r < st.1.length→st.2.1.getD (st.1.getD r 0).toNat 0=(r:Int)
 old:∀r,r < st.1.length→∃q,q < t∧q < code.length∧¬(code.getD q x0).1=18∧(code.getD q x0).2.2.2.1=st.1.getD r 0
theorem HeldOk.inj {n:Nat} {code:List InstrD} {t:Nat} {st:AllocSt} (h:HeldOk n code t st) {i j:Nat} (hi:i < st.1.length) (hj:j < st.1.length) (e:st.1.getD i 0=st.1.getD j 0):i=j:=by
 have h1:=h.at_ i hi
 have h2:=h.at_ j hj
 rw[e,h2] at h1;omega
def LiveOk (last held live:List Int) (t:Nat):Prop:=∀x,(t:Int) < last.getD x.toNat 0→(x∈live↔x∈held)
def restL (last:List Int) (t:Int) (live:List Int):List Int:=live.filter fun x=>decide (t < last.getD x.toNat 0)
theorem LiveOk.rest {last held live:List Int} {t:Nat} (h:LiveOk last held live t) {x:Int}:x∈restL last t live↔(t:Int) < last.getD x.toNat 0∧x∈held:=by
 unfold restL
 rw[List.mem_filter,decide_eq_true_eq]
 exact⟨fun ⟨a,b⟩=>⟨b,(h x b).1 a⟩,fun ⟨a,b⟩=>⟨(h x a).2 b,a⟩⟩
theorem LiveOk.store {last held live:List Int} {t:Nat} (h:LiveOk last held live t):LiveOk last held (restL last t live) (t+1):=fun x hx=>by
 rw[h.rest];exact⟨fun g=>g.2,fun g=>⟨by omega,g⟩⟩
theorem mem_setH {held:List Int} {r:Nat} {v:Int} (hr:r≤held.length) {x:Int}:x∈setH held r v↔x=v∨∃j,j < held.length∧j≠r∧held.getD j 0=x:=by
 constructor
 · intro hx
   obtain⟨j,hj,rfl⟩:=mem_at hx
   rw[setH_at hr hj]
   by_cases e:j=r
   · rw[if_pos e];exact .inl rfl
   · rw[if_neg e]
     refine .inr ⟨j,?_,e,rfl⟩
     rw[setH_len] at hj;split at hj<;>omega
 · have hl:r < (setH held r v).length:=by rw[setH_len];split<;>omega
   rintro (rfl|⟨j,hj,hne,rfl⟩)
   · have:=getD_mem (d:=(0:Int)) hl
     rwa [setH_at hr hl,if_pos rfl] at this
   · have hl2:j < (setH held r v).length:=by rw[setH_len];split<;>omega
     have:=getD_mem (d:=(0:Int)) hl2
     rwa [setH_at hr hl2,if_neg hne] at this
theorem LiveOk.next {last held live:List Int} {t:Nat} (h:LiveOk last held live t) (v:Int):LiveOk last (setH held (freeR last t held) v) (restL last t live++[v]) (t+1):=fun x hx=>by
 obtain⟨g1,g2,g3⟩:=freeR_spec last t held
 rw[List.mem_append,List.mem_singleton,h.rest,mem_setH g1]
 constructor
 · rintro (⟨a,b⟩|rfl)
   · obtain⟨j,hj,rfl⟩:=mem_at b
     by_cases e:j=freeR last t held
     · exact absurd a (by rw[e];exact g3 (by omega))
     · exact .inr ⟨j,hj,e,rfl⟩
   · exact .inl rfl
 · rintro (rfl|⟨j,hj,hne,rfl⟩)
   · exact .inr rfl
   · exact .inl ⟨by omega,getD_mem hj⟩
open Go.RowKit
instance:DecidableEq InstrD:=inferInstanceAs (DecidableEq (Int × Int × Int × Int × List Int × Int))
instance:DecidableEq ProgD:=instDecidableEqProd
def mkX (k:Int) (x:InstrD):InstrD:=(k,k+1,k+2,k+3,markL (k+4) x.2.2.2.2.1,k+4+(x.2.2.2.2.1.length:Int))
def ctX (x:InstrD):Nat:=5+x.2.2.2.2.1.length
abbrev markXs (k:Int) (t:List InstrD):List InstrD:=markA mkX ctX k t
def ctG (g:ProgD):Nat:=cntA List.length g.2.2.1+cntA ctX g.2.2.2.1+g.2.2.2.2.length
end Go.Proofs.Ytenjbehedcegdaa
