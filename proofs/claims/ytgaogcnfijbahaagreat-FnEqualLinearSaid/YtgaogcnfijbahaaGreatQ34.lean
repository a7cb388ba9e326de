/-
  Texts of this claim, joined (part 34). No condition beyond those of the theorems.
-/
import Derived.Test.YtgaogcnfijbahaaGreatQ33
import Derived.Test.YtgaogcnfijbahaaGreatQ15
import Derived.OwnWalk
import Derived.ArgAppend
import Derived.Lib.Hide
import Derived.Test.YtgaogcnfijbahaaGreatRows
set_option linter.unusedSimpArgs false
set_option linter.unusedVariables false
namespace Go.Proofs.YtgaogcnfijbahaaGreat
open Go.RowKit
def QAt (w:World) (base b off cap:Nat) (xs:List Int):Prop:=base≤b∧b < w.heap.size∧xs.length≤cap∧cap≤maxLen ∧
 (∀i,i < cap→(w.cell? ⟨b,off+i,none⟩).isSome=true∧w.frozen? ⟨b,off+i,none⟩=false)∧∀i,i < xs.length→w.cell? ⟨b,off+i,none⟩=some (.int .i64 (xs.getD i 0))
def QRow (w:World) (base:Nat) (v:Value) (xs:List Int):Prop:=(v=.slice none 0 0∧xs=[])∨∃b off cap,v=.slice (some ⟨b,off,none⟩) xs.length cap∧QAt w base b off cap xs
theorem QAt.mono {w w':World} {base b off cap:Nat} {xs:List Int} (h:QAt w base b off cap xs) (hs:w.heap.size≤w'.heap.size) (hk:∀k,base≤k→k < w.heap.size→w'.heap[k]?=w.heap[k]?):QAt w' base b off cap xs:=by
 obtain⟨h1,h2,h3,h4,h5,h6⟩:=h;have e:=hk b h1 h2
 have ec:∀o,w'.cell? ⟨b,o,none⟩=w.cell? ⟨b,o,none⟩:=fun o=>World.cell?_of_block (a:=⟨b,o,none⟩) e
 have ef:∀o,w'.frozen? ⟨b,o,none⟩=w.frozen? ⟨b,o,none⟩:=fun o=>World.frozen?_of_block (a:=⟨b,o,none⟩) e
 exact⟨h1,by omega,h3,h4,fun i hi=>by rw[ec,ef];exact h5 i hi,fun i hi=>by rw[ec];exact h6 i hi⟩
theorem QRow.mono {w w':World} {base:Nat} {v:Value} {xs:List Int} (h:QRow w base v xs) (hs:w.heap.size≤w'.heap.size) (hk:∀k,base≤k→k < w.heap.size→w'.heap[k]?=w.heap[k]?):QRow w' base v xs:=by
 rcases h with h|⟨b,off,cap,e,h⟩
 · exact .inl h
 · exact .inr ⟨b,off,cap,e,h.mono hs hk⟩
theorem A0m {w:World} {b:Nat} {cur:Array Value} {e:TypeId} (h:w.heap[b]?=some (.cells cur e (0,0))) (o:Nat):w.cell? ⟨b,o,none⟩=cur[o]?∧w.frozen? ⟨b,o,none⟩=false:=by
 constructor
 · simp[World.cell?,h]
 · simp[World.frozen?,h]
theorem B0f {w:World} {b:Nat} {o:Obj} (h:w.heap[b]?=some o):b < w.heap.size:=by
 rcases Nat.lt_or_ge b w.heap.size with h1|h1
 · exact h1
 · rw[Array.getElem?_eq_none h1] at h;cases h
theorem QAt.of_cells {w:World} {base b cap:Nat} {cur:Array Value} {e:TypeId} {xs:List Int} (hb:base≤b) (h:w.heap[b]?=some (.cells cur e (0,0))) (hl:xs.length≤cap) (hc:cap≤maxLen) (hs:cur.size=cap)
 (hx:∀i,i < xs.length→cur[i]?=some (.int .i64 (xs.getD i 0))):QAt w base b 0 cap xs:=by
 refine⟨hb,B0f h,hl,hc,fun i hi=>?_,fun i hi=>?_⟩
 · rw[Nat.zero_add,(A0m h i).1,(A0m h i).2]
   exact⟨by simp[hs,hi],rfl⟩
 · rw[Nat.zero_add,(A0m h i).1];exact hx i hi
theorem QRow.of_owns {w:World} {base n:Nat} {e:TypeId} {v:Value} {xs:List Int} (h:w.ownsRow base e 1 v n (xs.map (Value.int .i64))):QRow w base v xs:=by
 obtain⟨h0,h⟩:=h;have hn:xs.length=n:=by simpa using h0
 subst hn;rcases h with⟨rfl,h1⟩|⟨g,cap,cur,rfl,hb,hg,hc,hm,hs,ht⟩
 · exact .inl ⟨by simp,List.eq_nil_of_length_eq_zero h1⟩
 · refine .inr ⟨g,0,cap,rfl,QAt.of_cells hb hg hc hm (by simpa using hs) fun i hi=>?_⟩
   have e1:=congrArg (fun l=>l[i]?) ht
   simp only[Nat.mul_one,List.getElem?_take,List.getElem?_map,if_pos hi] at e1
   rw[←Array.getElem?_toList,e1]
   simp[List.getD,hi]
theorem QAt.tail {w:World} {base b off cap:Nat} {x:Int} {xs:List Int} (h:QAt w base b off cap (x::xs)):QAt w base b (if cap=1 then off else off+1) (cap - 1) xs:=by
 obtain⟨h1,h2,h3,h4,h5,h6⟩:=h;simp only[List.length_cons] at h3 h6
 by_cases hc:cap=1
 · rw[if_pos hc];exact⟨h1,h2,by omega,by omega,fun i hi=>by omega,fun i hi=>by omega⟩
 · rw[if_neg hc];refine⟨h1,h2,by omega,by omega,fun i hi=>?_,fun i hi=>?_⟩
   · have:=h5 (i+1) (by omega);rwa [show off+1+i=off+(i+1) by omega]
   · have:=h6 (i+1) (by omega);rw[show off+1+i=off+(i+1) by omega,this];simp
theorem A3C {base b:Nat} (hb:base≤b):∀(vs:List Value) (off:Nat) (w:World),Below base w (w.setCells b off vs):=by
 intro vs
 induction vs with
 | nil=>intro off w;exact Below.refl _ _
 | cons v vs ih=>intro off w;exact((Below.refl base w).setCell (p:=⟨b,off,none⟩) hb v).trans (ih _ _)
theorem QAt.room {w:World} {base b off cap:Nat} {xs ys:List Int} (h:QAt w base b off cap xs) (hr:xs.length+ys.length≤cap):QAt (w.setCells b (off+xs.length * 1) (ys.map (Value.int .i64))) base b off cap (xs++ys):=by
 obtain⟨h1,h2,h3,h4,h5,h6⟩:=h
 have hin:∀j,j < (ys.map (Value.int .i64)).length→(w.cell? ⟨b,off+xs.length * 1+j,none⟩).isSome=true:=fun j hj=>by
  have hj:j < ys.length:=by simpa using hj
  have:=(h5 (xs.length+j) (by omega)).1
  rwa [show off+xs.length * 1+j=off+(xs.length+j) by omega]
 have hnew:∀j (hj:j < ys.length),(w.setCells b (off+xs.length * 1) (ys.map (Value.int .i64))).cell? ⟨b,off+xs.length * 1+j,none⟩=some (.int .i64 (ys.getD j 0)):=fun j hj=>by
  have:=World.cell?_setCells_in b (ys.map (Value.int .i64)) (off+xs.length * 1) w hin j (by simpa using hj)
  rw[this];simp[List.getD,hj]
 have hold:∀o,(o < off+xs.length∨off+xs.length+ys.length≤o)→(w.setCells b (off+xs.length * 1) (ys.map (Value.int .i64))).cell? ⟨b,o,none⟩=w.cell? ⟨b,o,none⟩:=fun o ho =>
  World.cell?_setCells_out b _ _ _ _ fun _ _=>by simpa using ho
 refine⟨h1,?_,by rw[List.length_append];exact hr,h4,fun i hi=>?_,fun i hi=>?_⟩
 · exact Nat.lt_of_lt_of_le h2 (A3C (base:=0) (Nat.zero_le b) _ _ w).size
 · rw[World.frozen?_setCells]
   refine⟨?_,(h5 i hi).2⟩
   by_cases hlo:i < xs.length
   · rw[hold _ (by omega)];exact(h5 i hi).1
   · by_cases hhi:i < xs.length+ys.length
     · have:=hnew (i - xs.length) (by omega)
       rw[show off+xs.length * 1+(i - xs.length)=off+i by omega] at this
       rw[this];rfl
     · rw[hold _ (by omega)];exact(h5 i hi).1
 · rw[List.length_append] at hi
   by_cases hlo:i < xs.length
   · rw[hold _ (by omega),h6 i hlo];simp[List.getD,List.getElem?_append,hlo]
   · have:=hnew (i - xs.length) (by omega)
     rw[show off+xs.length * 1+(i - xs.length)=off+i by omega] at this
     rw[this];simp[List.getD,List.getElem?_append,hlo]
def BRow (w:World) (g:Nat) (m:List Bool):Prop:=g < w.heap.size∧∀i,i < m.length→w.cell? ⟨g,i,none⟩=some (.bool (m.getD i false))∧w.frozen? ⟨g,i,none⟩=false
theorem BRow.mono {w w':World} {g:Nat} {m:List Bool} (h:BRow w g m) (hs:w.heap.size≤w'.heap.size) (hk:w'.heap[g]?=w.heap[g]?):BRow w' g m :=
 ⟨by have:=h.1;omega,fun i hi=>by rw[World.cell?_of_block (a:=⟨g,i,none⟩) hk,World.frozen?_of_block (a:=⟨g,i,none⟩) hk];exact h.2 i hi⟩
theorem BRow.set {w:World} {g i:Nat} {m:List Bool} (h:BRow w g m) (hi:i < m.length) (x:Bool):BRow (w.setCell ⟨g,i,none⟩ (.bool x)) g (m.set i x):=by
 refine⟨by rw[World.size_setCell];exact h.1,fun j hj=>?_⟩
 rw[List.length_set] at hj;rw[World.frozen?_setCell]
 refine⟨?_,(h.2 j hj).2⟩
 by_cases e:i=j
 · subst e;rw[World.cell?_setCell_same _ _ _ (h.2 i hi).1];simp[List.getD,hi]
 · rw[World.cell?_setCell_other _ _ _ _ (by first|(simp;done)|(simp;omega)),(h.2 j hj).1]
   simp[List.getD,List.getElem?_set,e]
theorem BRow.of_owns {w:World} {base n g:Nat} {e:TypeId} {cap:Nat} {m:List Bool} (h:w.ownsRow base e 1 (.slice (some ⟨g,0,none⟩) n cap) n (m.map Value.bool)):BRow w g m:=by
 obtain⟨h0,h⟩:=h;have hn:m.length=n:=by simpa using h0
 subst hn;rcases h with⟨e,_⟩|⟨g',cap',cur,e,hb,hg,hc,hm,hs,ht⟩
 · cases e
 · cases e
   refine⟨B0f hg,fun i hi=>?_⟩
   rw[(A0m hg i).1,(A0m hg i).2]
   refine⟨?_,rfl⟩
   have e1:=congrArg (fun l=>l[i]?) ht
   simp only[Nat.mul_one,List.getElem?_take,List.getElem?_map,if_pos hi] at e1
   rw[←Array.getElem?_toList,e1]
   simp[List.getD,hi]
open Go.RowKit
theorem C8b {vs:Array Value} {l:List Value} (h:vs.toList=l):vs=l.toArray:=by subst h;simp
abbrev B6X:Ty:=.prod (.int .i64) (.prod (.int .i64) (.prod (.int .i64) (.row 2 (.int .i64))))
theorem C1T:∃i,Tryz.prog.info? 2=some i∧i.zero=some (.int .i64 0)∧i.size=1∧i.bytes=8:=by
 have h:(Tryz.prog.info? 2).map (fun i=>(i.zero,i.size,i.bytes))=some (some (.int .i64 0),1,8):=by kernel_rfl
 cases hq:Tryz.prog.info? 2 with
 | none=>rw[hq] at h;cases h
 | some i=>rw[hq] at h;simp at h;exact⟨i,rfl,h.1,h.2.1,h.2.2⟩
theorem C7m:∃i,Tryz.prog.info? 4=some i∧i.zero=some (.bool false)∧i.size=1∧i.bytes=1:=by
 have h:(Tryz.prog.info? 4).map (fun i=>(i.zero,i.size,i.bytes))=some (some (.bool false),1,1):=by kernel_rfl
 cases hq:Tryz.prog.info? 4 with
 | none=>rw[hq] at h;cases h
 | some i=>rw[hq] at h;simp at h;exact⟨i,rfl,h.1,h.2.1,h.2.2⟩
theorem C5S (w:World) (v:Value) (xs:List Int) {S:Nat→Prop} (h:Rd S w (.row 2 (.int .i64)) [v] xs) (hl:xs.length≤1000) :
 Calls Tryz.prog 93 #[v] w fun e w'=>∃v',e=.returned v'∧QRow w' w.heap.size v' xs∧Below w.heap.size w w':=by
 have hc:=B4y (xs,()) (show xs.length≤1099511627776 by omega) ⟨fun _=>0,fun _=>undef,fun _=>0⟩ w #[v] ⟨v,[],rfl,h.mono fun b _=>.inl rfl,rfl⟩
 refine hc.mono ?_
 rintro e w' ⟨v',R',rfl,hv,ho,hk⟩
 refine⟨v',rfl,?_,⟨hk.os,hk.tape,hk.output,hk.size,fun b hb=>(hk.keep b hb (by simp)).1⟩⟩
 have hv:v'=R'.hd 10:=hv
 have ho:OR R' w' 10 (.row 2 (.int .i64) xs []):=ho (10,.row 2 (.int .i64) xs []) (show _∈[((10:Nat),Ob.row 2 (.int .i64) xs [])] from List.mem_singleton.2 rfl)
 subst hv;rcases ho with⟨h1,h2⟩|⟨cap,cur,h1,h2,h3,h4,h5,h6,h7⟩
 · exact .inl ⟨h1,h2⟩
 · have hb:w.heap.size≤R'.bk 10:=by
    rcases Nat.lt_or_ge (R'.bk 10) w.heap.size with hlt|hge
    · have:=(hk.keep _ hlt (by simp)).2
      rw[h2] at this;cases this
    · exact hge
   refine .inr ⟨R'.bk 10,0,cap,h1,QAt.of_cells hb h3 h4 h5 (by simpa [Ty.w] using h6) fun i hi=>?_⟩
   have:=h7 i hi
   simp only[Rd,Ty.w,Nat.mul_one] at this
   have e2:=congrArg (fun l=>l[0]?) this
   simp only[List.getElem?_take,List.getElem?_drop,Nat.add_zero,List.getElem?_cons_zero] at e2
   rw[←Array.getElem?_toList]
   simpa [List.getD,hi] using e2
theorem Rd.below {S:Nat→Prop} {w w':World} {t:Ty} {us:List Value} {x:t.den} (h:Rd S w t us x) (hb:Below w.heap.size w w'):Rd S w' t us x :=
 h.frame fun b hl hS=>⟨hS,hb.block b hl⟩
theorem QRow.le {w:World} {a b:Nat} {v:Value} {xs:List Int} (h:QRow w a v xs) (hb:b≤a):QRow w b v xs:=by
 rcases h with h|⟨g,off,cap,e,h1,h⟩
 · exact .inl h
 · exact .inr ⟨g,off,cap,e,Nat.le_trans hb h1,h⟩
theorem B4F {ops:Array Oper} {rest:List Oper} {o:Oper} {a:Act} {Q:Exit→Act→World→Prop} {wr:World} (hgd:o.guard=none) (s x:Operand)
 (ho:o.op=.call { callee:=.builtin .append,args:=#[s,x],argTypes:=#[26,26] }) (b off n cap c:Nat) (hs:a.eval s=.slice (some ⟨b,off,none⟩) n cap) (hn:n≤cap)
 (hx:a.eval x=.slice none 0 c) (h:wpList Tryz.prog ops Q rest (a.put o.dst (.slice (some ⟨b,off,none⟩) n cap)) wr):wpList Tryz.prog ops Q (o::rest) a wr:=by
 obtain⟨i0,hi,hz0,hz1,hz2⟩:=C1T
 have hrun:(Builtin.append_ #[26,26] o.type #[.slice (some ⟨b,off,none⟩) n cap,.slice none 0 c]).run Tryz.prog wr=.ok (.slice (some ⟨b,off,none⟩) n cap) wr:=by
  simp[Builtin.append_,run_underlying Tryz.underlying26,sizeOf,typeInfo,hi,Builtin.lenOf,Builtin.firstCells,hn,storeCells]
 refine wpList_plain hgd fun K hK=>?_
 unfold Oper.wp
 simp[execOp,ho,resolve,invoke,builtin,hs,hx,hrun,Result.andThen]
 exact hK _ _ h
theorem B5n {ops:Array Oper} {rest:List Oper} {o:Oper} {a:Act} {Q:Exit→Act→World→Prop} {wr:World} {base:Nat} (hgd:o.guard=none) (s x:Operand)
 (ho:o.op=.call { callee:=.builtin .append,args:=#[s,x],argTypes:=#[26,26] }) (b off cap:Nat) (xs ys:List Int) (V:Value) {S:Nat→Prop}
 (hs:a.eval s=.slice (some ⟨b,off,none⟩) xs.length cap) (hq:QAt wr base b off cap xs) (hb:base≤wr.heap.size) (hx:a.eval x=V) (hy:Rd S wr (.row 2 (.int .i64)) [V] ys) (hlen:xs.length+ys.length≤1000000)
 (h:∀v' w',QRow w' base v' (xs++ys)→Below base wr w'→wpList Tryz.prog ops Q rest (a.put o.dst v') w'):wpList Tryz.prog ops Q (o::rest) a wr:=by
 obtain⟨i0,hi,hz0,hz1,hz2⟩:=C1T;obtain⟨ad,cy,ey,h1,h2,h3⟩:=hy;obtain rfl:V=.slice ad ys.length cy:=by simpa using ey
 cases ad with
 | none =>
   have h0:ys=[]:=by
    by_cases h0:0 < ys.length
    · obtain⟨g,o',e,_⟩:=h3 h0;cases e
    · exact List.eq_nil_of_length_eq_zero (by omega)
   subst h0;refine B4F hgd s x ho b off xs.length cap cy hs hq.2.2.1 (by simpa using hx) (h _ _ ?_ (Below.refl _ _))
   rw[List.append_nil];exact .inr ⟨b,off,cap,rfl,hq⟩
 | some ad =>
   have hn:∀j u,(ys.map (Value.int .i64))[j]?=some u→wr.cell? (ad.add j)=some u:=by
    intro j u hj
    have hjl:j < ys.length:=by
     rcases Nat.lt_or_ge j ys.length with h|h
     · exact h
     · rw[List.getElem?_eq_none (by simpa using h)] at hj;cases hj
    obtain⟨g,o',e,_,hc⟩:=h3 (by omega)
    obtain rfl:ad=⟨g,o',none⟩:=by simpa using e
    obtain⟨vs,hvl,hv,hr⟩:=hc j hjl
    simp only[Rd] at hr
    subst hr;have:=hv 0 (by simp[Ty.w])
    have e2:(⟨g,o',none⟩:Addr).add j=⟨g,o'+j,none⟩:=by unfold Addr.add;split<;>simp_all
    rw[e2];simp only[Ty.w,Nat.mul_one,Nat.add_zero] at this
    rw[this]
    simpa [hjl] using hj
   have holds:∀j u,(xs.map (Value.int .i64))[j]?=some u→wr.cell? ⟨b,off+j,none⟩=some u:=by
    intro j u hj
    have hjl:j < xs.length:=by
     rcases Nat.lt_or_ge j xs.length with h|h
     · exact h
     · rw[List.getElem?_eq_none (by simpa using h)] at hj;cases hj
    rw[hq.2.2.2.2.2 j hjl]
    simpa [List.getD,hjl] using hj
   refine wpList_append_arg wr hgd s x 26 ho 2 i0 (.int .i64 0) 1 8 Tryz.underlying26 hi hz0 hz1 hz2 rfl (by decide) b off xs.length cap (xs.map (Value.int .i64)) hs (by simp) holds ad ys.length cy (ys.map (Value.int .i64)) hx (by simp) hn ?_ ?_ (by unfold maxLen;omega) (by omega) ?_ ?_
   · intro u hu;simp at hu;obtain⟨z,_,rfl⟩:=hu;rfl
   · intro hr j hj
     have hj:j < ys.length:=by simpa using hj
     have:=hq.2.2.2.2.1 (xs.length+j) (by omega)
     rwa [show off+xs.length * 1+j=off+(xs.length+j) by omega]
   · intro hr;refine h _ _ (.inr ⟨b,off,cap,by rw[List.length_append],hq.room hr⟩) (A3C hq.1 _ _ _)
   · intro hg v' w' hown hgr
     rw[←List.map_append] at hown;exact h _ _ ((QRow.of_owns hown).le hb) ((Below.refl _ _).grown hgr hb (fun k hk=>by cases hk))
def B85 (w:World) (g n:Nat):Nat:=((List.range n).map fun i=>match w.cell? ⟨g,i,none⟩ with|some (.bool false)=>1|_=>0).sum
theorem B9i (m:List Bool):((List.range m.length).map fun i=>match m.getD i false with|false=>1|true=>0).sum=m.count false:=by
 induction m with
 | nil=>rfl
 | cons x l ih =>
   rw[List.length_cons,List.range_succ_eq_map,List.map_cons,List.sum_cons,List.map_map]
   have e:((fun i=>match (x::l).getD i false with|false=>1|true=>0)∘Nat.succ)=fun i=>match l.getD i false with|false=>1|true=>0:=by
    funext i;simp
   rw[e,ih];cases x<;>simp[List.count_cons,Nat.add_comm]
theorem A8a {w:World} {g:Nat} {m:List Bool} (h:BRow w g m):B85 w g m.length=m.count false:=by
 rw[←B9i];unfold B85
 congr 1
 refine List.map_congr_left fun i hi=>?_
 have:=h.2 i (List.mem_range.1 hi)
 rw[this.1];cases m.getD i false<;>rfl
def lenV:Value→Nat
 | .slice _ n _=>n
 | _=>0
theorem B7a (n:Nat):(madeCells (Value.bool false).cells (n * 1)).toList=(List.replicate n false).map Value.bool:=by
 rw[Nat.mul_one,show (Value.bool false).cells=#[Value.bool false] from rfl,toList_madeCells_one,List.map_replicate]
structure NInv (p:A3) (B:Nat) (w wr:World) (v:Value) (m:List Bool) (t:List Int):Prop where
 row:BRow wr B m
 q:QRow wr (B+1) v t
 len:m.length=p.2.2.1.length
 rng:N9 p.2.2.1.length t=true
 fuel:∃f,bmu m t≤f∧bfs p.2.2.1 f m t=H7 p
 bel:Below B w wr
 small:bmu m t≤1000
theorem QRow.lenV {w:World} {b:Nat} {v:Value} {xs:List Int} (h:QRow w b v xs):lenV v=xs.length:=by
 rcases h with⟨rfl,rfl⟩|⟨_,_,_,rfl,_⟩<;>rfl
theorem C1p {S:Nat→Prop} {w:World} {x:A6} {vs:List Value} (h:Rd S w B6X vs x):∃a b c uF,vs=[a,b,c,uF]∧Rd S w (.row 2 (.int .i64)) [uF] x.2.2.2:=by
 obtain⟨u1,u2,rfl,h1,v1,v2,rfl,h2,w1,w2,rfl,h3,h4⟩:=h;simp only[Rd] at h1 h2 h3
 subst h1 h2 h3
 obtain⟨a,cap,rfl,h5⟩:=h4;exact⟨_,_,_,_,rfl,a,cap,rfl,h5⟩
theorem C4w {ns:List A6} {m:List Bool} {t:List Int} {k:Nat} {M:List Bool} (hk:k < m.length) (h:m.getD k false=true) (hf:∃f,bmu m ((k:Int)::t)≤f∧bfs ns f m ((k:Int)::t)=M):∃f,bmu m t≤f∧bfs ns f m t=M:=by
 obtain⟨f,h1,h2⟩:=hf;cases f with
 | zero=>unfold bmu at h1;simp at h1
 | succ f =>
   refine⟨f,by unfold bmu at *;simp only[List.length_cons] at h1;omega,?_⟩
   rw[←h2]
   conv=>rhs;unfold bfs
   simp only[Int.toNat_natCast];rw[B59 hk true false,h]
theorem B8C {ns:List A6} {m:List Bool} {t:List Int} {k:Nat} {M:List Bool} (hk:k < m.length) (h:m.getD k false=false) (hn:(ns.getD k n0).2.2.2.length≤3) (hf:∃f,bmu m ((k:Int)::t)≤f∧bfs ns f m ((k:Int)::t)=M) :
 ∃f,bmu (m.set k true) (t++(ns.getD k n0).2.2.2)≤f∧bfs ns f (m.set k true) (t++(ns.getD k n0).2.2.2)=M:=by
 obtain⟨f,h1,h2⟩:=hf;have hc:=o6 hk (by rw[B59 hk true false];exact h)
 cases f with
 | zero=>unfold bmu at h1;simp at h1
 | succ f =>
   refine⟨f,by unfold bmu at *;simp only[List.length_cons,List.length_append] at *;omega,?_⟩
   rw[←h2]
   conv=>rhs;unfold bfs
   simp only[Int.toNat_natCast];rw[B59 hk true false,h]
set_option maxRecDepth 100000 in
set_option maxHeartbeats 2000000 in
theorem C1X (w:World) (pi:Int) (ts:List (List Int)) (ns:List A6) (os:List Int) (uT uN uO:Value) (hF:C0 (pi,ts,ns,os)=true) {S:Nat→Prop}
 (hN:Rd S w (.row 95 B6X) [uN] ns) (hO:Rd S w (.row 2 (.int .i64)) [uO] os) :
 Calls Tryz.prog 126 #[.agg #[.int .i64 pi,uT,uN,uO]] w fun e w'=>∃g,e=.returned (.slice (some ⟨g,0,none⟩) ns.length ns.length)∧w.heap.size≤g∧BRow w' g (H7 (pi,ts,ns,os))∧Below w.heap.size w w':=by
 obtain⟨iB,hB,hB0,hB1,hB2⟩:=C7m;have hns:ns.length≤24:=(A8 hF).1
 have HF:=Lib.hid hF
 have HN:=Lib.hid hN
 have HO:=Lib.hid hO
 clear hF hO;obtain⟨aN,cN,eN,hN1,hN2,hN3⟩:=hN;obtain rfl:uN=.slice aN ns.length cN:=by simpa using eN
 have HN3:=Lib.hid hN3
 clear hN3 eN
 go_enter Tryz.func126,Tryz.ntmps126
 go_wp2_with (at_make;refine wpList_make_full _ rfl (.tmp 8) (.tmp 8) 141 rfl (w.heap.size+1) 4 iB (.bool false) 1 Tryz.underlying141 hB hB0 hB1 .i64 .i64 _ _ ns.length rfl rfl rfl rfl (by rw[hB2];omega) (by unfold maxLen;omega) (by simp) ?_;intro w1 hown hgrow;rw[B7a] at hown;have B1:=(Below.refl (w.heap.size+1) _).grown hgrow (by simp) (fun k hk=>by cases hk);have b2:=(B1.cell (p:=⟨w.heap.size,2,none⟩) (by simp)).trans (show _=some (Value.slice aN ns.length cN) by simp[go_sem]);have b3:=(B1.cell (p:=⟨w.heap.size,3,none⟩) (by simp)).trans (show _=some uO by simp[go_sem]);have HR:=Lib.hid (BRow.of_owns hown);have HB1:=Lib.hid B1;have HS:=Lib.hid (World.ownsRow.lt hown _ rfl);clear hown hgrow B1)
 have hBel1:Below w.heap.size w w1:=((Below.refl w.heap.size w).alloc (Nat.le_refl _) _).trans (HB1.out.mono (by omega))
 have hs1:w.heap.size+2≤w1.heap.size:=by have:=HS.out;simp only[World.size_alloc] at this;omega
 have ho4:os.length≤1000:=Nat.le_trans (A8 HF.out).2.1 (by decide)
 have HBe:=Lib.hid hBel1
 have hr1:BRow w1 (w.heap.size+1) (List.replicate ns.length false):=by have:=HR.out;simpa only [World.size_alloc] using this
 have HR1:=Lib.hid hr1;clear hr1
 clear HR HB1 HS hBel1;refine(C5S w1 uO os (HO.out.below HBe.out) ho4).mono ?_
 rintro e w2 ⟨v2,rfl,hq,hb2⟩
 have HI:Hid (NInv (pi,ts,ns,os) (w.heap.size+1) w1 w2 v2 (List.replicate ns.length false) os) :=
  ⟨HR1.out.mono hb2.size (hb2.block _ (by omega)),hq.le (by omega),by simp,(A8 HF.out).2.2.2.2.2.1,⟨_,by unfold bmu;simp,rfl⟩,hb2.mono (by omega),by have h4:os.length≤4:=(A8 HF.out).2.1;unfold bmu;simp;omega⟩
 clear hq hb2 HR1 ho4 hB hB0 hB1 hB2
 go_wp2
 go_loopw [4] (fun i wr=>∃m t,Hid (NInv (pi,ts,ns,os) (w.heap.size+1) w1 wr i m t)) (fun i wr=>4 * B85 wr (w.heap.size+1) ns.length+lenV i)
 case atStart=>exact⟨_,_,HI⟩
 case round =>
  obtain⟨m,t,HI⟩:=hrel;have b2':wr.cell? ⟨w.heap.size,2,none⟩=some (.slice aN ns.length cN):=(HI.out.bel.cell (by simp)).trans b2
  have hwr:=HI.out.bel.size
  clear b2 b3;cases t with
  | nil =>
    have hm:H7 (pi,ts,ns,os)=m:=by obtain⟨f,_,e⟩:=HI.out.fuel;rw[←e,C4e]
    have HM:=Lib.hid hm;clear hm
    obtain⟨ad,cap,rfl⟩:∃ad cap,u4=.slice ad 0 cap:=by
     rcases HI.out.q with⟨h,_⟩|⟨b,off,cap,h,_⟩
     · exact⟨_,_,h⟩
     · exact⟨_,_,h⟩
    go_wp2
    go_ret
    exact⟨w.heap.size+1,rfl,by omega,by rw[HM.out];exact HI.out.row,HBe.out.trans (HI.out.bel.mono (by omega))⟩
  | cons x t =>
    obtain⟨b,off,cap,rfl,hq⟩:∃b off cap,u4=.slice (some ⟨b,off,none⟩) (t.length+1) cap∧QAt wr (w.heap.size+2) b off cap (x::t):=by
     rcases HI.out.q with⟨_,h⟩|⟨b,off,cap,e,h⟩
     · cases h
     · exact⟨b,off,cap,e,h⟩
    obtain⟨⟨hx0,hx1⟩,hrt⟩:=B1T HI.out.rng
    obtain⟨k,rfl⟩:=Int.eq_ofNat_of_zero_le hx0
    have hx1:(k:Int) < (ns.length:Int):=hx1
    have hkn:k < ns.length:=by omega
    have hkm:k < m.length:=by rw[HI.out.len];exact hkn
    have c0:wr.cell? ⟨b,off,none⟩=some (.int .i64 k):=hq.2.2.2.2.2 0 (by simp)
    have c1:wr.cell? ⟨w.heap.size+1,k,none⟩=some (.bool (m.getD k false)):=(HI.out.row.2 k hkm).1
    have f1:wr.frozen? ⟨w.heap.size+1,k,none⟩=false:=(HI.out.row.2 k hkm).2
    have HQ:=Lib.hid hq
    have HRT:=Lib.hid hrt
    have hlc:t.length+1≤cap:=hq.2.2.1
    obtain⟨off',ho'⟩:∃o',o'=if cap=1 then off else off+1:=⟨_,rfl⟩
    have HQ':Hid (QAt wr (w.heap.size+2) b off' (cap - 1) t):=by rw[ho'];exact hq.tail
    clear hq hrt;cases hmk:m.getD k false
    · rw[hmk] at c1;have HMK:=Lib.hid hmk;clear hmk
      obtain⟨bN,oN,rfl,_,hc⟩:=HN3.out (by omega)
      obtain⟨vs,_,hv,hr⟩:=hc k hkn
      obtain⟨a1,a2,a3,uF,rfl,hrF⟩:=C1p hr
      have e1:ns[k]=ns.getD k n0:=by simp[List.getD,hkn]
      rw[e1] at hrF;have d0:w.cell? ⟨bN,oN+k * 4+3,none⟩=some uF:=by have:=hv 3 (by simp[Ty.w]);simpa [Ty.w] using this
      have hbN:bN < w.heap.size:=World.block_lt_of_cell? _ _ d0
      have bw:Below w.heap.size w wr:=HBe.out.trans (HI.out.bel.mono (by omega))
      have d1:(wr.setCell ⟨w.heap.size+1,k,none⟩ (.bool true)).cell? ⟨bN,oN+k * 4+3,none⟩=some uF:=by
       rw[World.cell?_setCell_other _ _ _ _ (by intro e;have h:=congrArg Addr.block e;dsimp only at h;omega)];exact(bw.cell hbN).trans d0
      have d2:(wr.setCell ⟨w.heap.size+1,k,none⟩ (.bool true)).cell? ⟨w.heap.size,2,none⟩=some (.slice (some ⟨bN,oN,none⟩) ns.length cN):=by
       rw[World.cell?_setCell_other _ _ _ _ (by intro e;have h:=congrArg Addr.block e;dsimp only at h;omega)];exact b2'
      have HRF:Hid (Rd S (wr.setCell ⟨w.heap.size+1,k,none⟩ (.bool true)) (.row 2 (.int .i64)) [uF] (ns.getD k n0).2.2.2):=hrF.below (bw.setCell (p:=⟨w.heap.size+1,k,none⟩) (by simp) _)
      have HQs:Hid (QAt (wr.setCell ⟨w.heap.size+1,k,none⟩ (.bool true)) (w.heap.size+2) b off' (cap - 1) t):=HQ'.out.mono (by simp) fun q h1 _=>Below.heap_setCell _ _ _ _ (by simp;omega)
      have HB:Hid (BRow (wr.setCell ⟨w.heap.size+1,k,none⟩ (.bool true)) (w.heap.size+1) (m.set k true)):=HI.out.row.set hkm true
      have hf3:=(d8 HF.out k hkn).1
      have htl:t.length≤100000:=by
       have:=HI.out.small;unfold bmu at this;simp only[List.length_cons] at this;omega
      clear hc hv hr hrF e1 d0 bw;obtain⟨F,hFe⟩:∃F,F=(ns.getD k n0).2.2.2:=⟨_,rfl⟩
      have hf3:(ns.getD k n0).2.2.2.length≤3:=hf3
      clear hFe F
      by_cases hc1:cap=1
      · rw[if_pos hc1] at ho'
        obtain rfl:t=[]:=List.eq_nil_of_length_eq_zero (by omega)
        subst hc1 ho'
        go_wp2_with (first|(at_builtin;(refine B5n rfl (.tmp 29) (.tmp 35) rfl b _ 0 [] _ _ rfl HQs.out (by simp;omega) rfl HRF.out (by first|omega|(simp only[List.length_nil];omega)) ?_;intro v' w' hq' hb'))|go_in)
        have HV:=Lib.hid hq'.lenV
        have HI':Hid (NInv (pi,ts,ns,os) (w.heap.size+1) w1 w' v' (m.set k true) ([]++(ns.getD k n0).2.2.2)) :=
         ⟨HB.out.mono hb'.size (hb'.block _ (by omega)),hq',by rw[List.length_set];exact HI.out.len,A9t HRT.out (d8 HF.out k hkn).2,B8C hkm HMK.out hf3 HI.out.fuel,(HI.out.bel.setCell (by simp) _).trans (hb'.mono (by omega)),by have h5:=HI.out.small;have h6:=o6 hkm (by rw[B59 hkm true false];exact HMK.out);unfold bmu at *;simp only[List.length_cons,List.length_append,List.length_nil] at *;omega⟩
        clear hq' hb'
        go_wp2
        go_roundw
        case rel=>exact⟨_,_,HI'⟩
        case measure =>
         have e1:=A8a HI'.out.row
         have e2:=A8a HI.out.row
         rw[HI'.out.len] at e1
         rw[HI.out.len] at e2;have e1:B85 w' (w.heap.size+1) ns.length=(m.set k true).count false:=e1
         have e2:B85 wr (w.heap.size+1) ns.length=m.count false:=e2
         have e3:=o6 hkm (by rw[B59 hkm true false];exact HMK.out)
         have e4:=HV.out
         rw[List.length_append] at e4;rw[e1,e2,e4];simp only[lenV,List.length_nil];omega
      · rw[if_neg hc1] at ho'
        subst ho'
        go_wp2_with (first|(at_builtin;(refine B5n rfl (.tmp 29) (.tmp 35) rfl b _ (cap - 1) t _ _ rfl HQs.out (by simp;omega) rfl HRF.out (by first|omega|(simp only[List.length_nil];omega)) ?_;intro v' w' hq' hb'))|go_in)
        have HV:=Lib.hid hq'.lenV
        have HI':Hid (NInv (pi,ts,ns,os) (w.heap.size+1) w1 w' v' (m.set k true) (t++(ns.getD k n0).2.2.2)) :=
         ⟨HB.out.mono hb'.size (hb'.block _ (by omega)),hq',by rw[List.length_set];exact HI.out.len,A9t HRT.out (d8 HF.out k hkn).2,B8C hkm HMK.out hf3 HI.out.fuel,(HI.out.bel.setCell (by simp) _).trans (hb'.mono (by omega)),by have h5:=HI.out.small;have h6:=o6 hkm (by rw[B59 hkm true false];exact HMK.out);unfold bmu at *;simp only[List.length_cons,List.length_append,List.length_nil] at *;omega⟩
        clear hq' hb'
        go_wp2
        go_roundw
        case rel=>exact⟨_,_,HI'⟩
        case measure =>
         have e1:=A8a HI'.out.row
         have e2:=A8a HI.out.row
         rw[HI'.out.len] at e1
         rw[HI.out.len] at e2;have e1:B85 w' (w.heap.size+1) ns.length=(m.set k true).count false:=e1
         have e2:B85 wr (w.heap.size+1) ns.length=m.count false:=e2
         have e3:=o6 hkm (by rw[B59 hkm true false];exact HMK.out)
         have e4:=HV.out
         rw[List.length_append] at e4;rw[e1,e2,e4];simp only[lenV,List.length_nil];omega
    · rw[hmk] at c1;have HMK:=Lib.hid hmk;clear hmk
      have HI':Hid (NInv (pi,ts,ns,os) (w.heap.size+1) w1 wr (.slice (some ⟨b,off',none⟩) t.length (cap - 1)) m t) :=
       ⟨HI.out.row,.inr ⟨b,off',cap - 1,rfl,HQ'.out⟩,HI.out.len,HRT.out,C4w hkm HMK.out HI.out.fuel,HI.out.bel,by have:=HI.out.small;unfold bmu at *;simp only[List.length_cons] at this;omega⟩
      clear HI
      by_cases hc1:cap=1
      · rw[if_pos hc1] at ho'
        obtain rfl:t=[]:=List.eq_nil_of_length_eq_zero (by omega)
        subst hc1 ho'
        go_wp2
        go_roundw
        case rel=>exact⟨m,[],HI'⟩
        case measure=>simp[lenV]
      · rw[if_neg hc1] at ho'
        subst ho'
        go_wp2
        go_roundw
        case rel=>exact⟨m,t,HI'⟩
        case measure=>simp[lenV]
abbrev C63:Ty:=.prod (.int .i64) (.prod (.row 26 (.row 2 (.int .i64))) (.prod (.row 95 B6X) (.row 2 (.int .i64))))
def A9S:Con:=⟨[.val C63],[⟨.row 4 .bool,false⟩],fun x=>C0 x.1=true,fun x=>H7 x.1⟩
theorem C0f:C9 Tryz.prog 126 A9S:=by
 intro x hc R w vs hv
 obtain⟨⟨pi,ts,ns,os⟩,u⟩:=x
 have hF:C0 (pi,ts,ns,os)=true:=hc
 obtain⟨v1,l1,e1,⟨us,rfl,a,la,ea,ha,b,lb,eb,hb,c,lc,ec,hc',d,ld,ed,hd,e5⟩,h2⟩:=hv
 have ha:a=.int .i64 pi:=ha
 have h2:l1=[]:=h2
 have e5:ld=[]:=e5
 subst ha h2 e5 ed ec eb
 have eu:=C8b ea
 subst eu;have ev:=C8b e1
 subst ev;refine(C1X w pi ts ns os b c d hF hc' hd).mono ?_
 rintro e w' ⟨g,rfl,hg,hr,hb'⟩
 have hl:=B1L hF
 refine⟨_,{ R with root:=fun q=>if q < w.heap.size then R.root q else 0 },rfl,?_,(fun p hp=>by cases hp),⟨hb'.os,hb'.tape,hb'.output,hb'.size,fun q hq _=>⟨hb'.block q hq,if_pos hq⟩⟩⟩
 refine⟨some ⟨g,0,none⟩,ns.length,by rw[show ns.length=(H7 (pi,ts,ns,os)).length from hl.symm];rfl,Nat.le_of_eq hl,by have:=(A8 hF).1;unfold maxLen;show ns.length≤_;have:ns.length≤24:=this;omega,fun h0=>⟨g,0,rfl,.inl (if_neg (by omega)),fun i hi=>⟨[.bool ((H7 (pi,ts,ns,os))[i])],rfl,fun j hj=>?_,rfl⟩⟩⟩
 have hj:j < 1:=hj
 obtain rfl:j=0:=by omega
 have h3:=(hr.2 i hi).1
 simp only[Ty.w,Nat.mul_one,Nat.add_zero,Nat.zero_add,List.getElem?_cons_zero];have hi':i < (H7 (pi,ts,ns,os)).length:=hi
 rw[h3];simp[List.getD,hi']
 rfl
def B0U:E4:=fun f=>if f=126 then some (.p A9S) else e9 f
theorem B4g:B4 Tryz.prog B0U:=E3 C0f (B0 Tryz.func126 rfl (by decide)) D3
attribute [go_sem] B0U A9S
end Go.Proofs.YtgaogcnfijbahaaGreat
