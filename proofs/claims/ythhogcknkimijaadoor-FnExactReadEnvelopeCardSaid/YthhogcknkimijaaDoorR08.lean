/-
  Texts of this claim, joined (part 8). No condition beyond those of the theorems.
-/
import Derived.Test.YthhogcknkimijaaDoorR03
import Derived.Test.YthhogcknkimijaaDoorR02
set_option linter.unusedSimpArgs false
set_option linter.unusedVariables false
namespace Go.Proofs.YthhogcknkimijaaDoor
abbrev NodeD:=Int × Int × Int × List Int
abbrev PatchD:=Int × List (List Int) × List NodeD × List Int
def kindT:List (Int × Int × Int × Bool × Bool) :=
 [(0,0,3,true,false),(0,-2147483648,2147483647,false,false),(2,1,0,true,false),(2,1,0,true,false),(1,-2147483648,2147483647,true,false),(1,1,16,true,false),
  (1,1,0,true,false),(1,1,0,true,false),(2,1,0,false,false),(1,0,31,false,false),(1,0,2147483647,false,false),(1,-2147483648,2147483647,false,false),
  (1,0,3,false,false),(0,-2147483648,2147483647,false,false),(3,1,0,false,false),(2,1,0,false,false),(1,-2147483648,2147483647,true,true)]
def kT (k:Int):Int × Int × Int × Bool × Bool:=kindT.getD (k - 1).toNat (0,0,0,false,false)
def nodeB (n:NodeD) (tables:Int):Bool :=
 inR n.1 1 17 && (match decide ((kT n.1).2.1≤(kT n.1).2.2.1) with|true=>inR n.2.1 (kT n.1).2.1 (kT n.1).2.2.1|false=>decide (n.2.1=0)) &&
  (match (kT n.1).2.2.2.2 with|true=>inR n.2.2.1 1 16|false=>decide (n.2.2.1=0)) && n.2.2.2.all (fun f=>inR f 0 23) && decide ((n.2.2.2.length:Int)=(kT n.1).1) && (!decide (n.1=13) || decide (n.2.1 < tables))
def tabB (t:List Int):Bool:=(decide (t.length=2) || decide (t.length=4) || decide (t.length=8) || decide (t.length=16)) && smps t
def tabsB (ts:List (List Int)):Bool:=ts.all tabB && decide (ts.length≤4)
def waitsL (n:NodeD):List Int:=match decide (n.1=6) with|true=>[]|false=>n.2.2.2
def n0:NodeD:=(0,0,0,[])
def readyB (ns:List NodeD) (out:List Int) (i:Nat):Bool:=!out.contains (i:Int) && (waitsL (ns.getD i n0)).all (fun f=>out.contains f)
def nextR (ns:List NodeD) (out:List Int):Option Nat:=(List.range ns.length).find? (readyB ns out)
def ordGo (ns:List NodeD):Nat→List Int→List Int
 | 0,out=>out
 | k + 1, out => match nextR ns out with
   | none=>out
   | some i=>ordGo ns k (out++[(i:Int)])
def ordL (ns:List NodeD):List Int:=ordGo ns ns.length []
theorem nextR_some {ns:List NodeD} {out:List Int} {i:Nat} (hi:i < ns.length) (h:∀j,j < i→readyB ns out j=false) (k:readyB ns out i=true):nextR ns out=some i:=by
 simp only[nextR]
 have e:List.range ns.length=List.range i++i::(List.range' (i+1) (ns.length - i - 1)):=by
  have:=@List.range'_append_1 0 i (ns.length - i)
  rw[Nat.zero_add,(by omega:i+(ns.length - i)=ns.length)] at this
  rw[List.range_eq_range',List.range_eq_range',←this]
  congr 1
  rw[(by omega:ns.length - i=(ns.length - i - 1)+1),List.range'_succ]
  congr 2
 rw[e,List.find?_append,List.find?_eq_none.2 (fun j hj=>by simpa using h j (List.mem_range.1 hj)),Option.none_or,List.find?_cons_of_pos k]
theorem ordGo_some {ns:List NodeD} {out:List Int} {k i:Nat} (h:nextR ns out=some i):ordGo ns (k+1) out=ordGo ns k (out++[(i:Int)]):=by simp only[ordGo,h]
theorem count_set {tk:List Bool} {i:Nat} (hi:i < tk.length) (h:tk.getD i false=false):(tk.set i true).count false+1=tk.count false:=by
 induction tk generalizing i with
 | nil=>simp at hi
 | cons b tk ih =>
   cases i with
   | zero=>simp at h;subst h;simp
   | succ i =>
     have:=ih (i:=i) (by simpa using hi) (by simpa using h)
     rw[List.set_cons_succ,List.count_cons,List.count_cons]
     omega
def OrdI (ns:List NodeD) (tk:List Bool) (out:List Int):Prop :=
 tk.length=ns.length∧(∀j,j < ns.length→tk.getD j false=out.contains (j:Int))∧ordGo ns (tk.count false) out=ordL ns∧out.length+tk.count false=ns.length
theorem OrdI.next {ns:List NodeD} {tk:List Bool} {out:List Int} {i:Nat} (h:OrdI ns tk out) (hi:i < ns.length) (hno:∀j,j < i→readyB ns out j=false) (hr:readyB ns out i=true) :
 OrdI ns (tk.set i true) (out++[(i:Int)])∧(tk.set i true).count false+1=tk.count false:=by
 obtain⟨h1,h2,h3,h4⟩:=h
 have hf:tk.getD i false=false:=by
  rw[h2 i hi]
  unfold readyB at hr
  simp only[Bool.and_eq_true,Bool.not_eq_true'] at hr
  exact hr.1
 have hc:=count_set (by omega) hf
 have hn:=nextR_some hi hno hr
 refine⟨⟨by simpa using h1,fun j hj=>?_,?_,by simp;omega⟩,hc⟩
 · by_cases hji:j=i
   · subst hji
     simp[List.getD,h1,hj]
   · have e:(tk.set i true).getD j false=tk.getD j false:=by simp[List.getD,List.getElem?_set_ne (Ne.symm hji)]
     rw[e,h2 j hj]
     have hne:(j:Int)≠(i:Int):=by omega
     simp[List.contains_eq_mem,hne]
 · rw[←h3,←hc,ordGo_some hn]
instance:DecidableEq NodeD:=inferInstanceAs (DecidableEq (Int × Int × Int × List Int))
instance:DecidableEq PatchD:=instDecidableEqProd
abbrev mkOk (k:Int) (n:Nat):Prop:=0≤k∧k+n≤4611686018427387904
section
variable {α:Type} {mk:Int→α→α} {ct:α→Nat} {xs:List α} {k:Int} {m:Nat}
def cntA (ct:α→Nat):List α→Nat
 | []=>0
 | x::l=>ct x+cntA ct l
def markA (mk:Int→α→α) (ct:α→Nat):Int→List α→List α
 | _,[]=>[]
 | k,x::l=>mk k x::markA mk ct (k+ct x) l
theorem markA_len:∀{k:Int} {xs:List α},(markA mk ct k xs).length=xs.length:=by
 intro k xs
 induction xs generalizing k with
 | nil=>rfl
 | cons x l ih=>simp[markA,ih]
theorem cntA_append {ys:List α}:cntA ct (xs++ys)=cntA ct xs+cntA ct ys:=by
 induction xs with
 | nil=>simp[cntA]
 | cons x l ih=>simp[cntA,ih];omega
theorem cntA_next (d:α) (h:m < xs.length):cntA ct (xs.take (m+1))=cntA ct (xs.take m)+ct (xs.getD m d):=by
 rw[take_next (d:=d) h,cntA_append];simp[cntA]
theorem cntA_take (m:Nat):cntA ct (xs.take m)≤cntA ct xs:=by
 have:=@cntA_append α ct (xs.take m) (xs.drop m)
 rw[List.take_append_drop] at this;omega
theorem markA_append {ys:List α}:markA mk ct k (xs++ys)=markA mk ct k xs++markA mk ct (k+cntA ct xs) ys:=by
 induction xs generalizing k with
 | nil=>simp[markA,cntA]
 | cons x l ih=>simp only[List.cons_append,markA,ih,cntA];rw[show k+((ct x+cntA ct l:Nat):Int)=k+ct x+cntA ct l by omega]
theorem markA_next (d:α) (h:m < xs.length):markA mk ct k (xs.take (m+1))=markA mk ct k (xs.take m)++[mk (k+cntA ct (xs.take m)) (xs.getD m d)]:=by
 rw[take_next (d:=d) h,markA_append];simp[markA]
def markT (mk:Int→α→α) (ct:α→Nat) (k:Int) (xs:List α) (m:Nat):List α:=markA mk ct k (xs.take m)++xs.drop m
theorem markT_len (h:m≤xs.length):(markT mk ct k xs m).length=xs.length:=by
 simp only[markT,List.length_append,markA_len,List.length_take,List.length_drop];omega
theorem markT_at (d:α) (h:m < xs.length):(markT mk ct k xs m).getD m d=xs.getD m d:=by
 unfold markT
 rw[List.getD_eq_getElem?_getD,List.getD_eq_getElem?_getD,List.getElem?_append_right (by rw[markA_len,List.length_take];omega),List.getElem?_drop,markA_len,List.length_take]
 congr 2;omega
theorem markT_set (d:α) (h:m < xs.length):(markT mk ct k xs m).set m (mk (k+cntA ct (xs.take m)) (xs.getD m d))=markT mk ct k xs (m+1):=by
 unfold markT
 rw[markA_next d h,List.set_append_right _ _ (by rw[markA_len,List.length_take];omega),markA_len,List.length_take,(by omega:m - min m xs.length=0)]
 rw[List.drop_eq_getElem_cons h,List.set_cons_zero,List.append_assoc]
 rfl
theorem markT_zero:markT mk ct k xs 0=xs:=by simp[markT,markA]
theorem markT_all (h:xs.length≤m):markT mk ct k xs m=markA mk ct k xs:=by
 unfold markT;rw[List.take_of_length_le h,List.drop_of_length_le h,List.append_nil]
def heldA [DecidableEq α] (mk:Int→α→α) (ct:α→Nat) (k:Int) (xs:List α):Int:=match decide (xs=markA mk ct k xs) with|true=>k+cntA ct xs|false=>-1
theorem held_next (d:α) (h:m < xs.length) (hp:xs.take m=markA mk ct k (xs.take m)) (hq:xs.getD m d=mk (k+cntA ct (xs.take m)) (xs.getD m d)):xs.take (m+1)=markA mk ct k (xs.take (m+1)):=by
 rw[markA_next d h,←hp,←hq];exact take_next h
theorem held_stop [DecidableEq α] (d:α) (h:m < xs.length) (hq:¬xs.getD m d=mk (k+cntA ct (xs.take m)) (xs.getD m d)):heldA mk ct k xs=-1:=by
 unfold heldA
 rw[decide_eq_false]
 intro e
 apply hq
 have e2:xs=markA mk ct k (xs.take (m+1))++markA mk ct (k+cntA ct (xs.take (m+1))) (xs.drop (m+1)):=by rw[←markA_append,List.take_append_drop];exact e
 have e3:xs[m]?=(markA mk ct k (xs.take (m+1))++markA mk ct (k+cntA ct (xs.take (m+1))) (xs.drop (m+1)))[m]?:=by rw[←e2]
 rw[List.getElem?_append_left (by rw[markA_len,List.length_take];omega),markA_next d h,List.getElem?_append_right (by rw[markA_len,List.length_take];omega),markA_len,List.length_take,(by omega:m - min m xs.length=0)] at e3
 have e4:xs[m]?.getD d=mk (k+cntA ct (xs.take m)) (xs.getD m d):=by rw[e3];rfl
 rw[←List.getD_eq_getElem?_getD] at e4;exact e4
theorem held_done [DecidableEq α] (h:xs.length≤m) (hp:xs.take m=markA mk ct k (xs.take m)):heldA mk ct k xs=k+cntA ct xs:=by
 rw[List.take_of_length_le h] at hp
 unfold heldA;rw[decide_eq_true hp]
theorem heldA_iff [DecidableEq α]:heldA mk ct k xs=k+cntA ct xs∨(heldA mk ct k xs=-1∧xs≠markA mk ct k xs):=by
 unfold heldA
 by_cases h:xs=markA mk ct k xs
 · rw[decide_eq_true h];exact .inl rfl
 · rw[decide_eq_false h];exact .inr ⟨rfl,h⟩
theorem markA_cnt (h:∀k x,ct (mk k x)=ct x):cntA ct (markA mk ct k xs)=cntA ct xs:=by
 induction xs generalizing k with
 | nil=>rfl
 | cons x l ih=>simp only[markA,cntA,h,ih]
theorem markA_idem (h:∀k x,ct (mk k x)=ct x) (h2:∀k x,mk k (mk k x)=mk k x):markA mk ct k (markA mk ct k xs)=markA mk ct k xs:=by
 induction xs generalizing k with
 | nil=>rfl
 | cons x l ih=>simp only[markA,h,h2,ih]
theorem heldA_mark [DecidableEq α] (h:∀k x,ct (mk k x)=ct x) (h2:∀k x,mk k (mk k x)=mk k x):heldA mk ct k (markA mk ct k xs)=k+cntA ct xs:=by
 unfold heldA;rw[decide_eq_true (markA_idem h h2).symm,markA_cnt h]
theorem getD_setk {d x:α} (h:m < xs.length):(xs.set m x).getD m d=x:=by
 rw[List.getD_eq_getElem?_getD,List.getElem?_set_self h];rfl
def eqD (x y:α) [DecidableEq α]:Bool:=decide (x=y)
theorem eqD_t [DecidableEq α] {x y:α} (h:eqD x y=true):x=y:=of_decide_eq_true h
theorem eqD_f [DecidableEq α] {x y:α} (h:eqD x y=false):¬x=y:=of_decide_eq_false h
theorem eqD_rfl [DecidableEq α] (x:α):eqD x x=true:=decide_eq_true rfl
theorem eq_next [DecidableEq α] {ys:List α} (d:α) (hx:m < xs.length) (hl:xs.length=ys.length) (hp:xs.take m=ys.take m) (hq:eqD (xs.getD m d) (ys.getD m d)=true):xs.take (m+1)=ys.take (m+1):=by
 rw[take_next (d:=d) hx,take_next (d:=d) (by omega),hp,eqD_t hq]
theorem eq_done [DecidableEq α] {ys:List α} (hx:xs.length≤m) (hl:xs.length=ys.length) (hp:xs.take m=ys.take m):eqD xs ys=true:=by
 rw[List.take_of_length_le hx,List.take_of_length_le (by omega)] at hp;exact decide_eq_true hp
theorem eq_stop [DecidableEq α] {ys:List α} (d:α) (hq:eqD (xs.getD m d) (ys.getD m d)=false):eqD xs ys=false:=by
 refine decide_eq_false ?_;rintro rfl;exact eqD_f hq rfl
theorem eq_len [DecidableEq α] {ys:List α} (hq:¬xs.length=ys.length):eqD xs ys=false:=by
 refine decide_eq_false ?_;rintro rfl;exact hq rfl
end
theorem heldA_neg {α:Type} [DecidableEq α] {mk:Int→α→α} {ct:α→Nat} {xs:List α} {k:Int} (hk:0≤k) (c:heldA mk ct k xs < 0):heldA mk ct k xs=-1∧¬xs=markA mk ct k xs:=by
 rcases @heldA_iff α mk ct xs k _ with h|⟨h,h2⟩
 · omega
 · exact⟨h,h2⟩
def ctN (n:NodeD):Nat:=3+n.2.2.2.length
def ctP (p:PatchD):Nat:=cntA List.length p.2.1+cntA ctN p.2.2.1+p.2.2.2.length
open Go.RowKit
def startV (n:NodeD):List Int :=
 if n.1=6 then List.replicate n.2.1.toNat 0 else if n.1=17 then List.replicate n.2.2.1.toNat 0 else if n.1=7 then [0] else if n.1=8 then [0] else if n.1=16 then [0]
 else if n.1=12 then [n.2.1] else if n.1=14 then [n.2.1] else []
def insN (n:NodeD):Nat:=match decide (n.1=1) with|true=>1|false=>n.2.2.2.length
def stepOk (n:NodeD) (tabs:List (List Int)) (i s:List Int):Prop:=nodeB n tabs.length=true∧tabsB tabs=true∧i.length=insN n∧s.length=(startV n).length∧smps i=true∧smps s=true
def GoodO (ns:List NodeD) (o:List Int):Prop:=∀j,j < o.length→∃i:Nat,o.getD j 0=(i:Int)∧i < ns.length∧(i:Int) ∉ o.take j∧∀f∈waitsL (ns.getD i n0),f∈o.take j
theorem GoodO.ext {ns:List NodeD} {o:List Int} (h:GoodO ns o) {i:Nat} (hi:nextR ns o=some i):GoodO ns (o++[(i:Int)]):=by
 intro j hj
 rw[List.length_append] at hj
 simp only[List.length_cons,List.length_nil] at hj
 by_cases hj':j < o.length
 · obtain⟨i',h1,h2,h3,h4⟩:=h j hj'
   refine⟨i',?_,h2,?_,?_⟩
   · rw[List.getD_eq_getElem?_getD,List.getElem?_append_left hj',←List.getD_eq_getElem?_getD];exact h1
   · rw[List.take_append_of_le_length (by omega)];exact h3
   · rw[List.take_append_of_le_length (by omega)];exact h4
 · have e:j=o.length:=by omega
   subst e
   have hf:=List.find?_some hi
   have hm:=List.mem_range.1 (List.mem_of_find?_eq_some hi)
   simp only[readyB,Bool.and_eq_true,Bool.not_eq_true',List.all_eq_true,List.contains_eq_mem,decide_eq_true_eq,decide_eq_false_iff_not] at hf
   refine⟨i,by simp[List.getD],hm,?_,?_⟩
   · rw[List.take_append_of_le_length (by omega),List.take_length];exact hf.1
   · rw[List.take_append_of_le_length (by omega),List.take_length];exact hf.2
theorem GoodO.at {ns:List NodeD} {o:List Int} (h:GoodO ns o) {x:Int} (hx:x∈o):∃i:Nat,x=i∧i < ns.length:=by
 obtain⟨j,hj,rfl⟩:=List.mem_iff_getElem.1 hx
 obtain⟨i,h1,h2,_⟩:=h j hj
 exact⟨i,by rw[←h1];simp[List.getD,hj],h2⟩
def stepC (n:NodeD) (tabs:List (List Int)) (i s:List Int):Prop:=(∃tb:Int,nodeB n tb=true∧(n.1=13→tb=tabs.length∧tabsB tabs=true))∧i.length=insN n∧s.length=(startV n).length∧smps i=true∧smps s=true
theorem stepOk.c {n:NodeD} {tabs:List (List Int)} {i s:List Int} (h:stepOk n tabs i s):stepC n tabs i s:=⟨⟨_,h.1,fun _=>⟨rfl,h.2.1⟩⟩,h.2.2.1,h.2.2.2.1,h.2.2.2.2.1,h.2.2.2.2.2⟩
theorem stepOk.c6 {n:NodeD} {tabs ts:List (List Int)} {i s:List Int} (h:stepOk n tabs i s) (h6:n.1=6):stepC n ts i s:=⟨⟨_,h.1,fun e=>by omega⟩,h.2.2.1,h.2.2.2.1,h.2.2.2.2.1,h.2.2.2.2.2⟩
open Go.RowKit
end Go.Proofs.YthhogcknkimijaaDoor
