/-
  Texts of this claim, joined (part 8). No condition beyond those of the theorems.
-/
import Derived.Test.YthhogcknkimijaaDoorV03
import Derived.Test.YthhogcknkimijaaDoorV02
set_option linter.unusedSimpArgs false
set_option linter.unusedVariables false
namespace Go.Proofs.YthhogcknkimijaaDoor
abbrev NodeD:=Int × Int × Int × List Int
abbrev PatchD:=Int × List (List Int) × List NodeD × List Int
def kindT:List (Int × Int × Int × Bool × Bool) :=
 [(0,0,3,true,false),(0,-2147483648,2147483647,false,false),(2,1,0,true,false),(2,1,0,true,false),(1,-2147483648,2147483647,true,false),(1,1,16,true,false),
  (1,1,0,true,false),(1,1,0,true,false),(2,1,0,false,false),(1,0,31,false,false),(1,0,2147483647,false,false),(1,-2147483648,2147483647,false,false),
  (1,0,3,false,false),(0,-2147483648,2147483647,false,false),(3,1,0,false,false),(2,1,0,false,false),(1,-2147483648,2147483647,true,true)]
def kT (k:Int):Int × Int × Int × Bool × Bool:=kindT.getD (k - 1).toNat (0,0,0,false,false)
def nodeB (n:NodeD) (tables:Int):Bool :=
 inR n.1 1 17 && (match decide ((kT n.1).2.1≤(kT n.1).2.2.1) with|true=>inR n.2.1 (kT n.1).2.1 (kT n.1).2.2.1|false=>decide (n.2.1=0)) &&
  (match (kT n.1).2.2.2.2 with|true=>inR n.2.2.1 1 16|false=>decide (n.2.2.1=0)) && n.2.2.2.all (fun f=>inR f 0 23) && decide ((n.2.2.2.length:Int)=(kT n.1).1) && (!decide (n.1=13) || decide (n.2.1 < tables))
def tabB (t:List Int):Bool:=(decide (t.length=2) || decide (t.length=4) || decide (t.length=8) || decide (t.length=16)) && smps t
def tabsB (ts:List (List Int)):Bool:=ts.all tabB && decide (ts.length≤4)
def waitsL (n:NodeD):List Int:=match decide (n.1=6) with|true=>[]|false=>n.2.2.2
def n0:NodeD:=(0,0,0,[])
def readyB (ns:List NodeD) (out:List Int) (i:Nat):Bool:=!out.contains (i:Int) && (waitsL (ns.getD i n0)).all (fun f=>out.contains f)
def nextR (ns:List NodeD) (out:List Int):Option Nat:=(List.range ns.length).find? (readyB ns out)
def ordGo (ns:List NodeD):Nat→List Int→List Int
 | 0,out=>out
 | k + 1, out => match nextR ns out with
   | none=>out
   | some i=>ordGo ns k (out++[(i:Int)])
def ordL (ns:List NodeD):List Int:=ordGo ns ns.length []
theorem nextR_some {ns:List NodeD} {out:List Int} {i:Nat} (hi:i < ns.length) (h:∀j,j < i→readyB ns out j=false) (k:readyB ns out i=true):nextR ns out=some i:=by
 simp only[nextR]
 have e:List.range ns.length=List.range i++i::(List.range' (i+1) (ns.length - i - 1)):=by
  have:=@List.range'_append_1 0 i (ns.length - i)
  rw[Nat.zero_add,(by omega:i+(ns.length - i)=ns.length)] at this
  rw[List.range_eq_range',List.range_eq_range',←this]
  congr 1
  rw[(by omega:ns.length - i=(ns.length - i - 1)+1),List.range'_succ]
  congr 2
 rw[e,List.find?_append,List.find?_eq_none.2 (fun j hj=>by simpa using h j (List.mem_range.1 hj)),Option.none_or,List.find?_cons_of_pos k]
theorem ordGo_some {ns:List NodeD} {out:List Int} {k i:Nat} (h:nextR ns out=some i):ordGo ns (k+1) out=ordGo ns k (out++[(i:Int)]):=by simp only[ordGo,h]
theorem count_set {tk:List Bool} {i:Nat} (hi:i < tk.length) (h:tk.getD i false=false):(tk.set i true).count false+1=tk.count false:=by
 induction tk generalizing i with
 | nil=>simp at hi
 | cons b tk ih =>
   cases i with
   | zero=>simp at h;subst h;simp
   | succ i =>
     have:=ih (i:=i) (by simpa using hi) (by simpa using h)
     rw[List.set_cons_succ,List.count_cons,List.count_cons]
     omega
def OrdI (ns:List NodeD) (tk:List Bool) (out:List Int):Prop :=
 tk.length=ns.length∧(∀j,j < ns.length→tk.getD j false=out.contains (j:Int))∧ordGo ns (tk.count false) out=ordL ns∧out.length+tk.count false=ns.length
theorem OrdI.next {ns:List NodeD} {tk:List Bool} {out:List Int} {i:Nat} (h:OrdI ns tk out) (hi:i < ns.length) (hno:∀j,j < i→readyB ns out j=false) (hr:readyB ns out i=true) :
 OrdI ns (tk.set i true) (out++[(i:Int)])∧(tk.set i true).count false+1=tk.count false:=by
 obtain⟨h1,h2,h3,h4⟩:=h
 have hf:tk.getD i false=false:=by
  rw[h2 i hi]
  unfold readyB at hr
  simp only[Bool.and_eq_true,Bool.not_eq_true'] at hr
  exact hr.1
 have hc:=count_set (by omega) hf
 have hn:=nextR_some hi hno hr
 refine⟨⟨by simpa using h1,fun j hj=>?_,?_,by simp;omega⟩,hc⟩
 · by_cases hji:j=i
   · subst hji
     simp[List.getD,h1,hj]
   · have e:(tk.set i true).getD j false=tk.getD j false:=by simp[List.getD,List.getElem?_set_ne (Ne.symm hji)]
     rw[e,h2 j hj]
     have hne:(j:Int)≠(i:Int):=by omega
     simp[List.contains_eq_mem,hne]
 · rw[←h3,←hc,ordGo_some hn]
theorem getD_mem {α:Type} {l:List α} {i:Nat} {d:α} (h:i < l.length):l.getD i d∈l:=by
 simp[List.getD,h]
instance:DecidableEq NodeD:=inferInstanceAs (DecidableEq (Int × Int × Int × List Int))
instance:DecidableEq PatchD:=instDecidableEqProd
section
variable {α:Type} {mk:Int→α→α} {ct:α→Nat} {xs:List α} {k:Int} {m:Nat}
def fillT (z:α) (xs:List α) (m:Nat):List α:=xs.take m++List.replicate (xs.length - m) z
theorem fillT_len {z:α} (h:m≤xs.length):(fillT z xs m).length=xs.length:=by
 simp only[fillT,List.length_append,List.length_take,List.length_replicate];omega
theorem fillT_zero {z:α}:fillT z xs 0=List.replicate xs.length z:=by simp[fillT]
theorem fillT_all {z:α} (h:xs.length≤m):fillT z xs m=xs:=by
 unfold fillT;rw[List.take_of_length_le h,Nat.sub_eq_zero_of_le h];simp
theorem fillT_set {z:α} (d:α) (h:m < xs.length):(fillT z xs m).set m (xs.getD m d)=fillT z xs (m+1):=by
 unfold fillT
 rw[take_next (d:=d) h,List.set_append_right _ _ (by rw[List.length_take];omega),List.length_take,(by omega:m - min m xs.length=0),show xs.length - m=(xs.length - (m+1))+1 by omega,List.replicate_succ,List.set_cons_zero,List.append_assoc]
 rfl
def eqD (x y:α) [DecidableEq α]:Bool:=decide (x=y)
theorem eqD_t [DecidableEq α] {x y:α} (h:eqD x y=true):x=y:=of_decide_eq_true h
theorem eqD_rfl [DecidableEq α] (x:α):eqD x x=true:=decide_eq_true rfl
theorem eq_next [DecidableEq α] {ys:List α} (d:α) (hx:m < xs.length) (hl:xs.length=ys.length) (hp:xs.take m=ys.take m) (hq:eqD (xs.getD m d) (ys.getD m d)=true):xs.take (m+1)=ys.take (m+1):=by
 rw[take_next (d:=d) hx,take_next (d:=d) (by omega),hp,eqD_t hq]
end
open Go.RowKit
def startV (n:NodeD):List Int :=
 if n.1=6 then List.replicate n.2.1.toNat 0 else if n.1=17 then List.replicate n.2.2.1.toNat 0 else if n.1=7 then [0] else if n.1=8 then [0] else if n.1=16 then [0]
 else if n.1=12 then [n.2.1] else if n.1=14 then [n.2.1] else []
def insN (n:NodeD):Nat:=match decide (n.1=1) with|true=>1|false=>n.2.2.2.length
def stepOk (n:NodeD) (tabs:List (List Int)) (i s:List Int):Prop:=nodeB n tabs.length=true∧tabsB tabs=true∧i.length=insN n∧s.length=(startV n).length∧smps i=true∧smps s=true
def GoodO (ns:List NodeD) (o:List Int):Prop:=∀j,j < o.length→∃i:Nat,o.getD j 0=(i:Int)∧i < ns.length∧(i:Int) ∉ o.take j∧∀f∈waitsL (ns.getD i n0),f∈o.take j
theorem GoodO.ext {ns:List NodeD} {o:List Int} (h:GoodO ns o) {i:Nat} (hi:nextR ns o=some i):GoodO ns (o++[(i:Int)]):=by
 intro j hj
 rw[List.length_append] at hj
 simp only[List.length_cons,List.length_nil] at hj
 by_cases hj':j < o.length
 · obtain⟨i',h1,h2,h3,h4⟩:=h j hj'
   refine⟨i',?_,h2,?_,?_⟩
   · rw[List.getD_eq_getElem?_getD,List.getElem?_append_left hj',←List.getD_eq_getElem?_getD];exact h1
   · rw[List.take_append_of_le_length (by omega)];exact h3
   · rw[List.take_append_of_le_length (by omega)];exact h4
 · have e:j=o.length:=by omega
   subst e
   have hf:=List.find?_some hi
   have hm:=List.mem_range.1 (List.mem_of_find?_eq_some hi)
   simp only[readyB,Bool.and_eq_true,Bool.not_eq_true',List.all_eq_true,List.contains_eq_mem,decide_eq_true_eq,decide_eq_false_iff_not] at hf
   refine⟨i,by simp[List.getD],hm,?_,?_⟩
   · rw[List.take_append_of_le_length (by omega),List.take_length];exact hf.1
   · rw[List.take_append_of_le_length (by omega),List.take_length];exact hf.2
theorem GoodO.at {ns:List NodeD} {o:List Int} (h:GoodO ns o) {x:Int} (hx:x∈o):∃i:Nat,x=i∧i < ns.length:=by
 obtain⟨j,hj,rfl⟩:=List.mem_iff_getElem.1 hx
 obtain⟨i,h1,h2,_⟩:=h j hj
 exact⟨i,by rw[←h1];simp[List.getD,hj],h2⟩
def stepC (n:NodeD) (tabs:List (List Int)) (i s:List Int):Prop:=(∃tb:Int,nodeB n tb=true∧(n.1=13→tb=tabs.length∧tabsB tabs=true))∧i.length=insN n∧s.length=(startV n).length∧smps i=true∧smps s=true
theorem stepOk.c {n:NodeD} {tabs:List (List Int)} {i s:List Int} (h:stepOk n tabs i s):stepC n tabs i s:=⟨⟨_,h.1,fun _=>⟨rfl,h.2.1⟩⟩,h.2.2.1,h.2.2.2.1,h.2.2.2.2.1,h.2.2.2.2.2⟩
theorem stepOk.c6 {n:NodeD} {tabs ts:List (List Int)} {i s:List Int} (h:stepOk n tabs i s) (h6:n.1=6):stepC n ts i s:=⟨⟨_,h.1,fun e=>by omega⟩,h.2.2.1,h.2.2.2.1,h.2.2.2.2.1,h.2.2.2.2.2⟩
theorem wrapU {n:Int} (h:0≤n∧n≤9223372036854775807):IntKind.u64.wrap n=n:=by
 simp[IntKind.wrap,IntKind.bits,IntKind.signed];omega
open Go.RowKit
end Go.Proofs.YthhogcknkimijaaDoor
