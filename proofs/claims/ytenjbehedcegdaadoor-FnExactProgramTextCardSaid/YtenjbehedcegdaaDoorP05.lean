/-
  Texts of this claim, joined (part 5). No condition beyond those of the theorems.
-/
import Derived.Test.YtenjbehedcegdaaDoorP03
import Derived.Test.YtenjbehedcegdaaDoorP02
set_option linter.unusedSimpArgs false
set_option linter.unusedVariables false
namespace Go.Proofs.YtenjbehedcegdaaDoor
abbrev NodeD:=Int × Int × Int × List Int
abbrev PatchD:=Int × List (List Int) × List NodeD × List Int
def kindT:List (Int × Int × Int × Bool × Bool) :=
 [(0,0,3,true,false),(0,-2147483648,2147483647,false,false),(2,1,0,true,false),(2,1,0,true,false),(1,-2147483648,2147483647,true,false),(1,1,16,true,false),
  (1,1,0,true,false),(1,1,0,true,false),(2,1,0,false,false),(1,0,31,false,false),(1,0,2147483647,false,false),(1,-2147483648,2147483647,false,false),
  (1,0,3,false,false),(0,-2147483648,2147483647,false,false),(3,1,0,false,false),(2,1,0,false,false),(1,-2147483648,2147483647,true,true)]
def kT (k:Int):Int × Int × Int × Bool × Bool:=kindT.getD (k - 1).toNat (0,0,0,false,false)
def kindsL:List (ByteArray × Int × Int × Int × Bool × Bool) :=
 [(⟨#[105,110,112,117,116]⟩,0,0,3,true,false),
  (⟨#[99,111,110,115,116]⟩,0,-2147483648,2147483647,false,false),
  (⟨#[97,100,100]⟩,2,1,0,true,false),
  (⟨#[115,117,98]⟩,2,1,0,true,false),
  (⟨#[103,97,105,110]⟩,1,-2147483648,2147483647,true,false),
  (⟨#[100,101,108,97,121]⟩,1,1,16,true,false),
  (⟨#[115,117,109]⟩,1,1,0,true,false),
  (⟨#[100,105,102,102]⟩,1,1,0,true,false),
  (⟨#[109,117,108]⟩,2,1,0,false,false),
  (⟨#[115,104,105,102,116]⟩,1,0,31,false,false),
  (⟨#[99,108,105,112]⟩,1,0,2147483647,false,false),
  (⟨#[112,104,97,115,101]⟩,1,-2147483648,2147483647,false,false),
  (⟨#[116,97,98,108,101]⟩,1,0,3,false,false),
  (⟨#[110,111,105,115,101]⟩,0,-2147483648,2147483647,false,false),
  (⟨#[115,101,108,101,99,116]⟩,3,1,0,false,false),
  (⟨#[104,111,108,100]⟩,2,1,0,false,false),
  (⟨#[99,111,109,98]⟩,1,-2147483648,2147483647,true,true)]
theorem kindsL_at {k:Int} (h:inR k 1 17=true):(kindsL.getD (k - 1).toNat (ByteArray.empty,0,0,0,false,false)).2=kT k∧0≤k - 1∧k - 1 < 17:=by
 obtain⟨h1,h2⟩:=inR_iff.1 h
 refine⟨?_,by omega,by omega⟩
 obtain⟨m,hm⟩:∃m:Nat,k - 1=m:=⟨(k - 1).toNat,by omega⟩
 have hm':m < 17:=by omega
 unfold kT
 rw[hm,Int.toNat_natCast]
 have key:∀m:_root_.Fin 17,(kindsL.getD m.1 (ByteArray.empty,0,0,0,false,false)).2=kindT.getD m.1 (0,0,0,false,false):=by decide
 exact key ⟨m,hm'⟩
def nodeB (n:NodeD) (tables:Int):Bool :=
 inR n.1 1 17 && (match decide ((kT n.1).2.1≤(kT n.1).2.2.1) with|true=>inR n.2.1 (kT n.1).2.1 (kT n.1).2.2.1|false=>decide (n.2.1=0)) &&
  (match (kT n.1).2.2.2.2 with|true=>inR n.2.2.1 1 16|false=>decide (n.2.2.1=0)) && n.2.2.2.all (fun f=>inR f 0 23) && decide ((n.2.2.2.length:Int)=(kT n.1).1) && (!decide (n.1=13) || decide (n.2.1 < tables))
def tabB (t:List Int):Bool:=(decide (t.length=2) || decide (t.length=4) || decide (t.length=8) || decide (t.length=16)) && smps t
def tabsB (ts:List (List Int)):Bool:=ts.all tabB && decide (ts.length≤4)
def nodeIn (p:PatchD) (n:NodeD):Bool:=nodeB n p.2.1.length && idxs p.2.2.1.length n.2.2.2 && !(decide (n.1=1) && decide (p.1≤n.2.1))
def formedB (p:PatchD):Bool:=inR p.1 0 4 && tabsB p.2.1 && decide (p.2.2.1.length≤24) && decide (p.2.2.2.length≤4) && idxs p.2.2.1.length p.2.2.2 && p.2.2.1.all (nodeIn p)
def waitsL (n:NodeD):List Int:=match decide (n.1=6) with|true=>[]|false=>n.2.2.2
def n0:NodeD:=(0,0,0,[])
def readyB (ns:List NodeD) (out:List Int) (i:Nat):Bool:=!out.contains (i:Int) && (waitsL (ns.getD i n0)).all (fun f=>out.contains f)
def nextR (ns:List NodeD) (out:List Int):Option Nat:=(List.range ns.length).find? (readyB ns out)
def ordGo (ns:List NodeD):Nat→List Int→List Int
 | 0,out=>out
 | k + 1, out => match nextR ns out with
   | none=>out
   | some i=>ordGo ns k (out++[(i:Int)])
def ordL (ns:List NodeD):List Int:=ordGo ns ns.length []
def patchB (p:PatchD):Bool:=formedB p && decide ((ordL p.2.2.1).length=p.2.2.1.length)
theorem nextR_some {ns:List NodeD} {out:List Int} {i:Nat} (hi:i < ns.length) (h:∀j,j < i→readyB ns out j=false) (k:readyB ns out i=true):nextR ns out=some i:=by
 simp only[nextR]
 have e:List.range ns.length=List.range i++i::(List.range' (i+1) (ns.length - i - 1)):=by
  have:=@List.range'_append_1 0 i (ns.length - i)
  rw[Nat.zero_add,(by omega:i+(ns.length - i)=ns.length)] at this
  rw[List.range_eq_range',List.range_eq_range',←this]
  congr 1
  rw[(by omega:ns.length - i=(ns.length - i - 1)+1),List.range'_succ]
  congr 2
 rw[e,List.find?_append,List.find?_eq_none.2 (fun j hj=>by simpa using h j (List.mem_range.1 hj)),Option.none_or,List.find?_cons_of_pos k]
theorem ordGo_some {ns:List NodeD} {out:List Int} {k i:Nat} (h:nextR ns out=some i):ordGo ns (k+1) out=ordGo ns k (out++[(i:Int)]):=by simp only[ordGo,h]
theorem count_set {tk:List Bool} {i:Nat} (hi:i < tk.length) (h:tk.getD i false=false):(tk.set i true).count false+1=tk.count false:=by
 induction tk generalizing i with
 | nil=>simp at hi
 | cons b tk ih =>
   cases i with
   | zero=>simp at h;subst h;simp
   | succ i =>
     have:=ih (i:=i) (by simpa using hi) (by simpa using h)
     rw[List.set_cons_succ,List.count_cons,List.count_cons]
     omega
def OrdI (ns:List NodeD) (tk:List Bool) (out:List Int):Prop :=
 tk.length=ns.length∧(∀j,j < ns.length→tk.getD j false=out.contains (j:Int))∧ordGo ns (tk.count false) out=ordL ns∧out.length+tk.count false=ns.length
theorem OrdI.next {ns:List NodeD} {tk:List Bool} {out:List Int} {i:Nat} (h:OrdI ns tk out) (hi:i < ns.length) (hno:∀j,j < i→readyB ns out j=false) (hr:readyB ns out i=true) :
 OrdI ns (tk.set i true) (out++[(i:Int)])∧(tk.set i true).count false+1=tk.count false:=by
 obtain⟨h1,h2,h3,h4⟩:=h
 have hf:tk.getD i false=false:=by
  rw[h2 i hi]
  unfold readyB at hr
  simp only[Bool.and_eq_true,Bool.not_eq_true'] at hr
  exact hr.1
 have hc:=count_set (by omega) hf
 have hn:=nextR_some hi hno hr
 refine⟨⟨by simpa using h1,fun j hj=>?_,?_,by simp;omega⟩,hc⟩
 · by_cases hji:j=i
   · subst hji
     simp[List.getD,h1,hj]
   · have e:(tk.set i true).getD j false=tk.getD j false:=by simp[List.getD,List.getElem?_set_ne (Ne.symm hji)]
     rw[e,h2 j hj]
     have hne:(j:Int)≠(i:Int):=by omega
     simp[List.contains_eq_mem,hne]
 · rw[←h3,←hc,ordGo_some hn]
theorem formedB_parts {p:PatchD} (h:formedB p=true):p.2.2.1.length≤24∧p.2.2.2.length≤4∧tabsB p.2.1=true∧0≤p.1∧p.1≤4∧idxs p.2.2.1.length p.2.2.2=true∧p.2.2.1.all (nodeIn p)=true:=by
 simp only[formedB,Bool.and_eq_true,decide_eq_true_eq] at h
 obtain⟨⟨⟨⟨⟨h1,h2⟩,h3⟩,h4⟩,h5⟩,h6⟩:=h
 obtain⟨h7,h8⟩:=inR_iff.1 h1
 exact⟨h3,h4,h2,h7,h8,h5,h6⟩
theorem getD_mem {α:Type} {l:List α} {i:Nat} {d:α} (h:i < l.length):l.getD i d∈l:=by
 simp[List.getD,h]
theorem idxs_at {n:Int} {xs:List Int} (h:idxs n xs=true) {f:Int} (hf:f∈xs):0≤f∧f≤n - 1:=inR_iff.1 (List.all_eq_true.1 h f hf)
theorem waitsL_len (n:NodeD):(waitsL n).length≤n.2.2.2.length:=by
 unfold waitsL;split<;>simp
theorem has_next {xs:List Int} {m:Int} {k:Nat} (hk:k < xs.length) (h:(xs.take k).contains m=false) (hne:¬xs.getD k 0=m):(xs.take (k+1)).contains m=false:=by
 rw[take_next (d:=0) hk]
 simp only[List.contains_eq_mem,List.mem_append,List.mem_singleton,decide_eq_false_iff_not,not_or] at h ⊢
 exact⟨h,fun e=>hne e.symm⟩
theorem has_stop {xs:List Int} {m:Int} {k:Nat} (hk:k < xs.length) (h:xs.getD k 0=m):xs.contains m=true:=by
 simp only[List.contains_eq_mem,decide_eq_true_eq]
 rw[←h];exact getD_mem hk
theorem has_done {xs:List Int} {m:Int} {k:Nat} (h:(xs.take k).contains m=false) (hk:¬k < xs.length):xs.contains m=false:=by
 rw[List.take_of_length_le (by omega)] at h;exact h
def iMin (a b:Int):Int:=min a b
def iMax (a b:Int):Int:=max a b
theorem iMin_l {a b:Int} (h:a≤b):a=iMin a b:=by unfold iMin;omega
theorem iMin_r {a b:Int} (h:b≤a):b=iMin a b:=by unfold iMin;omega
theorem iMax_l {a b:Int} (h:b≤a):a=iMax a b:=by unfold iMax;omega
theorem iMax_r {a b:Int} (h:a≤b):b=iMax a b:=by unfold iMax;omega
def l03B (xs:List Int):Bool:=decide (xs.length≤4000) && smps xs
def arL:List Int:=[-1,0,0,2,2,1,1,1,1,2,1,1,1,1,0,3,2,1]
def hasAL:List Int:=[1,2,5,6,10,11,12,13,14,17]
def l06aB (kd a tb:Int):Bool :=
 match decide (kd=1) with
 | true=>inR a 0 3
 | false => match decide (kd = 6) with
   | true=>inR a 1 16
   | false => match decide (kd = 10) with
     | true=>inR a 0 31
     | false => match decide (kd = 11) with
       | true=>inR a 0 2147483647
       | false => match decide (kd = 13) with
         | true=>inR a 0 (min (max tb 0) 4 - 1)
         | false => match hasAL.contains kd with
           | true=>smp a
           | false=>decide (a=0)
def l06okB (kd a bb:Int) (fr:List Int) (tb:Int):Bool :=
 inR kd 1 17 && l06aB kd a tb && decide ((fr.length:Int)=arL.getD kd.toNat 0) && fr.all (fun f=>inR f 0 23) && (match decide (kd=17) with|true=>inR bb 1 16|false=>decide (bb=0))
theorem clampA (a tb:Int):inR a 0 (min (max tb 0) 4 - 1)=(inR a 0 3 && decide (a < tb)):=by
 rw[Bool.eq_iff_iff]
 simp only[inR,Bool.and_eq_true,decide_eq_true_eq]
 omega
theorem kind_eq (m:Nat) (h1:1≤m) (h2:m≤17) (a tb:Int) :
 l06aB m a tb=((match decide ((kT m).2.1≤(kT m).2.2.1) with|true=>inR a (kT m).2.1 (kT m).2.2.1|false=>decide (a=0)) && (!decide ((m:Int)=13) || decide (a < tb))) ∧
 arL.getD m 0=(kT m).1∧decide ((m:Int)=17)=(kT m).2.2.2.2:=by
 have c:m=1∨m=2∨m=3∨m=4∨m=5∨m=6∨m=7∨m=8∨m=9∨m=10∨m=11∨m=12∨m=13∨m=14∨m=15∨m=16∨m=17:=by omega
 rcases c with rfl|rfl|rfl|rfl|rfl|rfl|rfl|rfl|rfl|rfl|rfl|rfl|rfl|rfl|rfl|rfl|rfl<;>refine⟨?_,rfl,rfl⟩
 case inr.inr.inr.inr.inr.inr.inr.inr.inr.inr.inr.inr.inl=>exact clampA a tb
 all_goals(show _=(_ && true);rw[Bool.and_true];rfl)
theorem bool5 (a b c d e:Bool):(a && b && c && d && e)=(a && e && d && c && b):=by
 cases a<;>cases b<;>cases c<;>cases d<;>cases e<;>rfl
theorem l06okB_eq (kd a bb:Int) (fr:List Int) (tb:Int):l06okB kd a bb fr tb=nodeB (kd,a,bb,fr) tb:=by
 cases hk:inR kd 1 17 with
 | false=>simp[l06okB,nodeB,hk]
 | true =>
   obtain⟨h1,h2⟩:=inR_iff.1 hk
   obtain⟨m,rfl⟩:=Int.eq_ofNat_of_zero_le (by omega:0≤kd)
   obtain⟨e1,e2,e3⟩:=kind_eq m (by omega) (by omega) a tb
   unfold l06okB nodeB
   simp only[hk,Bool.true_and,e1,Int.toNat_natCast,e2,e3]
   exact bool5 _ _ _ _ _
theorem tab_eq (t:List Int):([2,4,8,16].contains (t.length:Int) && l03B t)=tabB t:=by
 have e:([2,4,8,16].contains (t.length:Int))=(decide (t.length=2) || decide (t.length=4) || decide (t.length=8) || decide (t.length=16)):=by
  rw[Bool.eq_iff_iff]
  simp only[List.contains_eq_mem,List.mem_cons,List.not_mem_nil,or_false,decide_eq_true_eq,Bool.or_eq_true]
  omega
 unfold tabB l03B
 rw[e]
 cases h:(decide (t.length=2) || decide (t.length=4) || decide (t.length=8) || decide (t.length=16)) with
 | false=>rfl
 | true =>
   simp only[Bool.or_eq_true,decide_eq_true_eq] at h
   rw[decide_eq_true (by omega:t.length≤4000)]
   rfl
theorem nodeIn_parts {p:PatchD} {n:NodeD} (h:nodeIn p n=true):nodeB n p.2.1.length=true∧idxs p.2.2.1.length n.2.2.2=true∧¬(n.1=1∧p.1≤n.2.1):=by
 simp only[nodeIn,Bool.and_eq_true,Bool.not_eq_true',Bool.and_eq_false_iff,decide_eq_false_iff_not] at h
 exact⟨h.1.1,h.1.2,fun hh=>h.2.elim (fun g=>g hh.1) (fun g=>g hh.2)⟩
abbrev fits (n:Nat):Prop:=n≤1099511627776
def fitsL (xs:List (List Int)):Prop:=xs.length≤1099511627776∧∀l∈xs,l.length≤1099511627776
def fitsN (xs:List NodeD):Prop:=xs.length≤1099511627776∧∀l∈xs,l.2.2.2.length≤1099511627776
def fitsP (p:PatchD):Prop:=fitsL p.2.1∧fitsN p.2.2.1∧p.2.2.2.length≤1099511627776
instance:DecidableEq NodeD:=inferInstanceAs (DecidableEq (Int × Int × Int × List Int))
instance:DecidableEq PatchD:=instDecidableEqProd
def szR (n:Nat) (left:Int):Int:=match decide (left < n) with|true=>-1|false=>left - n
abbrev szOk (left:Int):Prop:=0≤left∧left≤1048576
theorem szR_lt {n:Nat} {l:Int} (h:0≤l) (c:szR n l < 0):szR n l=-1∧l < n:=by
 unfold szR at *
 by_cases hh:l < n
 · rw[decide_eq_true hh] at *;exact⟨rfl,hh⟩
 · rw[decide_eq_false hh] at c;simp only at c;omega
theorem szR_ge {n:Nat} {l:Int} (c:¬szR n l < 0):szR n l=l - n∧n≤l:=by
 unfold szR at *
 by_cases hh:l < n
 · rw[decide_eq_true hh] at c;simp only at c;omega
 · rw[decide_eq_false hh];exact⟨rfl,by omega⟩
theorem szR_ge' {n:Nat} {l:Int} (c:0≤szR n l):szR n l=l - n∧n≤l:=szR_ge (by omega)
theorem szR_t {n:Nat} {l:Int} (c:l < n):szR n l=-1:=by unfold szR;rw[decide_eq_true c]
theorem szR_f {n:Nat} {l:Int} (c:n≤l):szR n l=l - n:=by unfold szR;rw[decide_eq_false (by omega)]
theorem szR_f' {n:Nat} {l y:Int} (c:n≤l) (e:y=l - n):y=szR n l:=by rw[szR_f c];exact e
section
variable {α:Type} {mk:Int→α→α} {ct:α→Nat} {xs:List α} {k:Int} {m:Nat}
def cntA (ct:α→Nat):List α→Nat
 | []=>0
 | x::l=>ct x+cntA ct l
theorem cntA_append {ys:List α}:cntA ct (xs++ys)=cntA ct xs+cntA ct ys:=by
 induction xs with
 | nil=>simp[cntA]
 | cons x l ih=>simp[cntA,ih];omega
theorem cntA_next (d:α) (h:m < xs.length):cntA ct (xs.take (m+1))=cntA ct (xs.take m)+ct (xs.getD m d):=by
 rw[take_next (d:=d) h,cntA_append];simp[cntA]
theorem cntA_take (m:Nat):cntA ct (xs.take m)≤cntA ct xs:=by
 have:=@cntA_append α ct (xs.take m) (xs.drop m)
 rw[List.take_append_drop] at this;omega
def fillT (z:α) (xs:List α) (m:Nat):List α:=xs.take m++List.replicate (xs.length - m) z
theorem fillT_len {z:α} (h:m≤xs.length):(fillT z xs m).length=xs.length:=by
 simp only[fillT,List.length_append,List.length_take,List.length_replicate];omega
theorem fillT_zero {z:α}:fillT z xs 0=List.replicate xs.length z:=by simp[fillT]
theorem fillT_all {z:α} (h:xs.length≤m):fillT z xs m=xs:=by
 unfold fillT;rw[List.take_of_length_le h,Nat.sub_eq_zero_of_le h];simp
theorem fillT_set {z:α} (d:α) (h:m < xs.length):(fillT z xs m).set m (xs.getD m d)=fillT z xs (m+1):=by
 unfold fillT
 rw[take_next (d:=d) h,List.set_append_right _ _ (by rw[List.length_take];omega),List.length_take,(by omega:m - min m xs.length=0),show xs.length - m=(xs.length - (m+1))+1 by omega,List.replicate_succ,List.set_cons_zero,List.append_assoc]
 rfl
def eqD (x y:α) [DecidableEq α]:Bool:=decide (x=y)
theorem eqD_t [DecidableEq α] {x y:α} (h:eqD x y=true):x=y:=of_decide_eq_true h
theorem eqD_f [DecidableEq α] {x y:α} (h:eqD x y=false):¬x=y:=of_decide_eq_false h
theorem eqD_rfl [DecidableEq α] (x:α):eqD x x=true:=decide_eq_true rfl
theorem eq_next [DecidableEq α] {ys:List α} (d:α) (hx:m < xs.length) (hl:xs.length=ys.length) (hp:xs.take m=ys.take m) (hq:eqD (xs.getD m d) (ys.getD m d)=true):xs.take (m+1)=ys.take (m+1):=by
 rw[take_next (d:=d) hx,take_next (d:=d) (by omega),hp,eqD_t hq]
theorem eq_done [DecidableEq α] {ys:List α} (hx:xs.length≤m) (hl:xs.length=ys.length) (hp:xs.take m=ys.take m):eqD xs ys=true:=by
 rw[List.take_of_length_le hx,List.take_of_length_le (by omega)] at hp;exact decide_eq_true hp
theorem eq_stop [DecidableEq α] {ys:List α} (d:α) (hq:eqD (xs.getD m d) (ys.getD m d)=false):eqD xs ys=false:=by
 refine decide_eq_false ?_;rintro rfl;exact eqD_f hq rfl
theorem eq_len [DecidableEq α] {ys:List α} (hq:¬xs.length=ys.length):eqD xs ys=false:=by
 refine decide_eq_false ?_;rintro rfl;exact hq rfl
end
def ctN (n:NodeD):Nat:=3+n.2.2.2.length
def szL (t:List (List Int)):Nat:=t.length+cntA List.length t
def ctP (p:PatchD):Nat:=cntA List.length p.2.1+cntA ctN p.2.2.1+p.2.2.2.length
theorem cnt_mem {α:Type} {ct:α→Nat} {xs:List α} {x:α} (h:x∈xs):ct x≤cntA ct xs:=by
 induction xs with
 | nil=>cases h
 | cons y l ih =>
   simp only[cntA]
   rcases List.mem_cons.1 h with rfl|h
   · omega
   · have:=ih h;omega
open Go.RowKit
def clipV (a x:Int):Int:=max (-a) (min x a)
def uns (x:Int):Int:=x % 4294967296
def lookV (t:List Int) (x:Int):Int:=t.getD ((t.length * uns x) / 4294967296).toNat 0
def shrV (x a:Int):Int:=x.fdiv (2 ^ (min a.toNat 64))
def xorC (x:Int):Int:=IntKind.i64.wrap ((BitVec.ofInt IntKind.i64.bits x ^^^ BitVec.ofInt IntKind.i64.bits 2734686208).toNat:Int)
def noiseV (s:Int):Int:=match decide (s % 2=1) with|true=>wrap32 (xorC (uns s / 2))|false=>wrap32 (uns s / 2)
def outV (kd a:Int) (tabs:List (List Int)) (i s:List Int):Int :=
 if kd=1 then i.getD 0 0 else if kd=2 then a else if kd=3 then wrap32 (i.getD 0 0+i.getD 1 0) else if kd=4 then wrap32 (i.getD 0 0 - i.getD 1 0) else if kd=5 then wrap32 (a * i.getD 0 0)
 else if kd=6 then s.getD 0 0 else if kd=7 then wrap32 (s.getD 0 0+i.getD 0 0) else if kd=8 then wrap32 (i.getD 0 0 - s.getD 0 0) else if kd=9 then wrap32 (i.getD 0 0 * i.getD 1 0)
 else if kd=10 then shrV (i.getD 0 0) a else if kd=11 then clipV a (i.getD 0 0) else if kd=12 then s.getD 0 0 else if kd=13 then lookV (tabs.getD a.toNat []) (i.getD 0 0)
 else if kd=14 then s.getD 0 0 else if kd=15 then (match decide (0≤i.getD 0 0) with|true=>i.getD 1 0|false=>i.getD 2 0) else if kd=16 then (match decide (0 < i.getD 1 0) with|true=>i.getD 0 0|false=>s.getD 0 0) else wrap32 (i.getD 0 0+a * s.getD 0 0)
def nextV (kd:Int) (i s:List Int) (out:Int):List Int :=
 if kd=6 then s.drop 1++[i.getD 0 0] else if kd=7 then [out] else if kd=8 then [i.getD 0 0] else if kd=12 then [wrap32 (s.getD 0 0+i.getD 0 0)] else if kd=14 then [noiseV (s.getD 0 0)]
 else if kd=16 then [out] else if kd=17 then s.drop 1++[out] else []
def startV (n:NodeD):List Int :=
 if n.1=6 then List.replicate n.2.1.toNat 0 else if n.1=17 then List.replicate n.2.2.1.toNat 0 else if n.1=7 then [0] else if n.1=8 then [0] else if n.1=16 then [0]
 else if n.1=12 then [n.2.1] else if n.1=14 then [n.2.1] else []
def insV (n:NodeD) (frame vals:List Int):List Int:=match decide (n.1=1) with|true=>[frame.getD n.2.1.toNat 0]|false=>n.2.2.2.map fun i=>vals.getD i.toNat 0
def insN (n:NodeD):Nat:=match decide (n.1=1) with|true=>1|false=>n.2.2.2.length
theorem nodeB_parts {n:NodeD} {tb:Int} (h:nodeB n tb=true):1≤n.1∧n.1≤17∧(match decide ((kT n.1).2.1≤(kT n.1).2.2.1) with|true=>inR n.2.1 (kT n.1).2.1 (kT n.1).2.2.1|false=>decide (n.2.1=0))=true ∧
 (match (kT n.1).2.2.2.2 with|true=>inR n.2.2.1 1 16|false=>decide (n.2.2.1=0))=true∧(n.2.2.2.length:Int)=(kT n.1).1∧(n.1=13→n.2.1 < tb):=by
 simp only[nodeB,Bool.and_eq_true,decide_eq_true_eq,Bool.or_eq_true,Bool.not_eq_true',decide_eq_false_iff_not] at h
 obtain⟨⟨⟨⟨⟨h1,h2⟩,h3⟩,h4⟩,h5⟩,h6⟩:=h
 obtain⟨h7,h8⟩:=inR_iff.1 h1
 exact⟨h7,h8,h2,h3,h5,fun e=>by rcases h6 with h6|h6;exact absurd e h6;exact h6⟩
theorem nodeB_ab {kd a b tb:Int} {fr:List Int} (h:nodeB (kd,a,b,fr) tb=true):smp a=true∧(kd=1→0≤a∧a≤3)∧(kd=6→1≤a∧a≤16)∧(kd=10→0≤a∧a≤31)∧(kd=11→0≤a)∧(kd=13→0≤a∧a≤3∧a < tb)∧(kd=17→1≤b∧b≤16) ∧
 (kd=3∨kd=4∨kd=9∨kd=16→fr.length=2)∧(kd=5∨kd=6∨kd=7∨kd=8∨kd=10∨kd=11∨kd=12∨kd=13∨kd=17→fr.length=1)∧(kd=15→fr.length=3)∧(kd=1∨kd=2∨kd=14→fr.length=0):=by
 obtain⟨h1,h2,h3,h4,h5,h6⟩:=nodeB_parts h
 simp only at h1 h2 h3 h4 h5 h6
 obtain⟨m,rfl⟩:=Int.eq_ofNat_of_zero_le (by omega:0≤kd)
 have c:m=1∨m=2∨m=3∨m=4∨m=5∨m=6∨m=7∨m=8∨m=9∨m=10∨m=11∨m=12∨m=13∨m=14∨m=15∨m=16∨m=17:=by omega
 rcases c with rfl|rfl|rfl|rfl|rfl|rfl|rfl|rfl|rfl|rfl|rfl|rfl|rfl|rfl|rfl|rfl|rfl<;>simp[kT,kindT,inR,smp,-Int.not_lt] at h3 h4 h5 h6 ⊢<;>(try subst h5)<;>(try simp)<;>(try omega)
def stepOk (n:NodeD) (tabs:List (List Int)) (i s:List Int):Prop:=nodeB n tabs.length=true∧tabsB tabs=true∧i.length=insN n∧s.length=(startV n).length∧smps i=true∧smps s=true
theorem node_at {p:PatchD} (h:formedB p=true) {i:Nat} (hi:i < p.2.2.1.length):nodeIn p (p.2.2.1.getD i n0)=true:=List.all_eq_true.1 (formedB_parts h).2.2.2.2.2.2 _ (getD_mem hi)
def outP (p:PatchD) (s:List (List Int)) (fr v:List Int) (i:Nat):Int:=outV (p.2.2.1.getD i n0).1 (p.2.2.1.getD i n0).2.1 p.2.1 (insV (p.2.2.1.getD i n0) fr v) (s.getD i [])
def nextP (p:PatchD) (s:List (List Int)) (fr v:List Int) (o:Int) (i:Nat):List Int:=nextV (p.2.2.1.getD i n0).1 (insV (p.2.2.1.getD i n0) fr v) (s.getD i []) o
theorem getD_set {α:Type} {l:List α} {i j:Nat} {x d:α} (hi:i < l.length):(l.set i x).getD j d=if i=j then x else l.getD j d:=by
 rw[List.getD_eq_getElem?_getD,List.getElem?_set]
 split
 · rename_i e;subst e;simp[hi]
 · rw[List.getD_eq_getElem?_getD]
def GoodO (ns:List NodeD) (o:List Int):Prop:=∀j,j < o.length→∃i:Nat,o.getD j 0=(i:Int)∧i < ns.length∧(i:Int) ∉ o.take j∧∀f∈waitsL (ns.getD i n0),f∈o.take j
theorem GoodO.ext {ns:List NodeD} {o:List Int} (h:GoodO ns o) {i:Nat} (hi:nextR ns o=some i):GoodO ns (o++[(i:Int)]):=by
 intro j hj
 rw[List.length_append] at hj
 simp only[List.length_cons,List.length_nil] at hj
 by_cases hj':j < o.length
 · obtain⟨i',h1,h2,h3,h4⟩:=h j hj'
   refine⟨i',?_,h2,?_,?_⟩
   · rw[List.getD_eq_getElem?_getD,List.getElem?_append_left hj',←List.getD_eq_getElem?_getD];exact h1
   · rw[List.take_append_of_le_length (by omega)];exact h3
   · rw[List.take_append_of_le_length (by omega)];exact h4
 · have e:j=o.length:=by omega
   subst e
   have hf:=List.find?_some hi
   have hm:=List.mem_range.1 (List.mem_of_find?_eq_some hi)
   simp only[readyB,Bool.and_eq_true,Bool.not_eq_true',List.all_eq_true,List.contains_eq_mem,decide_eq_true_eq,decide_eq_false_iff_not] at hf
   refine⟨i,by simp[List.getD],hm,?_,?_⟩
   · rw[List.take_append_of_le_length (by omega),List.take_length];exact hf.1
   · rw[List.take_append_of_le_length (by omega),List.take_length];exact hf.2
theorem pigeon:∀(n:Nat) (l:List Int),l.Nodup→(∀x∈l,0≤x∧x < n)→l.length≤n:=by
 intro n
 induction n with
 | zero =>
   intro l _ h
   cases l with
   | nil=>simp
   | cons x l=>have:=h x List.mem_cons_self;omega
 | succ n ih =>
   intro l hn h
   have h1:=ih (l.erase n) (hn.erase _) fun x hx=>by
    have:=h x (List.mem_of_mem_erase hx)
    have hne:x≠n:=by rintro rfl;exact hn.not_mem_erase hx
    omega
   have h2:=@List.length_erase _ _ _ (n:Int) l
   split at h2<;>omega
theorem GoodO.at {ns:List NodeD} {o:List Int} (h:GoodO ns o) {x:Int} (hx:x∈o):∃i:Nat,x=i∧i < ns.length:=by
 obtain⟨j,hj,rfl⟩:=List.mem_iff_getElem.1 hx
 obtain⟨i,h1,h2,_⟩:=h j hj
 exact⟨i,by rw[←h1];simp[List.getD,hj],h2⟩
def stepC (n:NodeD) (tabs:List (List Int)) (i s:List Int):Prop:=(∃tb:Int,nodeB n tb=true∧(n.1=13→tb=tabs.length∧tabsB tabs=true))∧i.length=insN n∧s.length=(startV n).length∧smps i=true∧smps s=true
theorem stepOk.c {n:NodeD} {tabs:List (List Int)} {i s:List Int} (h:stepOk n tabs i s):stepC n tabs i s:=⟨⟨_,h.1,fun _=>⟨rfl,h.2.1⟩⟩,h.2.2.1,h.2.2.2.1,h.2.2.2.2.1,h.2.2.2.2.2⟩
theorem stepOk.c6 {n:NodeD} {tabs ts:List (List Int)} {i s:List Int} (h:stepOk n tabs i s) (h6:n.1=6):stepC n ts i s:=⟨⟨_,h.1,fun e=>by omega⟩,h.2.2.1,h.2.2.2.1,h.2.2.2.2.1,h.2.2.2.2.2⟩
open Go.RowKit
end Go.Proofs.YtenjbehedcegdaaDoor
