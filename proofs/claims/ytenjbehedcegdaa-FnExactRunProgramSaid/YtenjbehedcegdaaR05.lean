/-
  Texts of this claim, joined (part 5). No condition beyond those of the theorems.
-/
import Derived.Test.YtenjbehedcegdaaR03
import Derived.Test.YtenjbehedcegdaaR02
set_option linter.unusedSimpArgs false
set_option linter.unusedVariables false
namespace Go.Proofs.Ytenjbehedcegdaa
abbrev NodeD:=Int × Int × Int × List Int
abbrev PatchD:=Int × List (List Int) × List NodeD × List Int
def kindT:List (Int × Int × Int × Bool × Bool) :=
 [(0,0,3,true,false),(0,-2147483648,2147483647,false,false),(2,1,0,true,false),(2,1,0,true,false),(1,-2147483648,2147483647,true,false),(1,1,16,true,false),
  (1,1,0,true,false),(1,1,0,true,false),(2,1,0,false,false),(1,0,31,false,false),(1,0,2147483647,false,false),(1,-2147483648,2147483647,false,false),
  (1,0,3,false,false),(0,-2147483648,2147483647,false,false),(3,1,0,false,false),(2,1,0,false,false),(1,-2147483648,2147483647,true,true)]
def kT (k:Int):Int × Int × Int × Bool × Bool:=kindT.getD (k - 1).toNat (0,0,0,false,false)
def kindsL:List (ByteArray × Int × Int × Int × Bool × Bool) :=
 [(⟨#[105,110,112,117,116]⟩,0,0,3,true,false),
  (⟨#[99,111,110,115,116]⟩,0,-2147483648,2147483647,false,false),
  (⟨#[97,100,100]⟩,2,1,0,true,false),
  (⟨#[115,117,98]⟩,2,1,0,true,false),
  (⟨#[103,97,105,110]⟩,1,-2147483648,2147483647,true,false),
  (⟨#[100,101,108,97,121]⟩,1,1,16,true,false),
  (⟨#[115,117,109]⟩,1,1,0,true,false),
  (⟨#[100,105,102,102]⟩,1,1,0,true,false),
  (⟨#[109,117,108]⟩,2,1,0,false,false),
  (⟨#[115,104,105,102,116]⟩,1,0,31,false,false),
  (⟨#[99,108,105,112]⟩,1,0,2147483647,false,false),
  (⟨#[112,104,97,115,101]⟩,1,-2147483648,2147483647,false,false),
  (⟨#[116,97,98,108,101]⟩,1,0,3,false,false),
  (⟨#[110,111,105,115,101]⟩,0,-2147483648,2147483647,false,false),
  (⟨#[115,101,108,101,99,116]⟩,3,1,0,false,false),
  (⟨#[104,111,108,100]⟩,2,1,0,false,false),
  (⟨#[99,111,109,98]⟩,1,-2147483648,2147483647,true,true)]
theorem kindsL_at {k:Int} (h:inR k 1 17=true):(kindsL.getD (k - 1).toNat (ByteArray.empty,0,0,0,false,false)).2=kT k∧0≤k - 1∧k - 1 < 17:=by
 obtain⟨h1,h2⟩:=inR_iff.1 h
 refine⟨?_,by omega,by omega⟩
 obtain⟨m,hm⟩:∃m:Nat,k - 1=m:=⟨(k - 1).toNat,by omega⟩
 have hm':m < 17:=by omega
 unfold kT
 rw[hm,Int.toNat_natCast]
 have key:∀m:_root_.Fin 17,(kindsL.getD m.1 (ByteArray.empty,0,0,0,false,false)).2=kindT.getD m.1 (0,0,0,false,false):=by decide
 exact key ⟨m,hm'⟩
def nodeB (n:NodeD) (tables:Int):Bool :=
 inR n.1 1 17 && (match decide ((kT n.1).2.1≤(kT n.1).2.2.1) with|true=>inR n.2.1 (kT n.1).2.1 (kT n.1).2.2.1|false=>decide (n.2.1=0)) &&
  (match (kT n.1).2.2.2.2 with|true=>inR n.2.2.1 1 16|false=>decide (n.2.2.1=0)) && n.2.2.2.all (fun f=>inR f 0 23) && decide ((n.2.2.2.length:Int)=(kT n.1).1) && (!decide (n.1=13) || decide (n.2.1 < tables))
def tabB (t:List Int):Bool:=(decide (t.length=2) || decide (t.length=4) || decide (t.length=8) || decide (t.length=16)) && smps t
def tabsB (ts:List (List Int)):Bool:=ts.all tabB && decide (ts.length≤4)
def nodeIn (p:PatchD) (n:NodeD):Bool:=nodeB n p.2.1.length && idxs p.2.2.1.length n.2.2.2 && !(decide (n.1=1) && decide (p.1≤n.2.1))
def formedB (p:PatchD):Bool:=inR p.1 0 4 && tabsB p.2.1 && decide (p.2.2.1.length≤24) && decide (p.2.2.2.length≤4) && idxs p.2.2.1.length p.2.2.2 && p.2.2.1.all (nodeIn p)
def waitsL (n:NodeD):List Int:=match decide (n.1=6) with|true=>[]|false=>n.2.2.2
def n0:NodeD:=(0,0,0,[])
def readyB (ns:List NodeD) (out:List Int) (i:Nat):Bool:=!out.contains (i:Int) && (waitsL (ns.getD i n0)).all (fun f=>out.contains f)
def nextR (ns:List NodeD) (out:List Int):Option Nat:=(List.range ns.length).find? (readyB ns out)
def ordGo (ns:List NodeD):Nat→List Int→List Int
 | 0,out=>out
 | k + 1, out => match nextR ns out with
   | none=>out
   | some i=>ordGo ns k (out++[(i:Int)])
def ordL (ns:List NodeD):List Int:=ordGo ns ns.length []
def patchB (p:PatchD):Bool:=formedB p && decide ((ordL p.2.2.1).length=p.2.2.1.length)
theorem nextR_some {ns:List NodeD} {out:List Int} {i:Nat} (hi:i < ns.length) (h:∀j,j < i→readyB ns out j=false) (k:readyB ns out i=true):nextR ns out=some i:=by
 simp only[nextR]
 have e:List.range ns.length=List.range i++i::(List.range' (i+1) (ns.length - i - 1)):=by
  have:=@List.range'_append_1 0 i (ns.length - i)
  rw[Nat.zero_add,(by omega:i+(ns.length - i)=ns.length)] at this
  rw[List.range_eq_range',List.range_eq_range',←this]
  congr 1
  rw[(by omega:ns.length - i=(ns.length - i - 1)+1),List.range'_succ]
  congr 2
 rw[e,List.find?_append,List.find?_eq_none.2 (fun j hj=>by simpa using h j (List.mem_range.1 hj)),Option.none_or,List.find?_cons_of_pos k]
theorem ordGo_some {ns:List NodeD} {out:List Int} {k i:Nat} (h:nextR ns out=some i):ordGo ns (k+1) out=ordGo ns k (out++[(i:Int)]):=by simp only[ordGo,h]
theorem count_set {tk:List Bool} {i:Nat} (hi:i < tk.length) (h:tk.getD i false=false):(tk.set i true).count false+1=tk.count false:=by
 induction tk generalizing i with
 | nil=>simp at hi
 | cons b tk ih =>
   cases i with
   | zero=>simp at h;subst h;simp
   | succ i =>
     have:=ih (i:=i) (by simpa using hi) (by simpa using h)
     rw[List.set_cons_succ,List.count_cons,List.count_cons]
     omega
def OrdI (ns:List NodeD) (tk:List Bool) (out:List Int):Prop :=
 tk.length=ns.length∧(∀j,j < ns.length→tk.getD j false=out.contains (j:Int))∧ordGo ns (tk.count false) out=ordL ns∧out.length+tk.count false=ns.length
theorem OrdI.next {ns:List NodeD} {tk:List Bool} {out:List Int} {i:Nat} (h:OrdI ns tk out) (hi:i < ns.length) (hno:∀j,j < i→readyB ns out j=false) (hr:readyB ns out i=true) :
 OrdI ns (tk.set i true) (out++[(i:Int)])∧(tk.set i true).count false+1=tk.count false:=by
 obtain⟨h1,h2,h3,h4⟩:=h
 have hf:tk.getD i false=false:=by
  rw[h2 i hi]
  unfold readyB at hr
  simp only[Bool.and_eq_true,Bool.not_eq_true'] at hr
  exact hr.1
 have hc:=count_set (by omega) hf
 have hn:=nextR_some hi hno hr
 refine⟨⟨by simpa using h1,fun j hj=>?_,?_,by simp;omega⟩,hc⟩
 · by_cases hji:j=i
   · subst hji
     simp[List.getD,h1,hj]
   · have e:(tk.set i true).getD j false=tk.getD j false:=by simp[List.getD,List.getElem?_set_ne (Ne.symm hji)]
     rw[e,h2 j hj]
     have hne:(j:Int)≠(i:Int):=by omega
     simp[List.contains_eq_mem,hne]
 · rw[←h3,←hc,ordGo_some hn]
theorem formedB_parts {p:PatchD} (h:formedB p=true):p.2.2.1.length≤24∧p.2.2.2.length≤4∧tabsB p.2.1=true∧0≤p.1∧p.1≤4∧idxs p.2.2.1.length p.2.2.2=true∧p.2.2.1.all (nodeIn p)=true:=by
 simp only[formedB,Bool.and_eq_true,decide_eq_true_eq] at h
 obtain⟨⟨⟨⟨⟨h1,h2⟩,h3⟩,h4⟩,h5⟩,h6⟩:=h
 obtain⟨h7,h8⟩:=inR_iff.1 h1
 exact⟨h3,h4,h2,h7,h8,h5,h6⟩
theorem getD_mem {α:Type} {l:List α} {i:Nat} {d:α} (h:i < l.length):l.getD i d∈l:=by
 simp[List.getD,h]
theorem idxs_at {n:Int} {xs:List Int} (h:idxs n xs=true) {f:Int} (hf:f∈xs):0≤f∧f≤n - 1:=inR_iff.1 (List.all_eq_true.1 h f hf)
theorem waitsL_len (n:NodeD):(waitsL n).length≤n.2.2.2.length:=by
 unfold waitsL;split<;>simp
theorem has_next {xs:List Int} {m:Int} {k:Nat} (hk:k < xs.length) (h:(xs.take k).contains m=false) (hne:¬xs.getD k 0=m):(xs.take (k+1)).contains m=false:=by
 rw[take_next (d:=0) hk]
 simp only[List.contains_eq_mem,List.mem_append,List.mem_singleton,decide_eq_false_iff_not,not_or] at h ⊢
 exact⟨h,fun e=>hne e.symm⟩
theorem has_stop {xs:List Int} {m:Int} {k:Nat} (hk:k < xs.length) (h:xs.getD k 0=m):xs.contains m=true:=by
 simp only[List.contains_eq_mem,decide_eq_true_eq]
 rw[←h];exact getD_mem hk
theorem has_done {xs:List Int} {m:Int} {k:Nat} (h:(xs.take k).contains m=false) (hk:¬k < xs.length):xs.contains m=false:=by
 rw[List.take_of_length_le (by omega)] at h;exact h
def iMin (a b:Int):Int:=min a b
def iMax (a b:Int):Int:=max a b
theorem iMin_l {a b:Int} (h:a≤b):a=iMin a b:=by unfold iMin;omega
theorem iMin_r {a b:Int} (h:b≤a):b=iMin a b:=by unfold iMin;omega
theorem iMax_l {a b:Int} (h:b≤a):a=iMax a b:=by unfold iMax;omega
theorem iMax_r {a b:Int} (h:a≤b):b=iMax a b:=by unfold iMax;omega
def l03B (xs:List Int):Bool:=decide (xs.length≤4000) && smps xs
def arL:List Int:=[-1,0,0,2,2,1,1,1,1,2,1,1,1,1,0,3,2,1]
def hasAL:List Int:=[1,2,5,6,10,11,12,13,14,17]
def l06aB (kd a tb:Int):Bool :=
 match decide (kd=1) with
 | true=>inR a 0 3
 | false => match decide (kd = 6) with
   | true=>inR a 1 16
   | false => match decide (kd = 10) with
     | true=>inR a 0 31
     | false => match decide (kd = 11) with
       | true=>inR a 0 2147483647
       | false => match decide (kd = 13) with
         | true=>inR a 0 (min (max tb 0) 4 - 1)
         | false => match hasAL.contains kd with
           | true=>smp a
           | false=>decide (a=0)
def l06okB (kd a bb:Int) (fr:List Int) (tb:Int):Bool :=
 inR kd 1 17 && l06aB kd a tb && decide ((fr.length:Int)=arL.getD kd.toNat 0) && fr.all (fun f=>inR f 0 23) && (match decide (kd=17) with|true=>inR bb 1 16|false=>decide (bb=0))
theorem clampA (a tb:Int):inR a 0 (min (max tb 0) 4 - 1)=(inR a 0 3 && decide (a < tb)):=by
 rw[Bool.eq_iff_iff]
 simp only[inR,Bool.and_eq_true,decide_eq_true_eq]
 omega
theorem kind_eq (m:Nat) (h1:1≤m) (h2:m≤17) (a tb:Int) :
 l06aB m a tb=((match decide ((kT m).2.1≤(kT m).2.2.1) with|true=>inR a (kT m).2.1 (kT m).2.2.1|false=>decide (a=0)) && (!decide ((m:Int)=13) || decide (a < tb))) ∧
 arL.getD m 0=(kT m).1∧decide ((m:Int)=17)=(kT m).2.2.2.2:=by
 have c:m=1∨m=2∨m=3∨m=4∨m=5∨m=6∨m=7∨m=8∨m=9∨m=10∨m=11∨m=12∨m=13∨m=14∨m=15∨m=16∨m=17:=by omega
 rcases c with rfl|rfl|rfl|rfl|rfl|rfl|rfl|rfl|rfl|rfl|rfl|rfl|rfl|rfl|rfl|rfl|rfl<;>refine⟨?_,rfl,rfl⟩
 case inr.inr.inr.inr.inr.inr.inr.inr.inr.inr.inr.inr.inl=>exact clampA a tb
 all_goals(show _=(_ && true);rw[Bool.and_true];rfl)
theorem bool5 (a b c d e:Bool):(a && b && c && d && e)=(a && e && d && c && b):=by
 cases a<;>cases b<;>cases c<;>cases d<;>cases e<;>rfl
theorem l06okB_eq (kd a bb:Int) (fr:List Int) (tb:Int):l06okB kd a bb fr tb=nodeB (kd,a,bb,fr) tb:=by
 cases hk:inR kd 1 17 with
 | false=>simp[l06okB,nodeB,hk]
 | true =>
   obtain⟨h1,h2⟩:=inR_iff.1 hk
   obtain⟨m,rfl⟩:=Int.eq_ofNat_of_zero_le (by omega:0≤kd)
   obtain⟨e1,e2,e3⟩:=kind_eq m (by omega) (by omega) a tb
   unfold l06okB nodeB
   simp only[hk,Bool.true_and,e1,Int.toNat_natCast,e2,e3]
   exact bool5 _ _ _ _ _
theorem tab_eq (t:List Int):([2,4,8,16].contains (t.length:Int) && l03B t)=tabB t:=by
 have e:([2,4,8,16].contains (t.length:Int))=(decide (t.length=2) || decide (t.length=4) || decide (t.length=8) || decide (t.length=16)):=by
  rw[Bool.eq_iff_iff]
  simp only[List.contains_eq_mem,List.mem_cons,List.not_mem_nil,or_false,decide_eq_true_eq,Bool.or_eq_true]
  omega
 unfold tabB l03B
 rw[e]
 cases h:(decide (t.length=2) || decide (t.length=4) || decide (t.length=8) || decide (t.length=16)) with
 | false=>rfl
 | true =>
   simp only[Bool.or_eq_true,decide_eq_true_eq] at h
   rw[decide_eq_true (by omega:t.length≤4000)]
   rfl
theorem nodeIn_parts {p:PatchD} {n:NodeD} (h:nodeIn p n=true):nodeB n p.2.1.length=true∧idxs p.2.2.1.length n.2.2.2=true∧¬(n.1=1∧p.1≤n.2.1):=by
 simp only[nodeIn,Bool.and_eq_true,Bool.not_eq_true',Bool.and_eq_false_iff,decide_eq_false_iff_not] at h
 exact⟨h.1.1,h.1.2,fun hh=>h.2.elim (fun g=>g hh.1) (fun g=>g hh.2)⟩
abbrev fits (n:Nat):Prop:=n≤1099511627776
def fitsL (xs:List (List Int)):Prop:=xs.length≤1099511627776∧∀l∈xs,l.length≤1099511627776
def fitsN (xs:List NodeD):Prop:=xs.length≤1099511627776∧∀l∈xs,l.2.2.2.length≤1099511627776
def fitsP (p:PatchD):Prop:=fitsL p.2.1∧fitsN p.2.2.1∧p.2.2.2.length≤1099511627776
instance:DecidableEq NodeD:=inferInstanceAs (DecidableEq (Int × Int × Int × List Int))
instance:DecidableEq PatchD:=instDecidableEqProd
def szR (n:Nat) (left:Int):Int:=match decide (left < n) with|true=>-1|false=>left - n
abbrev szOk (left:Int):Prop:=0≤left∧left≤1048576
abbrev mkOk (k:Int) (n:Nat):Prop:=0≤k∧k+n≤4611686018427387904
theorem szR_lt {n:Nat} {l:Int} (h:0≤l) (c:szR n l < 0):szR n l=-1∧l < n:=by
 unfold szR at *
 by_cases hh:l < n
 · rw[decide_eq_true hh] at *;exact⟨rfl,hh⟩
 · rw[decide_eq_false hh] at c;simp only at c;omega
theorem szR_ge {n:Nat} {l:Int} (c:¬szR n l < 0):szR n l=l - n∧n≤l:=by
 unfold szR at *
 by_cases hh:l < n
 · rw[decide_eq_true hh] at c;simp only at c;omega
 · rw[decide_eq_false hh];exact⟨rfl,by omega⟩
theorem szR_ge' {n:Nat} {l:Int} (c:0≤szR n l):szR n l=l - n∧n≤l:=szR_ge (by omega)
theorem szR_t {n:Nat} {l:Int} (c:l < n):szR n l=-1:=by unfold szR;rw[decide_eq_true c]
theorem szR_f {n:Nat} {l:Int} (c:n≤l):szR n l=l - n:=by unfold szR;rw[decide_eq_false (by omega)]
theorem szR_f' {n:Nat} {l y:Int} (c:n≤l) (e:y=l - n):y=szR n l:=by rw[szR_f c];exact e
section
variable {α:Type} {mk:Int→α→α} {ct:α→Nat} {xs:List α} {k:Int} {m:Nat}
def cntA (ct:α→Nat):List α→Nat
 | []=>0
 | x::l=>ct x+cntA ct l
def markA (mk:Int→α→α) (ct:α→Nat):Int→List α→List α
 | _,[]=>[]
 | k,x::l=>mk k x::markA mk ct (k+ct x) l
theorem markA_len:∀{k:Int} {xs:List α},(markA mk ct k xs).length=xs.length:=by
 intro k xs
 induction xs generalizing k with
 | nil=>rfl
 | cons x l ih=>simp[markA,ih]
theorem cntA_append {ys:List α}:cntA ct (xs++ys)=cntA ct xs+cntA ct ys:=by
 induction xs with
 | nil=>simp[cntA]
 | cons x l ih=>simp[cntA,ih];omega
theorem cntA_next (d:α) (h:m < xs.length):cntA ct (xs.take (m+1))=cntA ct (xs.take m)+ct (xs.getD m d):=by
 rw[take_next (d:=d) h,cntA_append];simp[cntA]
theorem cntA_take (m:Nat):cntA ct (xs.take m)≤cntA ct xs:=by
 have:=@cntA_append α ct (xs.take m) (xs.drop m)
 rw[List.take_append_drop] at this;omega
theorem cntA_one {c:Nat} (h:∀x∈xs,ct x≤c):cntA ct xs≤c * xs.length:=by
 induction xs with
 | nil=>simp[cntA]
 | cons x l ih =>
   have h1:=h x List.mem_cons_self
   have h2:=ih fun y hy=>h y (List.mem_cons_of_mem _ hy)
   simp only[cntA,List.length_cons,Nat.mul_add,Nat.mul_one];omega
theorem markA_append {ys:List α}:markA mk ct k (xs++ys)=markA mk ct k xs++markA mk ct (k+cntA ct xs) ys:=by
 induction xs generalizing k with
 | nil=>simp[markA,cntA]
 | cons x l ih=>simp only[List.cons_append,markA,ih,cntA];rw[show k+((ct x+cntA ct l:Nat):Int)=k+ct x+cntA ct l by omega]
theorem markA_next (d:α) (h:m < xs.length):markA mk ct k (xs.take (m+1))=markA mk ct k (xs.take m)++[mk (k+cntA ct (xs.take m)) (xs.getD m d)]:=by
 rw[take_next (d:=d) h,markA_append];simp[markA]
def markT (mk:Int→α→α) (ct:α→Nat) (k:Int) (xs:List α) (m:Nat):List α:=markA mk ct k (xs.take m)++xs.drop m
theorem markT_len (h:m≤xs.length):(markT mk ct k xs m).length=xs.length:=by
 simp only[markT,List.length_append,markA_len,List.length_take,List.length_drop];omega
theorem markT_at (d:α) (h:m < xs.length):(markT mk ct k xs m).getD m d=xs.getD m d:=by
 unfold markT
 rw[List.getD_eq_getElem?_getD,List.getD_eq_getElem?_getD,List.getElem?_append_right (by rw[markA_len,List.length_take];omega),List.getElem?_drop,markA_len,List.length_take]
 congr 2;omega
theorem markT_set (d:α) (h:m < xs.length):(markT mk ct k xs m).set m (mk (k+cntA ct (xs.take m)) (xs.getD m d))=markT mk ct k xs (m+1):=by
 unfold markT
 rw[markA_next d h,List.set_append_right _ _ (by rw[markA_len,List.length_take];omega),markA_len,List.length_take,(by omega:m - min m xs.length=0)]
 rw[List.drop_eq_getElem_cons h,List.set_cons_zero,List.append_assoc]
 rfl
theorem markT_zero:markT mk ct k xs 0=xs:=by simp[markT,markA]
theorem markT_all (h:xs.length≤m):markT mk ct k xs m=markA mk ct k xs:=by
 unfold markT;rw[List.take_of_length_le h,List.drop_of_length_le h,List.append_nil]
def heldA [DecidableEq α] (mk:Int→α→α) (ct:α→Nat) (k:Int) (xs:List α):Int:=match decide (xs=markA mk ct k xs) with|true=>k+cntA ct xs|false=>-1
theorem held_next (d:α) (h:m < xs.length) (hp:xs.take m=markA mk ct k (xs.take m)) (hq:xs.getD m d=mk (k+cntA ct (xs.take m)) (xs.getD m d)):xs.take (m+1)=markA mk ct k (xs.take (m+1)):=by
 rw[markA_next d h,←hp,←hq];exact take_next h
theorem held_stop [DecidableEq α] (d:α) (h:m < xs.length) (hq:¬xs.getD m d=mk (k+cntA ct (xs.take m)) (xs.getD m d)):heldA mk ct k xs=-1:=by
 unfold heldA
 rw[decide_eq_false]
 intro e
 apply hq
 have e2:xs=markA mk ct k (xs.take (m+1))++markA mk ct (k+cntA ct (xs.take (m+1))) (xs.drop (m+1)):=by rw[←markA_append,List.take_append_drop];exact e
 have e3:xs[m]?=(markA mk ct k (xs.take (m+1))++markA mk ct (k+cntA ct (xs.take (m+1))) (xs.drop (m+1)))[m]?:=by rw[←e2]
 rw[List.getElem?_append_left (by rw[markA_len,List.length_take];omega),markA_next d h,List.getElem?_append_right (by rw[markA_len,List.length_take];omega),markA_len,List.length_take,(by omega:m - min m xs.length=0)] at e3
 have e4:xs[m]?.getD d=mk (k+cntA ct (xs.take m)) (xs.getD m d):=by rw[e3];rfl
 rw[←List.getD_eq_getElem?_getD] at e4;exact e4
theorem held_done [DecidableEq α] (h:xs.length≤m) (hp:xs.take m=markA mk ct k (xs.take m)):heldA mk ct k xs=k+cntA ct xs:=by
 rw[List.take_of_length_le h] at hp
 unfold heldA;rw[decide_eq_true hp]
theorem heldA_iff [DecidableEq α]:heldA mk ct k xs=k+cntA ct xs∨(heldA mk ct k xs=-1∧xs≠markA mk ct k xs):=by
 unfold heldA
 by_cases h:xs=markA mk ct k xs
 · rw[decide_eq_true h];exact .inl rfl
 · rw[decide_eq_false h];exact .inr ⟨rfl,h⟩
theorem markA_cnt (h:∀k x,ct (mk k x)=ct x):cntA ct (markA mk ct k xs)=cntA ct xs:=by
 induction xs generalizing k with
 | nil=>rfl
 | cons x l ih=>simp only[markA,cntA,h,ih]
theorem markA_idem (h:∀k x,ct (mk k x)=ct x) (h2:∀k x,mk k (mk k x)=mk k x):markA mk ct k (markA mk ct k xs)=markA mk ct k xs:=by
 induction xs generalizing k with
 | nil=>rfl
 | cons x l ih=>simp only[markA,h,h2,ih]
theorem heldA_mark [DecidableEq α] (h:∀k x,ct (mk k x)=ct x) (h2:∀k x,mk k (mk k x)=mk k x):heldA mk ct k (markA mk ct k xs)=k+cntA ct xs:=by
 unfold heldA;rw[decide_eq_true (markA_idem h h2).symm,markA_cnt h]
theorem getD_setk {d x:α} (h:m < xs.length):(xs.set m x).getD m d=x:=by
 rw[List.getD_eq_getElem?_getD,List.getElem?_set_self h];rfl
def fillT (z:α) (xs:List α) (m:Nat):List α:=xs.take m++List.replicate (xs.length - m) z
theorem fillT_len {z:α} (h:m≤xs.length):(fillT z xs m).length=xs.length:=by
 simp only[fillT,List.length_append,List.length_take,List.length_replicate];omega
theorem fillT_zero {z:α}:fillT z xs 0=List.replicate xs.length z:=by simp[fillT]
theorem fillT_all {z:α} (h:xs.length≤m):fillT z xs m=xs:=by
 unfold fillT;rw[List.take_of_length_le h,Nat.sub_eq_zero_of_le h];simp
theorem fillT_set {z:α} (d:α) (h:m < xs.length):(fillT z xs m).set m (xs.getD m d)=fillT z xs (m+1):=by
 unfold fillT
 rw[take_next (d:=d) h,List.set_append_right _ _ (by rw[List.length_take];omega),List.length_take,(by omega:m - min m xs.length=0),show xs.length - m=(xs.length - (m+1))+1 by omega,List.replicate_succ,List.set_cons_zero,List.append_assoc]
 rfl
def eqD (x y:α) [DecidableEq α]:Bool:=decide (x=y)
theorem eqD_t [DecidableEq α] {x y:α} (h:eqD x y=true):x=y:=of_decide_eq_true h
theorem eqD_f [DecidableEq α] {x y:α} (h:eqD x y=false):¬x=y:=of_decide_eq_false h
theorem eqD_rfl [DecidableEq α] (x:α):eqD x x=true:=decide_eq_true rfl
theorem eq_next [DecidableEq α] {ys:List α} (d:α) (hx:m < xs.length) (hl:xs.length=ys.length) (hp:xs.take m=ys.take m) (hq:eqD (xs.getD m d) (ys.getD m d)=true):xs.take (m+1)=ys.take (m+1):=by
 rw[take_next (d:=d) hx,take_next (d:=d) (by omega),hp,eqD_t hq]
theorem eq_done [DecidableEq α] {ys:List α} (hx:xs.length≤m) (hl:xs.length=ys.length) (hp:xs.take m=ys.take m):eqD xs ys=true:=by
 rw[List.take_of_length_le hx,List.take_of_length_le (by omega)] at hp;exact decide_eq_true hp
theorem eq_stop [DecidableEq α] {ys:List α} (d:α) (hq:eqD (xs.getD m d) (ys.getD m d)=false):eqD xs ys=false:=by
 refine decide_eq_false ?_;rintro rfl;exact eqD_f hq rfl
theorem eq_len [DecidableEq α] {ys:List α} (hq:¬xs.length=ys.length):eqD xs ys=false:=by
 refine decide_eq_false ?_;rintro rfl;exact hq rfl
end
theorem heldA_neg {α:Type} [DecidableEq α] {mk:Int→α→α} {ct:α→Nat} {xs:List α} {k:Int} (hk:0≤k) (c:heldA mk ct k xs < 0):heldA mk ct k xs=-1∧¬xs=markA mk ct k xs:=by
 rcases @heldA_iff α mk ct xs k _ with h|⟨h,h2⟩
 · omega
 · exact⟨h,h2⟩
theorem heldA_pos {α:Type} [DecidableEq α] {mk:Int→α→α} {ct:α→Nat} {xs:List α} {k:Int} (c:0≤heldA mk ct k xs):heldA mk ct k xs=k+cntA ct xs∧xs=markA mk ct k xs:=by
 unfold heldA at *
 by_cases h:xs=markA mk ct k xs
 · rw[decide_eq_true h];exact⟨rfl,h⟩
 · rw[decide_eq_false h] at c;simp only at c;omega
def mkI (k:Int) (_:Int):Int:=k
def ctI (_:Int):Nat:=1
abbrev markL (k:Int) (t:List Int):List Int:=markA mkI ctI k t
abbrev markLL (k:Int) (t:List (List Int)):List (List Int):=markA markL List.length k t
theorem cntI (t:List Int):cntA ctI t=t.length:=by
 induction t with
 | nil=>rfl
 | cons x l ih=>simp[cntA,ih,ctI];omega
def ctN (n:NodeD):Nat:=3+n.2.2.2.length
theorem markL_idem (k:Int) (t:List Int):markL k (markL k t)=markL k t:=markA_idem (fun _ _=>rfl) (fun _ _=>rfl)
def szL (t:List (List Int)):Nat:=t.length+cntA List.length t
def ctP (p:PatchD):Nat:=cntA List.length p.2.1+cntA ctN p.2.2.1+p.2.2.2.length
theorem cnt_mem {α:Type} {ct:α→Nat} {xs:List α} {x:α} (h:x∈xs):ct x≤cntA ct xs:=by
 induction xs with
 | nil=>cases h
 | cons y l ih =>
   simp only[cntA]
   rcases List.mem_cons.1 h with rfl|h
   · omega
   · have:=ih h;omega
open Go.RowKit
def clipV (a x:Int):Int:=max (-a) (min x a)
def uns (x:Int):Int:=x % 4294967296
def lookV (t:List Int) (x:Int):Int:=t.getD ((t.length * uns x) / 4294967296).toNat 0
def shrV (x a:Int):Int:=x.fdiv (2 ^ (min a.toNat 64))
def xorC (x:Int):Int:=IntKind.i64.wrap ((BitVec.ofInt IntKind.i64.bits x ^^^ BitVec.ofInt IntKind.i64.bits 2734686208).toNat:Int)
def noiseV (s:Int):Int:=match decide (s % 2=1) with|true=>wrap32 (xorC (uns s / 2))|false=>wrap32 (uns s / 2)
def outV (kd a:Int) (tabs:List (List Int)) (i s:List Int):Int :=
 if kd=1 then i.getD 0 0 else if kd=2 then a else if kd=3 then wrap32 (i.getD 0 0+i.getD 1 0) else if kd=4 then wrap32 (i.getD 0 0 - i.getD 1 0) else if kd=5 then wrap32 (a * i.getD 0 0)
 else if kd=6 then s.getD 0 0 else if kd=7 then wrap32 (s.getD 0 0+i.getD 0 0) else if kd=8 then wrap32 (i.getD 0 0 - s.getD 0 0) else if kd=9 then wrap32 (i.getD 0 0 * i.getD 1 0)
 else if kd=10 then shrV (i.getD 0 0) a else if kd=11 then clipV a (i.getD 0 0) else if kd=12 then s.getD 0 0 else if kd=13 then lookV (tabs.getD a.toNat []) (i.getD 0 0)
 else if kd=14 then s.getD 0 0 else if kd=15 then (match decide (0≤i.getD 0 0) with|true=>i.getD 1 0|false=>i.getD 2 0) else if kd=16 then (match decide (0 < i.getD 1 0) with|true=>i.getD 0 0|false=>s.getD 0 0) else wrap32 (i.getD 0 0+a * s.getD 0 0)
def nextV (kd:Int) (i s:List Int) (out:Int):List Int :=
 if kd=6 then s.drop 1++[i.getD 0 0] else if kd=7 then [out] else if kd=8 then [i.getD 0 0] else if kd=12 then [wrap32 (s.getD 0 0+i.getD 0 0)] else if kd=14 then [noiseV (s.getD 0 0)]
 else if kd=16 then [out] else if kd=17 then s.drop 1++[out] else []
def startV (n:NodeD):List Int :=
 if n.1=6 then List.replicate n.2.1.toNat 0 else if n.1=17 then List.replicate n.2.2.1.toNat 0 else if n.1=7 then [0] else if n.1=8 then [0] else if n.1=16 then [0]
 else if n.1=12 then [n.2.1] else if n.1=14 then [n.2.1] else []
def insV (n:NodeD) (frame vals:List Int):List Int:=match decide (n.1=1) with|true=>[frame.getD n.2.1.toNat 0]|false=>n.2.2.2.map fun i=>vals.getD i.toNat 0
def insN (n:NodeD):Nat:=match decide (n.1=1) with|true=>1|false=>n.2.2.2.length
theorem smp_iff {x:Int}:smp x=true↔-2147483648≤x∧x≤2147483647:=inR_iff
theorem smp_w (x:Int):smp (wrap32 x)=true:=smp_iff.2 (wrap32_bd x)
theorem smps_iff {xs:List Int}:smps xs=true↔∀x∈xs,smp x=true:=List.all_eq_true
theorem smps_at {xs:List Int} (h:smps xs=true) (i:Nat):smp (xs.getD i 0)=true:=by
 by_cases hi:i < xs.length
 · exact smps_iff.1 h _ (getD_mem hi)
 · rw[List.getD_eq_getElem?_getD,List.getElem?_eq_none (by omega)];rfl
theorem nodeB_parts {n:NodeD} {tb:Int} (h:nodeB n tb=true):1≤n.1∧n.1≤17∧(match decide ((kT n.1).2.1≤(kT n.1).2.2.1) with|true=>inR n.2.1 (kT n.1).2.1 (kT n.1).2.2.1|false=>decide (n.2.1=0))=true ∧
 (match (kT n.1).2.2.2.2 with|true=>inR n.2.2.1 1 16|false=>decide (n.2.2.1=0))=true∧(n.2.2.2.length:Int)=(kT n.1).1∧(n.1=13→n.2.1 < tb):=by
 simp only[nodeB,Bool.and_eq_true,decide_eq_true_eq,Bool.or_eq_true,Bool.not_eq_true',decide_eq_false_iff_not] at h
 obtain⟨⟨⟨⟨⟨h1,h2⟩,h3⟩,h4⟩,h5⟩,h6⟩:=h
 obtain⟨h7,h8⟩:=inR_iff.1 h1
 exact⟨h7,h8,h2,h3,h5,fun e=>by rcases h6 with h6|h6;exact absurd e h6;exact h6⟩
theorem nodeB_ab {kd a b tb:Int} {fr:List Int} (h:nodeB (kd,a,b,fr) tb=true):smp a=true∧(kd=1→0≤a∧a≤3)∧(kd=6→1≤a∧a≤16)∧(kd=10→0≤a∧a≤31)∧(kd=11→0≤a)∧(kd=13→0≤a∧a≤3∧a < tb)∧(kd=17→1≤b∧b≤16) ∧
 (kd=3∨kd=4∨kd=9∨kd=16→fr.length=2)∧(kd=5∨kd=6∨kd=7∨kd=8∨kd=10∨kd=11∨kd=12∨kd=13∨kd=17→fr.length=1)∧(kd=15→fr.length=3)∧(kd=1∨kd=2∨kd=14→fr.length=0):=by
 obtain⟨h1,h2,h3,h4,h5,h6⟩:=nodeB_parts h
 simp only at h1 h2 h3 h4 h5 h6
 obtain⟨m,rfl⟩:=Int.eq_ofNat_of_zero_le (by omega:0≤kd)
 have c:m=1∨m=2∨m=3∨m=4∨m=5∨m=6∨m=7∨m=8∨m=9∨m=10∨m=11∨m=12∨m=13∨m=14∨m=15∨m=16∨m=17:=by omega
 rcases c with rfl|rfl|rfl|rfl|rfl|rfl|rfl|rfl|rfl|rfl|rfl|rfl|rfl|rfl|rfl|rfl|rfl<;>simp[kT,kindT,inR,smp,-Int.not_lt] at h3 h4 h5 h6 ⊢<;>(try subst h5)<;>(try simp)<;>(try omega)
theorem startV_len (n:NodeD):(startV n).length=(if n.1=6 then n.2.1.toNat else if n.1=17 then n.2.2.1.toNat else if n.1=7∨n.1=8∨n.1=16∨n.1=12∨n.1=14 then 1 else 0):=by
 unfold startV
 repeat' split
 all_goals first|(simp;done)|(simp_all;done)|omega
def stepOk (n:NodeD) (tabs:List (List Int)) (i s:List Int):Prop:=nodeB n tabs.length=true∧tabsB tabs=true∧i.length=insN n∧s.length=(startV n).length∧smps i=true∧smps s=true
theorem tabsB_parts {ts:List (List Int)} (h:tabsB ts=true):ts.length≤4∧∀t∈ts,(t.length=2∨t.length=4∨t.length=8∨t.length=16)∧smps t=true:=by
 simp only[tabsB,Bool.and_eq_true,decide_eq_true_eq] at h
 refine⟨h.2,fun t ht=>?_⟩
 have:=List.all_eq_true.1 h.1 t ht
 simp only[tabB,Bool.and_eq_true,Bool.or_eq_true,decide_eq_true_eq] at this
 exact⟨by omega,this.2⟩
theorem shrV_smp {x a:Int} (h:smp x=true):smp (shrV x a)=true:=by
 rw[smp_iff] at *
 unfold shrV
 have hp:(1:Int)≤2 ^ (min a.toNat 64):=by
  have:(0:Int) < 2 ^ (min a.toNat 64):=Int.pow_pos (by omega)
  omega
 generalize (2:Int) ^ (min a.toNat 64)=m at *
 rw[Int.fdiv_eq_ediv_of_nonneg _ (by omega)]
 constructor
 · exact Int.le_trans (by omega) ((Int.le_ediv_iff_mul_le (by omega)).2 (by
    have:-2147483648 * m≤-2147483648 * 1:=Int.mul_le_mul_of_nonpos_left (by omega) hp
    omega):-2147483648≤x / m)
 · rcases Int.lt_or_le x 0 with hx|hx
   · have:=Int.ediv_neg_of_neg_of_pos hx (by omega:0 < m);omega
   · have:=Int.ediv_le_self m hx;omega
theorem look_smp {t:List Int} {x:Int} (h:smps t=true):smp (lookV t x)=true:=smps_at h _
theorem smp_ite {c:Prop} [Decidable c] {x y:Int} (h1:c→smp x=true) (h2:¬c→smp y=true):smp (if c then x else y)=true:=by
 by_cases h:c
 · rw[if_pos h];exact h1 h
 · rw[if_neg h];exact h2 h
theorem outV_smp {n:NodeD} {tabs:List (List Int)} {i s:List Int} (h:stepOk n tabs i s):smp (outV n.1 n.2.1 tabs i s)=true:=by
 obtain⟨kd,a,b,fr⟩:=n
 obtain⟨h1,h2,h3,h4,h5,h6⟩:=h
 obtain⟨q1,q2,q3,q4,q5,q6,_⟩:=nodeB_ab h1
 have hi:=smps_at h5
 have hs:=smps_at h6
 unfold outV
 simp only
 refine smp_ite (fun _=>hi 0) fun _=>?_
 refine smp_ite (fun _=>q1) fun _=>?_
 refine smp_ite (fun _=>smp_w _) fun _=>?_
 refine smp_ite (fun _=>smp_w _) fun _=>?_
 refine smp_ite (fun _=>smp_w _) fun _=>?_
 refine smp_ite (fun _=>hs 0) fun _=>?_
 refine smp_ite (fun _=>smp_w _) fun _=>?_
 refine smp_ite (fun _=>smp_w _) fun _=>?_
 refine smp_ite (fun _=>smp_w _) fun _=>?_
 refine smp_ite (fun _=>shrV_smp (hi 0)) fun _=>?_
 refine smp_ite (fun e=>?_) fun _=>?_
 · have:=q5 e
   have h0:=smp_iff.1 (hi 0)
   rw[smp_iff] at q1 ⊢
   unfold clipV;omega
 refine smp_ite (fun _=>hs 0) fun _=>?_
 refine smp_ite (fun _=>?_) fun _=>?_
 · refine look_smp ?_
   by_cases ha:a.toNat < tabs.length
   · exact((tabsB_parts h2).2 _ (getD_mem ha)).2
   · rw[List.getD_eq_getElem?_getD,List.getElem?_eq_none (by omega)];rfl
 refine smp_ite (fun _=>hs 0) fun _=>?_
 refine smp_ite (fun _=>?_) fun _=>?_
 · cases decide (0≤i.getD 0 0)
   · exact hi 2
   · exact hi 1
 refine smp_ite (fun _=>?_) fun _=>smp_w _
 cases decide (0 < i.getD 1 0)
 · exact hs 0
 · exact hi 0
theorem noiseV_smp (s:Int):smp (noiseV s)=true:=by unfold noiseV;split<;>exact smp_w _
theorem smps_drop {xs:List Int} (h:smps xs=true) (n:Nat):smps (xs.drop n)=true:=smps_iff.2 fun x hx=>smps_iff.1 h x (List.mem_of_mem_drop hx)
theorem smps_snoc {xs:List Int} {x:Int} (h:smps xs=true) (hx:smp x=true):smps (xs++[x])=true:=by
 simp only[smps,List.all_append,Bool.and_eq_true] at *;exact⟨h,by simpa using hx⟩
theorem smps_one {x:Int} (hx:smp x=true):smps [x]=true:=by simpa [smps] using hx
theorem nextV_ok {n:NodeD} {tabs:List (List Int)} {i s:List Int} {o:Int} (h:stepOk n tabs i s) (ho:smp o=true):(nextV n.1 i s o).length=(startV n).length∧smps (nextV n.1 i s o)=true:=by
 obtain⟨kd,a,b,fr⟩:=n
 obtain⟨h1,h2,h3,h4,h5,h6⟩:=h
 obtain⟨q1,_,q3,_,_,_,q7,_⟩:=nodeB_ab h1
 have hi:=smps_at h5
 have hs:=smps_at h6
 rw[startV_len] at h4 ⊢
 simp only[nextV] at h4 ⊢
 split
 · rename_i e;simp only[e,if_true] at h4 ⊢;have:=q3 e;exact⟨by simp only[List.length_append,List.length_drop,List.length_cons,List.length_nil];omega,smps_snoc (smps_drop h6 _) (hi 0)⟩
 split
 · rename_i e;subst e;exact⟨by simp,smps_one ho⟩
 split
 · rename_i e;subst e;exact⟨by simp,smps_one (hi 0)⟩
 split
 · rename_i e;subst e;exact⟨by simp,smps_one (smp_w _)⟩
 split
 · rename_i e;subst e;exact⟨by simp,smps_one (noiseV_smp _)⟩
 split
 · rename_i e;subst e;exact⟨by simp,smps_one ho⟩
 split
 · rename_i e;subst e;have:=q7 rfl;simp at h4;exact⟨by simp;omega,smps_snoc (smps_drop h6 _) ho⟩
 · rename_i e1 e2 e3 e4 e5 e6 e7
   rw[if_neg (by omega)]
   exact⟨rfl,rfl⟩
theorem node_at {p:PatchD} (h:formedB p=true) {i:Nat} (hi:i < p.2.2.1.length):nodeIn p (p.2.2.1.getD i n0)=true:=List.all_eq_true.1 (formedB_parts h).2.2.2.2.2.2 _ (getD_mem hi)
def outP (p:PatchD) (s:List (List Int)) (fr v:List Int) (i:Nat):Int:=outV (p.2.2.1.getD i n0).1 (p.2.2.1.getD i n0).2.1 p.2.1 (insV (p.2.2.1.getD i n0) fr v) (s.getD i [])
def nextP (p:PatchD) (s:List (List Int)) (fr v:List Int) (o:Int) (i:Nat):List Int:=nextV (p.2.2.1.getD i n0).1 (insV (p.2.2.1.getD i n0) fr v) (s.getD i []) o
theorem getD_set {α:Type} {l:List α} {i j:Nat} {x d:α} (hi:i < l.length):(l.set i x).getD j d=if i=j then x else l.getD j d:=by
 rw[List.getD_eq_getElem?_getD,List.getElem?_set]
 split
 · rename_i e;subst e;simp[hi]
 · rw[List.getD_eq_getElem?_getD]
theorem smps_set {l:List Int} {i:Nat} {x:Int} (h:smps l=true) (hx:smp x=true):smps (l.set i x)=true:=smps_iff.2 fun y hy=>by
 rcases List.mem_or_eq_of_mem_set hy with hy|rfl
 · exact smps_iff.1 h y hy
 · exact hx
def GoodO (ns:List NodeD) (o:List Int):Prop:=∀j,j < o.length→∃i:Nat,o.getD j 0=(i:Int)∧i < ns.length∧(i:Int) ∉ o.take j∧∀f∈waitsL (ns.getD i n0),f∈o.take j
theorem GoodO.ext {ns:List NodeD} {o:List Int} (h:GoodO ns o) {i:Nat} (hi:nextR ns o=some i):GoodO ns (o++[(i:Int)]):=by
 intro j hj
 rw[List.length_append] at hj
 simp only[List.length_cons,List.length_nil] at hj
 by_cases hj':j < o.length
 · obtain⟨i',h1,h2,h3,h4⟩:=h j hj'
   refine⟨i',?_,h2,?_,?_⟩
   · rw[List.getD_eq_getElem?_getD,List.getElem?_append_left hj',←List.getD_eq_getElem?_getD];exact h1
   · rw[List.take_append_of_le_length (by omega)];exact h3
   · rw[List.take_append_of_le_length (by omega)];exact h4
 · have e:j=o.length:=by omega
   subst e
   have hf:=List.find?_some hi
   have hm:=List.mem_range.1 (List.mem_of_find?_eq_some hi)
   simp only[readyB,Bool.and_eq_true,Bool.not_eq_true',List.all_eq_true,List.contains_eq_mem,decide_eq_true_eq,decide_eq_false_iff_not] at hf
   refine⟨i,by simp[List.getD],hm,?_,?_⟩
   · rw[List.take_append_of_le_length (by omega),List.take_length];exact hf.1
   · rw[List.take_append_of_le_length (by omega),List.take_length];exact hf.2
theorem pigeon:∀(n:Nat) (l:List Int),l.Nodup→(∀x∈l,0≤x∧x < n)→l.length≤n:=by
 intro n
 induction n with
 | zero =>
   intro l _ h
   cases l with
   | nil=>simp
   | cons x l=>have:=h x List.mem_cons_self;omega
 | succ n ih =>
   intro l hn h
   have h1:=ih (l.erase n) (hn.erase _) fun x hx=>by
    have:=h x (List.mem_of_mem_erase hx)
    have hne:x≠n:=by rintro rfl;exact hn.not_mem_erase hx
    omega
   have h2:=@List.length_erase _ _ _ (n:Int) l
   split at h2<;>omega
theorem GoodO.at {ns:List NodeD} {o:List Int} (h:GoodO ns o) {x:Int} (hx:x∈o):∃i:Nat,x=i∧i < ns.length:=by
 obtain⟨j,hj,rfl⟩:=List.mem_iff_getElem.1 hx
 obtain⟨i,h1,h2,_⟩:=h j hj
 exact⟨i,by rw[←h1];simp[List.getD,hj],h2⟩
def stepC (n:NodeD) (tabs:List (List Int)) (i s:List Int):Prop:=(∃tb:Int,nodeB n tb=true∧(n.1=13→tb=tabs.length∧tabsB tabs=true))∧i.length=insN n∧s.length=(startV n).length∧smps i=true∧smps s=true
theorem stepOk.c {n:NodeD} {tabs:List (List Int)} {i s:List Int} (h:stepOk n tabs i s):stepC n tabs i s:=⟨⟨_,h.1,fun _=>⟨rfl,h.2.1⟩⟩,h.2.2.1,h.2.2.2.1,h.2.2.2.2.1,h.2.2.2.2.2⟩
theorem stepOk.c6 {n:NodeD} {tabs ts:List (List Int)} {i s:List Int} (h:stepOk n tabs i s) (h6:n.1=6):stepC n ts i s:=⟨⟨_,h.1,fun e=>by omega⟩,h.2.2.1,h.2.2.2.1,h.2.2.2.2.1,h.2.2.2.2.2⟩
theorem stepC_parts {kd a b:Int} {fr:List Int} {tabs:List (List Int)} {i s:List Int} (h:stepC (kd,a,b,fr) tabs i s) :
 1≤kd∧kd≤17∧(kd=3∨kd=4∨kd=9∨kd=16→i.length=2)∧(kd=1∨kd=5∨kd=6∨kd=7∨kd=8∨kd=10∨kd=11∨kd=12∨kd=13∨kd=17→i.length=1)∧(kd=15→i.length=3) ∧
 (kd=6→s.length=a.toNat∧1≤a∧a≤16)∧(kd=17→s.length=b.toNat∧1≤b∧b≤16)∧(kd=7∨kd=8∨kd=16∨kd=12∨kd=14→s.length=1)∧(kd=10→0≤a∧a≤31)∧(kd=11→0≤a) ∧
 (kd=13→0≤a∧a≤3∧a < tabs.length∧1≤(tabs.getD a.toNat []).length∧(tabs.getD a.toNat []).length≤16)∧-2147483648≤a∧a≤2147483647:=by
 obtain⟨⟨tb,h1,h2⟩,h3,h4,h5,h6⟩:=h
 obtain⟨q1,q2,q3,q4,q5,q6,q7,q8,q9,q10,q11⟩:=nodeB_ab h1
 obtain⟨r1,r2,_⟩:=nodeB_parts h1
 rw[startV_len] at h4
 simp only at h2 h4 r1 r2
 have hi:i.length=if kd=1 then 1 else fr.length:=by
  rw[h3];unfold insN;simp only
  by_cases hk:kd=1
  · rw[decide_eq_true hk,if_pos hk]
  · rw[decide_eq_false hk,if_neg hk]
 rw[smp_iff] at q1
 refine⟨r1,r2,fun e=>?_,fun e=>?_,fun e=>?_,fun e=>?_,fun e=>?_,fun e=>?_,q4,q5,fun e=>?_,q1.1,q1.2⟩
 · rw[hi,if_neg (by omega)];exact q8 e
 · rw[hi];split;· rfl
   · exact q9 (by omega)
 · rw[hi,if_neg (by omega)];exact q10 e
 · rw[if_pos e] at h4;exact⟨h4,q3 e⟩
 · rw[if_neg (by omega),if_pos e] at h4;exact⟨h4,q7 e⟩
 · rw[if_neg (by omega),if_neg (by omega),if_pos (by omega)] at h4;exact h4
 · obtain⟨e1,e2⟩:=h2 e
   obtain⟨a1,a2,a3⟩:=q6 e
   have hlt:a.toNat < tabs.length:=by omega
   have:=((tabsB_parts e2).2 _ (getD_mem (d:=[]) hlt)).1
   exact⟨a1,a2,by omega,by omega,by omega⟩
theorem stepC_smp {kd a b:Int} {fr:List Int} {tabs:List (List Int)} {i s:List Int} (h:stepC (kd,a,b,fr) tabs i s) (j:Nat):(-2147483648≤i.getD j 0∧i.getD j 0≤2147483647)∧-2147483648≤s.getD j 0∧s.getD j 0≤2147483647 :=
 ⟨smp_iff.1 (smps_at h.2.2.2.1 j),smp_iff.1 (smps_at h.2.2.2.2 j)⟩
def nodeC (n:NodeD):Prop:=∃tb:Int,nodeB n tb=true
theorem nodeC_parts {kd a b:Int} {fr:List Int} (h:nodeC (kd,a,b,fr)):1≤kd∧kd≤17∧(kd=6→1≤a∧a≤16)∧(kd=17→1≤b∧b≤16):=by
 obtain⟨tb,h⟩:=h
 obtain⟨q1,q2,q3,q4,q5,q6,q7,_⟩:=nodeB_ab h
 obtain⟨r1,r2,_⟩:=nodeB_parts h
 exact⟨r1,r2,q3,q7⟩
theorem w3264 (n:Int):IntKind.i64.wrap (IntKind.i32.wrap n)=wrap32 n:=by
 rw[show IntKind.i32.wrap n=wrap32 n by simp[IntKind.wrap,wrap32,IntKind.bits,IntKind.signed]<;>omega,wrapI (by have:=wrap32_bd n;omega)]
theorem w32_wrap (n:Int):wrap32 (IntKind.i64.wrap n)=wrap32 n:=by
 rw[show IntKind.i64.wrap n=wrap64 n by simp[IntKind.wrap,wrap64,IntKind.bits,IntKind.signed]<;>omega,wrap32_64]
theorem unsE (n:Int):IntKind.i64.wrap (IntKind.u32.wrap n)=uns n:=by
 rw[show IntKind.u32.wrap n=uns n by simp[IntKind.wrap,uns,IntKind.bits,IntKind.signed]<;>omega,wrapI (by unfold uns;omega)]
theorem uns_bd (n:Int):0≤uns n∧uns n≤4294967295:=by unfold uns;omega
theorem andM (n:Int):IntKind.i64.wrap ((BitVec.ofInt IntKind.i64.bits n &&& BitVec.ofInt IntKind.i64.bits 4294967295).toNat:Int)=uns n:=mask32 n
theorem nextV_none {kd:Int} {i s:List Int} {o:Int} (h1:kd≠6) (h2:kd≠7) (h3:kd≠8) (h4:kd≠12) (h5:kd≠14) (h6:kd≠16) (h7:kd≠17):nextV kd i s o=[]:=by
 unfold nextV;rw[if_neg h1,if_neg h2,if_neg h3,if_neg h4,if_neg h5,if_neg h6,if_neg h7]
theorem startV_none {kd a b:Int} {fr:List Int} (h1:kd≠6) (h2:kd≠7) (h3:kd≠8) (h4:kd≠12) (h5:kd≠14) (h6:kd≠16) (h7:kd≠17):startV (kd,a,b,fr)=[]:=by
 unfold startV;simp[h1,h2,h3,h4,h5,h6,h7]
theorem fdiv32 (n:Int):n.fdiv (2 ^ (min (Int.toNat 32) IntKind.i64.bits))=n / 4294967296:=by
 rw[show (2:Int) ^ (min (Int.toNat 32) IntKind.i64.bits)=4294967296 from rfl,Int.fdiv_eq_ediv_of_nonneg _ (by omega)]
theorem fdiv32' (n:Int):n.fdiv (2 ^ (min 32 64))=n / 4294967296:=fdiv32 n
theorem clip_eq {a x:Int} (h:0≤a∧a≤2147483647):(if (if x < a then x else a) > IntKind.i64.wrap (0 - a) then (if x < a then x else a) else IntKind.i64.wrap (0 - a))=clipV a x:=by
 rw[wrapI (by omega)];unfold clipV;(repeat' split)<;>omega
theorem look_bd {t:List Int} {x:Int} (h:1≤t.length) (h2:t.length≤16):0≤(t.length:Int) * uns x∧(t.length:Int) * uns x≤68719476720∧0≤((t.length:Int) * uns x) / 4294967296∧((t.length:Int) * uns x) / 4294967296 < t.length:=by
 obtain⟨a1,a2⟩:=uns_bd x
 generalize uns x=u at *
 have b1:=Int.mul_nonneg (show (0:Int)≤t.length by omega) a1
 have b2:(t.length:Int) * u≤t.length * 4294967295:=Int.mul_le_mul_of_nonneg_left a2 (by omega)
 refine⟨b1,by omega,Int.ediv_nonneg b1 (by omega),?_⟩
 exact Int.ediv_lt_of_lt_mul (by omega) (by omega)
theorem and1 (n:Int):IntKind.i64.wrap ((BitVec.ofInt IntKind.i64.bits n &&& BitVec.ofInt IntKind.i64.bits 1).toNat:Int)=n % 2:=by
 have e:BitVec.ofInt IntKind.i64.bits 1=BitVec.ofNat 64 (2 ^ 1 - 1):=rfl
 have h:((BitVec.ofInt 64 n &&& BitVec.ofNat 64 (2 ^ 1 - 1)).toNat:Int)=n % 2:=by
  rw[BitVec.toNat_and,BitVec.toNat_ofNat,show (2 ^ 1 - 1) % 2 ^ 64=2 ^ 1 - 1 from rfl,Nat.and_two_pow_sub_one_eq_mod,BitVec.toNat_ofInt]
  omega
 rw[show ((BitVec.ofInt IntKind.i64.bits n &&& BitVec.ofInt IntKind.i64.bits 1).toNat:Int)=n % 2 from h]
 exact wrapI (by omega)
theorem xorE (n:Int):IntKind.i64.wrap ((BitVec.ofInt IntKind.i64.bits n ^^^ BitVec.ofInt IntKind.i64.bits 2734686208).toNat:Int)=xorC n:=rfl
theorem noiseV_t {s:Int} (h:s % 2=1):noiseV s=wrap32 (xorC (uns s / 2)):=by unfold noiseV;rw[decide_eq_true h]
theorem noiseV_f {s:Int} (h:¬s % 2=1):noiseV s=wrap32 (uns s / 2):=by unfold noiseV;rw[decide_eq_false h]
theorem map_next3 {α β:Type} {f:α→β} {xs:List α} {k:Nat} (d:α) (h:k < xs.length):(xs.take k).map f++[f (xs.getD k d)]=(xs.take (k+1)).map f:=by
 rw[take_next (d:=d) h,List.map_append,List.map_cons,List.map_nil]
theorem wrapU {n:Int} (h:0≤n∧n≤9223372036854775807):IntKind.u64.wrap n=n:=by
 simp[IntKind.wrap,IntKind.bits,IntKind.signed];omega
theorem outV_15t {a:Int} {tb:List (List Int)} {i s:List Int} (h:0≤i.getD 0 0):outV 15 a tb i s=i.getD 1 0:=by
 show (match decide (0≤i.getD 0 0) with|true=>i.getD 1 0|false=>i.getD 2 0)=_
 rw[decide_eq_true h]
theorem outV_15f {a:Int} {tb:List (List Int)} {i s:List Int} (h:¬0≤i.getD 0 0):outV 15 a tb i s=i.getD 2 0:=by
 show (match decide (0≤i.getD 0 0) with|true=>i.getD 1 0|false=>i.getD 2 0)=_
 rw[decide_eq_false h]
theorem outV_16t {a:Int} {tb:List (List Int)} {i s:List Int} (h:0 < i.getD 1 0):outV 16 a tb i s=i.getD 0 0:=by
 show (match decide (0 < i.getD 1 0) with|true=>i.getD 0 0|false=>s.getD 0 0)=_
 rw[decide_eq_true h]
theorem outV_16f {a:Int} {tb:List (List Int)} {i s:List Int} (h:¬0 < i.getD 1 0):outV 16 a tb i s=s.getD 0 0:=by
 show (match decide (0 < i.getD 1 0) with|true=>i.getD 0 0|false=>s.getD 0 0)=_
 rw[decide_eq_false h]
theorem andM' (n:Int):IntKind.i64.wrap ((@BitVec.toNat 64 (@HAnd.hAnd (BitVec 64) (BitVec 64) (BitVec 64) (@instHAndOfAndOp (BitVec IntKind.i64.bits) (@BitVec.instAndOp IntKind.i64.bits)) (BitVec.ofInt 64 n) (BitVec.ofInt 64 4294967295)):Nat):Int)=uns n:=andM n
theorem and1' (n:Int):IntKind.i64.wrap ((@BitVec.toNat 64 (@HAnd.hAnd (BitVec 64) (BitVec 64) (BitVec 64) (@instHAndOfAndOp (BitVec IntKind.i64.bits) (@BitVec.instAndOp IntKind.i64.bits)) (BitVec.ofInt 64 n) (BitVec.ofInt 64 1)):Nat):Int)=n % 2:=and1 n
theorem xorE' (n:Int):IntKind.i64.wrap ((@BitVec.toNat 64 (@HXor.hXor (BitVec 64) (BitVec 64) (BitVec 64) (@instHXorOfXorOp (BitVec IntKind.i64.bits) (@BitVec.instXorOp IntKind.i64.bits)) (BitVec.ofInt 64 n) (BitVec.ofInt 64 2734686208)):Nat):Int)=xorC n:=rfl
theorem fdiv1' (n:Int):n.fdiv (2 ^ (min 1 64))=n / 2:=by
 rw[show (2:Int) ^ (min 1 64)=2 from rfl,Int.fdiv_eq_ediv_of_nonneg _ (by omega)]
theorem w32_add2 (x y:Int):wrap32 (IntKind.i64.wrap (x+IntKind.i64.wrap y))=wrap32 (x+y):=by
 rw[w32_wrap]
 have h:=w32_wrap y
 rw[←wrap32_add x (IntKind.i64.wrap y),h,wrap32_add]
theorem wAdd (x y:Int):wrap32 (IntKind.i64.wrap (wrap32 x+wrap32 y))=wrap32 (x+y):=by rw[w32_wrap,wrap32_add]
theorem wSub (x y:Int):wrap32 (IntKind.i64.wrap (wrap32 x - wrap32 y))=wrap32 (x - y):=by rw[w32_wrap,wrap32_sub]
theorem wMul (x y:Int):wrap32 (IntKind.i64.wrap (wrap32 x * wrap32 y))=wrap32 (x * y):=by rw[w32_wrap,wrap32_mul]
theorem wAM (x a s:Int):wrap32 (x+wrap32 (a * s))=wrap32 (x+a * s):=by
 rw[←wrap32_add x (wrap32 (a * s)),wrap32_idem,wrap32_add]
theorem clip_eq2 {a x:Int} (h:0≤a∧a≤2147483647):iMax (IntKind.i64.wrap (0 - a)) (iMin x a)=clipV a x:=by
 rw[wrapI (by omega)];unfold clipV iMax iMin;rw[show (0:Int) - a=-a by omega]
theorem wrap32_t {x:Int} (h:2147483647 < uns x):uns x - 4294967296=wrap32 x:=by unfold uns wrap32 at *;omega
theorem wrap32_f {x:Int} (h:uns x≤2147483647):uns x=wrap32 x:=by unfold uns wrap32 at *;omega
theorem noiseU_t {s:Int} (h:uns s % 2=1):noiseV s=wrap32 (xorC (uns s / 2)):=noiseV_t (by unfold uns at h;omega)
theorem noiseU_f {s:Int} (h:¬uns s % 2=1):noiseV s=wrap32 (uns s / 2):=noiseV_f (by unfold uns at h;omega)
theorem outV_nos {kd a:Int} {tb:List (List Int)} {i s:List Int} (h:kd=1∨kd=2∨kd=3∨kd=4∨kd=5∨kd=9∨kd=10∨kd=11∨kd=13∨kd=15):outV kd a tb i []=outV kd a tb i s:=by
 rcases h with rfl|rfl|rfl|rfl|rfl|rfl|rfl|rfl|rfl|rfl<;>rfl
theorem fitsL_sz {s:List (List Int)} (h:szL s≤1099511627776):fitsL s:=by
 unfold szL at h
 exact⟨by omega,fun l hl=>by have:=cnt_mem (ct:=List.length) hl;omega⟩
theorem cnt_sz (s:List (List Int)):cntA List.length s≤szL s:=by unfold szL;omega
theorem l03B_s {xs:List Int} (h:xs.length≤4000):l03B xs=smps xs:=by unfold l03B;rw[decide_eq_true h];rfl
open Go.RowKit
theorem w32_add3 (x y:Int):wrap32 (x+IntKind.i64.wrap y)=wrap32 (x+y):=by
 rw[←w32_add2 x y,w32_wrap]
end Go.Proofs.Ytenjbehedcegdaa
