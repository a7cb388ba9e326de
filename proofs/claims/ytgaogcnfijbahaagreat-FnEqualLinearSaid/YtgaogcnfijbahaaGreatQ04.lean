/-
  Texts of this claim, joined (part 4). No condition beyond those of the theorems.
-/
import Derived.Test.YtgaogcnfijbahaaGreatQ03
import Derived.Test.YtgaogcnfijbahaaGreatQ02
set_option linter.unusedSimpArgs false
set_option linter.unusedVariables false
namespace Go.Proofs.YtgaogcnfijbahaaGreat
abbrev A6:=Int × Int × Int × List Int
abbrev A3:=Int × List (List Int) × List A6 × List Int
def B4O:List (Int × Int × Int × Bool × Bool) :=
 [(0,0,3,true,false),(0,-2147483648,2147483647,false,false),(2,1,0,true,false),(2,1,0,true,false),(1,-2147483648,2147483647,true,false),(1,1,16,true,false),
  (1,1,0,true,false),(1,1,0,true,false),(2,1,0,false,false),(1,0,31,false,false),(1,0,2147483647,false,false),(1,-2147483648,2147483647,false,false),
  (1,0,3,false,false),(0,-2147483648,2147483647,false,false),(3,1,0,false,false),(2,1,0,false,false),(1,-2147483648,2147483647,true,true)]
def kT (k:Int):Int × Int × Int × Bool × Bool:=B4O.getD (k - 1).toNat (0,0,0,false,false)
def A5Y:List (ByteArray × Int × Int × Int × Bool × Bool) :=
 [(⟨#[105,110,112,117,116]⟩,0,0,3,true,false),
  (⟨#[99,111,110,115,116]⟩,0,-2147483648,2147483647,false,false),
  (⟨#[97,100,100]⟩,2,1,0,true,false),
  (⟨#[115,117,98]⟩,2,1,0,true,false),
  (⟨#[103,97,105,110]⟩,1,-2147483648,2147483647,true,false),
  (⟨#[100,101,108,97,121]⟩,1,1,16,true,false),
  (⟨#[115,117,109]⟩,1,1,0,true,false),
  (⟨#[100,105,102,102]⟩,1,1,0,true,false),
  (⟨#[109,117,108]⟩,2,1,0,false,false),
  (⟨#[115,104,105,102,116]⟩,1,0,31,false,false),
  (⟨#[99,108,105,112]⟩,1,0,2147483647,false,false),
  (⟨#[112,104,97,115,101]⟩,1,-2147483648,2147483647,false,false),
  (⟨#[116,97,98,108,101]⟩,1,0,3,false,false),
  (⟨#[110,111,105,115,101]⟩,0,-2147483648,2147483647,false,false),
  (⟨#[115,101,108,101,99,116]⟩,3,1,0,false,false),
  (⟨#[104,111,108,100]⟩,2,1,0,false,false),
  (⟨#[99,111,109,98]⟩,1,-2147483648,2147483647,true,true)]
theorem B1I {k:Int} (h:J3 k 1 17=true):(A5Y.getD (k - 1).toNat (ByteArray.empty,0,0,0,false,false)).2=kT k∧0≤k - 1∧k - 1 < 17:=by
 obtain⟨h1,h2⟩:=C1.1 h
 refine⟨?_,by omega,by omega⟩
 obtain⟨m,hm⟩:∃m:Nat,k - 1=m:=⟨(k - 1).toNat,by omega⟩
 have hm':m < 17:=by omega
 unfold kT;rw[hm,Int.toNat_natCast];have key:∀m:_root_.Fin 17,(A5Y.getD m.1 (ByteArray.empty,0,0,0,false,false)).2=B4O.getD m.1 (0,0,0,false,false):=by decide
 exact key ⟨m,hm'⟩
def M6 (n:A6) (tables:Int):Bool :=
 J3 n.1 1 17 && (match decide ((kT n.1).2.1≤(kT n.1).2.2.1) with|true=>J3 n.2.1 (kT n.1).2.1 (kT n.1).2.2.1|false=>decide (n.2.1=0)) &&
  (match (kT n.1).2.2.2.2 with|true=>J3 n.2.2.1 1 16|false=>decide (n.2.2.1=0)) && n.2.2.2.all (fun f=>J3 f 0 23) && decide ((n.2.2.2.length:Int)=(kT n.1).1) && (!decide (n.1=13) || decide (n.2.1 < tables))
def A6z (t:List Int):Bool:=(decide (t.length=2) || decide (t.length=4) || decide (t.length=8) || decide (t.length=16)) && D9 t
def A05 (ts:List (List Int)):Bool:=ts.all A6z && decide (ts.length≤4)
def X7 (p:A3) (n:A6):Bool:=M6 n p.2.1.length && N9 p.2.2.1.length n.2.2.2 && !(decide (n.1=1) && decide (p.1≤n.2.1))
def C0 (p:A3):Bool:=J3 p.1 0 4 && A05 p.2.1 && decide (p.2.2.1.length≤24) && decide (p.2.2.2.length≤4) && N9 p.2.2.1.length p.2.2.2 && p.2.2.1.all (X7 p)
def J5 (n:A6):List Int:=match decide (n.1=6) with|true=>[]|false=>n.2.2.2
def n0:A6:=(0,0,0,[])
def U1 (ns:List A6) (out:List Int) (i:Nat):Bool:=!out.contains (i:Int) && (J5 (ns.getD i n0)).all (fun f=>out.contains f)
def A2z (ns:List A6) (out:List Int):Option Nat:=(List.range ns.length).find? (U1 ns out)
def A1Q (ns:List A6):Nat→List Int→List Int
 | 0,out=>out
 | k + 1, out => match A2z ns out with
   | none=>out
   | some i=>A1Q ns k (out++[(i:Int)])
def C6 (ns:List A6):List Int:=A1Q ns ns.length []
def B9 (p:A3):Bool:=C0 p && decide ((C6 p.2.2.1).length=p.2.2.1.length)
theorem A5S {ns:List A6} {out:List Int} (h:∀j,j < ns.length→U1 ns out j=false):A2z ns out=none:=by
 simp only[A2z,List.find?_eq_none,List.mem_range,Bool.not_eq_true];exact h
theorem B0d {ns:List A6} {out:List Int} {i:Nat} (hi:i < ns.length) (h:∀j,j < i→U1 ns out j=false) (k:U1 ns out i=true):A2z ns out=some i:=by
 simp only[A2z]
 have e:List.range ns.length=List.range i++i::(List.range' (i+1) (ns.length - i - 1)):=by
  have:=@List.range'_append_1 0 i (ns.length - i)
  rw[Nat.zero_add,(by omega:i+(ns.length - i)=ns.length)] at this
  rw[List.range_eq_range',List.range_eq_range',←this]
  congr 1
  rw[(by omega:ns.length - i=(ns.length - i - 1)+1),List.range'_succ]
  congr 2
 rw[e,List.find?_append,List.find?_eq_none.2 (fun j hj=>by simpa using h j (List.mem_range.1 hj)),Option.none_or,List.find?_cons_of_pos k]
theorem A9j {ns:List A6} {out:List Int} (k:Nat) (h:A2z ns out=none):A1Q ns k out=out:=by
 cases k with
 | zero=>rfl
 | succ k=>simp only[A1Q,h]
theorem B0Q {ns:List A6} {out:List Int} {k i:Nat} (h:A2z ns out=some i):A1Q ns (k+1) out=A1Q ns k (out++[(i:Int)]):=by simp only[A1Q,h]
theorem C1I {tk:List Bool} {i:Nat} (hi:i < tk.length) (h:tk.getD i false=false):(tk.set i true).count false+1=tk.count false:=by
 induction tk generalizing i with
 | nil=>simp at hi
 | cons b tk ih =>
   cases i with
   | zero=>simp at h;subst h;simp
   | succ i =>
     have:=ih (i:=i) (by simpa using hi) (by simpa using h)
     rw[List.set_cons_succ,List.count_cons,List.count_cons];omega
def OrdI (ns:List A6) (tk:List Bool) (out:List Int):Prop :=
 tk.length=ns.length∧(∀j,j < ns.length→tk.getD j false=out.contains (j:Int))∧A1Q ns (tk.count false) out=C6 ns∧out.length+tk.count false=ns.length
theorem B7y (ns:List A6):OrdI ns (List.replicate ns.length false) []:=by
 refine⟨by simp,fun j hj=>?_,by simp[C6],by simp⟩
 simp only[List.getD,List.getElem?_replicate,hj,if_true,Option.getD_some]
 rfl
theorem B1Z {ns:List A6} {tk:List Bool} {out:List Int} (h:OrdI ns tk out) {i:Nat} (hi:i < ns.length):U1 ns out i=(!tk.getD i false && (J5 (ns.getD i n0)).all (fun f=>out.contains f)):=by
 unfold U1;rw[h.2.1 i hi]
theorem OrdI.next {ns:List A6} {tk:List Bool} {out:List Int} {i:Nat} (h:OrdI ns tk out) (hi:i < ns.length) (hno:∀j,j < i→U1 ns out j=false) (hr:U1 ns out i=true) :
 OrdI ns (tk.set i true) (out++[(i:Int)])∧(tk.set i true).count false+1=tk.count false:=by
 obtain⟨h1,h2,h3,h4⟩:=h
 have hf:tk.getD i false=false:=by
  rw[h2 i hi];unfold U1 at hr;simp only[Bool.and_eq_true,Bool.not_eq_true'] at hr
  exact hr.1
 have hc:=C1I (by omega) hf
 have hn:=B0d hi hno hr
 refine⟨⟨by simpa using h1,fun j hj=>?_,?_,by simp;omega⟩,hc⟩
 · by_cases hji:j=i
   · subst hji;simp[List.getD,h1,hj]
   · have e:(tk.set i true).getD j false=tk.getD j false:=by simp[List.getD,List.getElem?_set_ne (Ne.symm hji)]
     rw[e,h2 j hj];have hne:(j:Int)≠(i:Int):=by omega
     simp[List.contains_eq_mem,hne]
 · rw[←h3,←hc,B0Q hn]
theorem C1v {ns:List A6} {tk:List Bool} {out:List Int} (h:OrdI ns tk out):out.length≤ns.length:=by have:=h.2.2.2;omega
theorem A8 {p:A3} (h:C0 p=true):p.2.2.1.length≤24∧p.2.2.2.length≤4∧A05 p.2.1=true∧0≤p.1∧p.1≤4∧N9 p.2.2.1.length p.2.2.2=true∧p.2.2.1.all (X7 p)=true:=by
 simp only[C0,Bool.and_eq_true,decide_eq_true_eq] at h
 obtain⟨⟨⟨⟨⟨h1,h2⟩,h3⟩,h4⟩,h5⟩,h6⟩:=h
 obtain⟨h7,h8⟩:=C1.1 h1
 exact⟨h3,h4,h2,h7,h8,h5,h6⟩
theorem D6 {α:Type} {l:List α} {i:Nat} {d:α} (h:i < l.length):l.getD i d∈l:=by
 simp[List.getD,h]
theorem U5 {n:Int} {xs:List Int} (h:N9 n xs=true) {f:Int} (hf:f∈xs):0≤f∧f≤n - 1:=C1.1 (List.all_eq_true.1 h f hf)
theorem B2z {p:A3} (h:C0 p=true) {i:Nat} (hi:i < p.2.2.1.length) {f:Int} (hf:f∈J5 (p.2.2.1.getD i n0)):0≤f∧f < p.2.2.1.length:=by
 have h1:=List.all_eq_true.1 (A8 h).2.2.2.2.2.2 _ (D6 (d:=n0) hi)
 simp only[X7,Bool.and_eq_true] at h1
 have hf':f∈(p.2.2.1.getD i n0).2.2.2:=by
  unfold J5 at hf
  split at hf
  · cases hf
  · exact hf
 have:=U5 h1.1.2 hf'
 omega
theorem B7T (n:A6):(J5 n).length≤n.2.2.2.length:=by
 unfold J5;split<;>simp
theorem B0r {α:Type} {xs:List α} {q:α→Bool} {m:Nat} {d:α} (h:m < xs.length):(xs.take (m+1)).all q=((xs.take m).all q && q (xs.getD m d)):=by
 rw[E7 (d:=d) h,List.all_append];simp
theorem C4H {xs:List Int} {m:Int} {k:Nat} (hk:k < xs.length) (h:(xs.take k).contains m=false) (hne:¬xs.getD k 0=m):(xs.take (k+1)).contains m=false:=by
 rw[E7 (d:=0) hk]
 simp only[List.contains_eq_mem,List.mem_append,List.mem_singleton,decide_eq_false_iff_not,not_or] at h ⊢
 exact⟨h,fun e=>hne e.symm⟩
theorem C4E {xs:List Int} {m:Int} {k:Nat} (hk:k < xs.length) (h:xs.getD k 0=m):xs.contains m=true:=by
 simp only[List.contains_eq_mem,decide_eq_true_eq];rw[←h];exact D6 hk
theorem C3x {xs:List Int} {m:Int} {k:Nat} (h:(xs.take k).contains m=false) (hk:¬k < xs.length):xs.contains m=false:=by
 rw[List.take_of_length_le (by omega)] at h;exact h
def A4F (a b:Int):Int:=min a b
def A0f (a b:Int):Int:=max a b
theorem C7X {a b:Int} (h:a≤b):a=A4F a b:=by unfold A4F;omega
theorem C6r {a b:Int} (h:b≤a):b=A4F a b:=by unfold A4F;omega
theorem C7f {a b:Int} (h:b≤a):a=A0f a b:=by unfold A0f;omega
theorem C7g {a b:Int} (h:a≤b):b=A0f a b:=by unfold A0f;omega
def A36 (xs:List Int):Bool:=decide (xs.length≤4000) && D9 xs
def arL:List Int:=[-1,0,0,2,2,1,1,1,1,2,1,1,1,1,0,3,2,1]
def B8J:List Int:=[1,2,5,6,10,11,12,13,14,17]
def A3a (kd a tb:Int):Bool :=
 match decide (kd=1) with
 | true=>J3 a 0 3
 | false => match decide (kd = 6) with
   | true=>J3 a 1 16
   | false => match decide (kd = 10) with
     | true=>J3 a 0 31
     | false => match decide (kd = 11) with
       | true=>J3 a 0 2147483647
       | false => match decide (kd = 13) with
         | true=>J3 a 0 (min (max tb 0) 4 - 1)
         | false => match B8J.contains kd with
           | true=>smp a
           | false=>decide (a=0)
def A5N (kd a bb:Int) (fr:List Int) (tb:Int):Bool :=
 J3 kd 1 17 && A3a kd a tb && decide ((fr.length:Int)=arL.getD kd.toNat 0) && fr.all (fun f=>J3 f 0 23) && (match decide (kd=17) with|true=>J3 bb 1 16|false=>decide (bb=0))
theorem C7Y (a tb:Int):J3 a 0 (min (max tb 0) 4 - 1)=(J3 a 0 3 && decide (a < tb)):=by
 rw[Bool.eq_iff_iff];simp only[J3,Bool.and_eq_true,decide_eq_true_eq];omega
theorem C5j (m:Nat) (h1:1≤m) (h2:m≤17) (a tb:Int) :
 A3a m a tb=((match decide ((kT m).2.1≤(kT m).2.2.1) with|true=>J3 a (kT m).2.1 (kT m).2.2.1|false=>decide (a=0)) && (!decide ((m:Int)=13) || decide (a < tb))) ∧
 arL.getD m 0=(kT m).1∧decide ((m:Int)=17)=(kT m).2.2.2.2:=by
 have c:m=1∨m=2∨m=3∨m=4∨m=5∨m=6∨m=7∨m=8∨m=9∨m=10∨m=11∨m=12∨m=13∨m=14∨m=15∨m=16∨m=17:=by omega
 rcases c with rfl|rfl|rfl|rfl|rfl|rfl|rfl|rfl|rfl|rfl|rfl|rfl|rfl|rfl|rfl|rfl|rfl<;>refine⟨?_,rfl,rfl⟩
 case inr.inr.inr.inr.inr.inr.inr.inr.inr.inr.inr.inr.inl=>exact C7Y a tb
 all_goals(show _=(_ && true);rw[Bool.and_true];rfl)
theorem C8y (a b c d e:Bool):(a && b && c && d && e)=(a && e && d && c && b):=by
 cases a<;>cases b<;>cases c<;>cases d<;>cases e<;>rfl
theorem B1P (kd a bb:Int) (fr:List Int) (tb:Int):A5N kd a bb fr tb=M6 (kd,a,bb,fr) tb:=by
 cases hk:J3 kd 1 17 with
 | false=>simp[A5N,M6,hk]
 | true =>
   obtain⟨h1,h2⟩:=C1.1 hk
   obtain⟨m,rfl⟩:=Int.eq_ofNat_of_zero_le (by omega:0≤kd)
   obtain⟨e1,e2,e3⟩:=C5j m (by omega) (by omega) a tb
   unfold A5N M6;simp only[hk,Bool.true_and,e1,Int.toNat_natCast,e2,e3];exact C8y _ _ _ _ _
theorem C2N (t:List Int):([2,4,8,16].contains (t.length:Int) && A36 t)=A6z t:=by
 have e:([2,4,8,16].contains (t.length:Int))=(decide (t.length=2) || decide (t.length=4) || decide (t.length=8) || decide (t.length=16)):=by
  rw[Bool.eq_iff_iff];simp only[List.contains_eq_mem,List.mem_cons,List.not_mem_nil,or_false,decide_eq_true_eq,Bool.or_eq_true];omega
 unfold A6z A36;rw[e];cases h:(decide (t.length=2) || decide (t.length=4) || decide (t.length=8) || decide (t.length=16)) with
 | false=>rfl
 | true =>
   simp only[Bool.or_eq_true,decide_eq_true_eq] at h
   rw[decide_eq_true (by omega:t.length≤4000)]
   rfl
theorem C0a {p:A3} {n:A6} (h1:M6 n p.2.1.length=true) (h2:¬(n.1=1∧p.1≤n.2.1)) (h3:∀f∈n.2.2.2,f < (p.2.2.1.length:Int)):X7 p n=true:=by
 have h4:n.2.2.2.all (fun f=>J3 f 0 23)=true:=by simp only[M6,Bool.and_eq_true] at h1;exact h1.1.1.2
 have h5:N9 p.2.2.1.length n.2.2.2=true:=by
  refine List.all_eq_true.2 fun f hf=>C1.2 ⟨(C1.1 (List.all_eq_true.1 h4 f hf)).1,?_⟩
  have:=h3 f hf;omega
 simp only[X7,h1,h5,Bool.true_and];simp only[Bool.not_eq_true',Bool.and_eq_false_iff,decide_eq_false_iff_not]
 by_cases h:n.1=1
 · exact .inr fun hh=>h2 ⟨h,hh⟩
 · exact .inl h
theorem B4A {p:A3} {n:A6} (h1:M6 n p.2.1.length=true) (h2:N9 p.2.2.1.length n.2.2.2=true) (h3:¬(n.1=1∧p.1≤n.2.1)):X7 p n=true:=by
 simp only[X7,h1,h2,Bool.true_and];simp only[Bool.not_eq_true',Bool.and_eq_false_iff,decide_eq_false_iff_not]
 by_cases h:n.1=1
 · exact .inr fun hh=>h3 ⟨h,hh⟩
 · exact .inl h
theorem G6 {p:A3} {n:A6} (h:X7 p n=true):M6 n p.2.1.length=true∧N9 p.2.2.1.length n.2.2.2=true∧¬(n.1=1∧p.1≤n.2.1):=by
 simp only[X7,Bool.and_eq_true,Bool.not_eq_true',Bool.and_eq_false_iff,decide_eq_false_iff_not] at h
 exact⟨h.1.1,h.1.2,fun hh=>h.2.elim (fun g=>g hh.1) (fun g=>g hh.2)⟩
def B3n (ns:List A6):List Int × Bool:=match decide ((C6 ns).length=ns.length) with
 | true=>(C6 ns,true)
 | false=>([],false)
abbrev fits (n:Nat):Prop:=n≤1099511627776
def B04 (xs:List (List Int)):Prop:=xs.length≤1099511627776∧∀l∈xs,l.length≤1099511627776
def C8w (xs:List A6):Prop:=xs.length≤1099511627776∧∀l∈xs,l.2.2.2.length≤1099511627776
def B1x (p:A3):Prop:=B04 p.2.1∧C8w p.2.2.1∧p.2.2.2.length≤1099511627776
def B6P (p:A3):Prop:=p.2.1.length≤4∧(∀l∈p.2.1,l.length≤16)∧p.2.2.1.length≤24∧(∀x∈p.2.2.1,x.2.2.2.length≤23)∧p.2.2.2.length≤4
theorem B5t {p:A3} (h:B6P p):B04 p.2.1:=⟨by have:=h.1;omega,fun l hl=>by have:=h.2.1 l hl;omega⟩
theorem B42 {p:A3} (h:B6P p):B1x p:=⟨B5t h,⟨by have:=h.2.2.1;omega,fun l hl=>by have:=h.2.2.2.1 l hl;omega⟩,by have:=h.2.2.2.2;omega⟩
theorem C6l (k:Int):(kT k).1≤3:=by
 have h:∀x∈B4O,x.1≤3:=by decide
 unfold kT
 by_cases hk:(k - 1).toNat < B4O.length
 · exact h _ (D6 hk)
 · rw[List.getD_eq_getElem?_getD,List.getElem?_eq_none (by omega)];decide
theorem C0Q {p:A3} (h:B9 p=true):B6P p:=by
 have hf:C0 p=true:=by unfold B9 at h;exact(Bool.and_eq_true_iff.1 h).1
 obtain⟨p1,p2,p3,p4,p5,p6,p7⟩:=A8 hf
 simp only[A05,Bool.and_eq_true,decide_eq_true_eq] at p3
 refine⟨p3.2,fun l hl=>?_,p1,fun x hx=>?_,p2⟩
 · have:=List.all_eq_true.1 p3.1 l hl
   simp only[A6z,Bool.and_eq_true,Bool.or_eq_true,decide_eq_true_eq] at this
   omega
 · have h1:=(G6 (List.all_eq_true.1 p7 x hx)).1
   simp only[M6,Bool.and_eq_true,decide_eq_true_eq] at h1
   have h2:=h1.1.2
   have h3:=C6l x.1
   omega
instance:DecidableEq A6:=inferInstanceAs (DecidableEq (Int × Int × Int × List Int))
instance:DecidableEq A3:=instDecidableEqProd
section
variable {α:Type} {mk:Int→α→α} {ct:α→Nat} {xs:List α} {k:Int} {m:Nat}
def eqD (x y:α) [DecidableEq α]:Bool:=decide (x=y)
theorem C6Z [DecidableEq α] {x y:α} (h:eqD x y=true):x=y:=of_decide_eq_true h
theorem C8v [DecidableEq α] {x y:α} (h:eqD x y=false):¬x=y:=of_decide_eq_false h
theorem C4V [DecidableEq α] (x:α):eqD x x=true:=decide_eq_true rfl
theorem B2x [DecidableEq α] {ys:List α} (d:α) (hx:m < xs.length) (hl:xs.length=ys.length) (hp:xs.take m=ys.take m) (hq:eqD (xs.getD m d) (ys.getD m d)=true):xs.take (m+1)=ys.take (m+1):=by
 rw[E7 (d:=d) hx,E7 (d:=d) (by omega),hp,C6Z hq]
theorem B2S [DecidableEq α] {ys:List α} (hx:xs.length≤m) (hl:xs.length=ys.length) (hp:xs.take m=ys.take m):eqD xs ys=true:=by
 rw[List.take_of_length_le hx,List.take_of_length_le (by omega)] at hp;exact decide_eq_true hp
theorem B2v [DecidableEq α] {ys:List α} (d:α) (hq:eqD (xs.getD m d) (ys.getD m d)=false):eqD xs ys=false:=by
 refine decide_eq_false ?_;rintro rfl;exact C8v hq rfl
theorem B7t [DecidableEq α] {ys:List α} (hq:¬xs.length=ys.length):eqD xs ys=false:=by
 refine decide_eq_false ?_;rintro rfl;exact hq rfl
end
open Go.RowKit
def B1n (a x:Int):Int:=max (-a) (min x a)
def uns (x:Int):Int:=x % 4294967296
def B5J (t:List Int) (x:Int):Int:=t.getD ((t.length * uns x) / 4294967296).toNat 0
def C76 (x a:Int):Int:=x.fdiv (2 ^ (min a.toNat 64))
def C1b (x:Int):Int:=IntKind.i64.wrap ((BitVec.ofInt IntKind.i64.bits x ^^^ BitVec.ofInt IntKind.i64.bits 2734686208).toNat:Int)
def A1E (s:Int):Int:=match decide (s % 2=1) with|true=>wrap32 (C1b (uns s / 2))|false=>wrap32 (uns s / 2)
def o7 (kd a:Int) (tabs:List (List Int)) (i s:List Int):Int :=
 if kd=1 then i.getD 0 0 else if kd=2 then a else if kd=3 then wrap32 (i.getD 0 0+i.getD 1 0) else if kd=4 then wrap32 (i.getD 0 0 - i.getD 1 0) else if kd=5 then wrap32 (a * i.getD 0 0)
 else if kd=6 then s.getD 0 0 else if kd=7 then wrap32 (s.getD 0 0+i.getD 0 0) else if kd=8 then wrap32 (i.getD 0 0 - s.getD 0 0) else if kd=9 then wrap32 (i.getD 0 0 * i.getD 1 0)
 else if kd=10 then C76 (i.getD 0 0) a else if kd=11 then B1n a (i.getD 0 0) else if kd=12 then s.getD 0 0 else if kd=13 then B5J (tabs.getD a.toNat []) (i.getD 0 0)
 else if kd=14 then s.getD 0 0 else if kd=15 then (match decide (0≤i.getD 0 0) with|true=>i.getD 1 0|false=>i.getD 2 0) else if kd=16 then (match decide (0 < i.getD 1 0) with|true=>i.getD 0 0|false=>s.getD 0 0) else wrap32 (i.getD 0 0+a * s.getD 0 0)
def m0 (kd:Int) (i s:List Int) (out:Int):List Int :=
 if kd=6 then s.drop 1++[i.getD 0 0] else if kd=7 then [out] else if kd=8 then [i.getD 0 0] else if kd=12 then [wrap32 (s.getD 0 0+i.getD 0 0)] else if kd=14 then [A1E (s.getD 0 0)]
 else if kd=16 then [out] else if kd=17 then s.drop 1++[out] else []
def D4 (n:A6):List Int :=
 if n.1=6 then List.replicate n.2.1.toNat 0 else if n.1=17 then List.replicate n.2.2.1.toNat 0 else if n.1=7 then [0] else if n.1=8 then [0] else if n.1=16 then [0]
 else if n.1=12 then [n.2.1] else if n.1=14 then [n.2.1] else []
def Q8 (n:A6) (frame vals:List Int):List Int:=match decide (n.1=1) with|true=>[frame.getD n.2.1.toNat 0]|false=>n.2.2.2.map fun i=>vals.getD i.toNat 0
def C2i (n:A6):Nat:=match decide (n.1=1) with|true=>1|false=>n.2.2.2.length
theorem s7 {x:Int}:smp x=true↔-2147483648≤x∧x≤2147483647:=C1
theorem A1r (x:Int):smp (wrap32 x)=true:=s7.2 (B1p x)
theorem G4 {xs:List Int}:D9 xs=true↔∀x∈xs,smp x=true:=List.all_eq_true
theorem Y8 {xs:List Int} (h:D9 xs=true) (i:Nat):smp (xs.getD i 0)=true:=by
 by_cases hi:i < xs.length
 · exact G4.1 h _ (D6 hi)
 · rw[List.getD_eq_getElem?_getD,List.getElem?_eq_none (by omega)];rfl
theorem b5 {n:A6} {tb:Int} (h:M6 n tb=true):1≤n.1∧n.1≤17∧(match decide ((kT n.1).2.1≤(kT n.1).2.2.1) with|true=>J3 n.2.1 (kT n.1).2.1 (kT n.1).2.2.1|false=>decide (n.2.1=0))=true ∧
 (match (kT n.1).2.2.2.2 with|true=>J3 n.2.2.1 1 16|false=>decide (n.2.2.1=0))=true∧(n.2.2.2.length:Int)=(kT n.1).1∧(n.1=13→n.2.1 < tb):=by
 simp only[M6,Bool.and_eq_true,decide_eq_true_eq,Bool.or_eq_true,Bool.not_eq_true',decide_eq_false_iff_not] at h
 obtain⟨⟨⟨⟨⟨h1,h2⟩,h3⟩,h4⟩,h5⟩,h6⟩:=h
 obtain⟨h7,h8⟩:=C1.1 h1
 exact⟨h7,h8,h2,h3,h5,fun e=>by rcases h6 with h6|h6;exact absurd e h6;exact h6⟩
theorem t6 {kd a b tb:Int} {fr:List Int} (h:M6 (kd,a,b,fr) tb=true):smp a=true∧(kd=1→0≤a∧a≤3)∧(kd=6→1≤a∧a≤16)∧(kd=10→0≤a∧a≤31)∧(kd=11→0≤a)∧(kd=13→0≤a∧a≤3∧a < tb)∧(kd=17→1≤b∧b≤16) ∧
 (kd=3∨kd=4∨kd=9∨kd=16→fr.length=2)∧(kd=5∨kd=6∨kd=7∨kd=8∨kd=10∨kd=11∨kd=12∨kd=13∨kd=17→fr.length=1)∧(kd=15→fr.length=3)∧(kd=1∨kd=2∨kd=14→fr.length=0):=by
 obtain⟨h1,h2,h3,h4,h5,h6⟩:=b5 h
 simp only at h1 h2 h3 h4 h5 h6
 obtain⟨m,rfl⟩:=Int.eq_ofNat_of_zero_le (by omega:0≤kd)
 have c:m=1∨m=2∨m=3∨m=4∨m=5∨m=6∨m=7∨m=8∨m=9∨m=10∨m=11∨m=12∨m=13∨m=14∨m=15∨m=16∨m=17:=by omega
 rcases c with rfl|rfl|rfl|rfl|rfl|rfl|rfl|rfl|rfl|rfl|rfl|rfl|rfl|rfl|rfl|rfl|rfl<;>simp[kT,B4O,J3,smp,-Int.not_lt] at h3 h4 h5 h6 ⊢<;>(try subst h5)<;>(try simp)<;>(try omega)
theorem A5E (n:A6):(D4 n).length=(if n.1=6 then n.2.1.toNat else if n.1=17 then n.2.2.1.toNat else if n.1=7∨n.1=8∨n.1=16∨n.1=12∨n.1=14 then 1 else 0):=by
 unfold D4;repeat' split
 all_goals first|(simp;done)|(simp_all;done)|omega
def stepOk (n:A6) (tabs:List (List Int)) (i s:List Int):Prop:=M6 n tabs.length=true∧A05 tabs=true∧i.length=C2i n∧s.length=(D4 n).length∧D9 i=true∧D9 s=true
theorem A7t {ts:List (List Int)} (h:A05 ts=true):ts.length≤4∧∀t∈ts,(t.length=2∨t.length=4∨t.length=8∨t.length=16)∧D9 t=true:=by
 simp only[A05,Bool.and_eq_true,decide_eq_true_eq] at h
 refine⟨h.2,fun t ht=>?_⟩
 have:=List.all_eq_true.1 h.1 t ht
 simp only[A6z,Bool.and_eq_true,Bool.or_eq_true,decide_eq_true_eq] at this
 exact⟨by omega,this.2⟩
theorem C2g {x a:Int} (h:smp x=true):smp (C76 x a)=true:=by
 rw[s7] at *
 unfold C76
 have hp:(1:Int)≤2 ^ (min a.toNat 64):=by
  have:(0:Int) < 2 ^ (min a.toNat 64):=Int.pow_pos (by omega)
  omega
 generalize (2:Int) ^ (min a.toNat 64)=m at *
 rw[Int.fdiv_eq_ediv_of_nonneg _ (by omega)]
 constructor
 · exact Int.le_trans (by omega) ((Int.le_ediv_iff_mul_le (by omega)).2 (by
    have:-2147483648 * m≤-2147483648 * 1:=Int.mul_le_mul_of_nonpos_left (by omega) hp
    omega):-2147483648≤x / m)
 · rcases Int.lt_or_le x 0 with hx|hx
   · have:=Int.ediv_neg_of_neg_of_pos hx (by omega:0 < m);omega
   · have:=Int.ediv_le_self m hx;omega
theorem C46 {t:List Int} {x:Int} (h:D9 t=true):smp (B5J t x)=true:=Y8 h _
theorem U6 {c:Prop} [Decidable c] {x y:Int} (h1:c→smp x=true) (h2:¬c→smp y=true):smp (if c then x else y)=true:=by
 by_cases h:c
 · rw[if_pos h];exact h1 h
 · rw[if_neg h];exact h2 h
theorem A9b {n:A6} {tabs:List (List Int)} {i s:List Int} (h:stepOk n tabs i s):smp (o7 n.1 n.2.1 tabs i s)=true:=by
 obtain⟨kd,a,b,fr⟩:=n;obtain⟨h1,h2,h3,h4,h5,h6⟩:=h;obtain⟨q1,q2,q3,q4,q5,q6,_⟩:=t6 h1
 have hi:=Y8 h5
 have hs:=Y8 h6
 unfold o7;simp only
 refine U6 (fun _=>hi 0) fun _=>?_
 refine U6 (fun _=>q1) fun _=>?_
 refine U6 (fun _=>A1r _) fun _=>?_
 refine U6 (fun _=>A1r _) fun _=>?_
 refine U6 (fun _=>A1r _) fun _=>?_
 refine U6 (fun _=>hs 0) fun _=>?_
 refine U6 (fun _=>A1r _) fun _=>?_
 refine U6 (fun _=>A1r _) fun _=>?_
 refine U6 (fun _=>A1r _) fun _=>?_
 refine U6 (fun _=>C2g (hi 0)) fun _=>?_
 refine U6 (fun e=>?_) fun _=>?_
 · have:=q5 e
   have h0:=s7.1 (hi 0)
   rw[s7] at q1 ⊢
   unfold B1n;omega
 refine U6 (fun _=>hs 0) fun _=>?_
 refine U6 (fun _=>?_) fun _=>?_
 · refine C46 ?_
   by_cases ha:a.toNat < tabs.length
   · exact((A7t h2).2 _ (D6 ha)).2
   · rw[List.getD_eq_getElem?_getD,List.getElem?_eq_none (by omega)];rfl
 refine U6 (fun _=>hs 0) fun _=>?_
 refine U6 (fun _=>?_) fun _=>?_
 · cases decide (0≤i.getD 0 0)
   · exact hi 2
   · exact hi 1
 refine U6 (fun _=>?_) fun _=>A1r _
 cases decide (0 < i.getD 1 0)
 · exact hs 0
 · exact hi 0
theorem B6b (s:Int):smp (A1E s)=true:=by unfold A1E;split<;>exact A1r _
theorem A7r {xs:List Int} (h:D9 xs=true) (n:Nat):D9 (xs.drop n)=true:=G4.2 fun x hx=>G4.1 h x (List.mem_of_mem_drop hx)
theorem B1E {xs:List Int} {x:Int} (h:D9 xs=true) (hx:smp x=true):D9 (xs++[x])=true:=by
 simp only[D9,List.all_append,Bool.and_eq_true] at *;exact⟨h,by simpa using hx⟩
theorem A19 {x:Int} (hx:smp x=true):D9 [x]=true:=by simpa [D9] using hx
theorem B0G {n:A6} {tabs:List (List Int)} {i s:List Int} {o:Int} (h:stepOk n tabs i s) (ho:smp o=true):(m0 n.1 i s o).length=(D4 n).length∧D9 (m0 n.1 i s o)=true:=by
 obtain⟨kd,a,b,fr⟩:=n;obtain⟨h1,h2,h3,h4,h5,h6⟩:=h;obtain⟨q1,_,q3,_,_,_,q7,_⟩:=t6 h1
 have hi:=Y8 h5
 have hs:=Y8 h6
 rw[A5E] at h4 ⊢
 simp only[m0] at h4 ⊢
 split
 · rename_i e;simp only[e,if_true] at h4 ⊢;have:=q3 e;exact⟨by simp only[List.length_append,List.length_drop,List.length_cons,List.length_nil];omega,B1E (A7r h6 _) (hi 0)⟩
 split
 · rename_i e;subst e;exact⟨by simp,A19 ho⟩
 split
 · rename_i e;subst e;exact⟨by simp,A19 (hi 0)⟩
 split
 · rename_i e;subst e;exact⟨by simp,A19 (A1r _)⟩
 split
 · rename_i e;subst e;exact⟨by simp,A19 (B6b _)⟩
 split
 · rename_i e;subst e;exact⟨by simp,A19 ho⟩
 split
 · rename_i e;subst e;have:=q7 rfl;simp at h4;exact⟨by simp;omega,B1E (A7r h6 _) ho⟩
 · rename_i e1 e2 e3 e4 e5 e6 e7
   rw[if_neg (by omega)]
   exact⟨rfl,rfl⟩
theorem B6O {n:A6} {tb:Int} (h:M6 n tb=true):D9 (D4 n)=true:=by
 obtain⟨kd,a,b,fr⟩:=n;obtain⟨q1,_⟩:=t6 h
 have hz:∀m,D9 (List.replicate m 0)=true:=fun m=>G4.2 fun x hx=>by rw[(List.mem_replicate.1 hx).2];rfl
 simp only[D4];repeat' split
 all_goals first|exact hz _|rfl|exact A19 q1
def z7 (p:A3) (s:List (List Int)):Bool:=decide (s.length=p.2.2.1.length) && (List.range p.2.2.1.length).all fun i=>decide ((s.getD i []).length=(D4 (p.2.2.1.getD i n0)).length) && D9 (s.getD i [])
def U3 (p:A3) (s:List (List Int)):Prop:=s.length=p.2.2.1.length∧∀i,i < p.2.2.1.length→(s.getD i []).length=(D4 (p.2.2.1.getD i n0)).length∧D9 (s.getD i [])=true
theorem A2b {p:A3} {s:List (List Int)}:z7 p s=true↔U3 p s:=by
 simp only[z7,U3,Bool.and_eq_true,decide_eq_true_eq,List.all_eq_true,List.mem_range]
def W9 (p:A3):List (List Int):=p.2.2.1.map D4
theorem d9 {p:A3} (h:C0 p=true) {i:Nat} (hi:i < p.2.2.1.length):X7 p (p.2.2.1.getD i n0)=true:=List.all_eq_true.1 (A8 h).2.2.2.2.2.2 _ (D6 hi)
theorem n8 {p:A3} (h:C0 p=true):U3 p (W9 p):=by
 refine⟨by simp[W9],fun i hi=>?_⟩
 have e:(W9 p).getD i []=D4 (p.2.2.1.getD i n0):=by simp[W9,List.getD,hi]
 rw[e];exact⟨rfl,B6O (G6 (d9 h hi)).1⟩
def R6 (p:A3) (v:List Int):Prop:=v.length=p.2.2.1.length∧D9 v=true
theorem C4p {p:A3} {fr v:List Int} (h:C0 p=true) (hf:D9 fr=true) (hv:D9 v=true) (i:Nat):(Q8 (p.2.2.1.getD i n0) fr v).length=C2i (p.2.2.1.getD i n0)∧D9 (Q8 (p.2.2.1.getD i n0) fr v)=true:=by
 unfold Q8 C2i
 split
 · exact⟨rfl,A19 (Y8 hf _)⟩
 · refine⟨by simp,G4.2 fun x hx=>?_⟩
   obtain⟨y,_,rfl⟩:=List.mem_map.1 hx
   exact Y8 hv _
theorem s8 {p:A3} {s:List (List Int)} {fr v:List Int} (h:C0 p=true) (hs:U3 p s) (hf:D9 fr=true) (hv:D9 v=true) {i:Nat} (hi:i < p.2.2.1.length) :
 stepOk (p.2.2.1.getD i n0) p.2.1 (Q8 (p.2.2.1.getD i n0) fr v) (s.getD i []):=by
 obtain⟨h1,h2⟩:=C4p h hf hv i
 exact⟨(G6 (d9 h hi)).1,(A8 h).2.2.1,h1,(hs.2 i hi).1,h2,(hs.2 i hi).2⟩
def A07 (p:A3) (s:List (List Int)) (fr v:List Int) (i:Nat):Int:=o7 (p.2.2.1.getD i n0).1 (p.2.2.1.getD i n0).2.1 p.2.1 (Q8 (p.2.2.1.getD i n0) fr v) (s.getD i [])
def w7 (p:A3) (s:List (List Int)) (fr v:List Int) (o:Int) (i:Nat):List Int:=m0 (p.2.2.1.getD i n0).1 (Q8 (p.2.2.1.getD i n0) fr v) (s.getD i []) o
def R4 (p:A3) (s:List (List Int)) (fr v:List Int) (i:Int):List Int:=v.set i.toNat (A07 p s fr v i.toNat)
def P6 (p:A3) (s:List (List Int)) (fr v0:List Int) (ord:List Int):List Int:=ord.foldl (R4 p s fr) v0
def E8 (p:A3) (s:List (List Int)) (fr:List Int):List Int:=P6 p s fr (List.replicate p.2.2.1.length 0) (C6 p.2.2.1)
def S6 (p:A3) (s:List (List Int)) (fr v:List Int):List (List Int):=(List.range p.2.2.1.length).map fun i=>w7 p s fr v (v.getD i 0) i
def J4 (p:A3) (v:List Int):List Int:=p.2.2.2.map fun i=>v.getD i.toNat 0
theorem N1 {α:Type} {l:List α} {i j:Nat} {x d:α} (hi:i < l.length):(l.set i x).getD j d=if i=j then x else l.getD j d:=by
 rw[List.getD_eq_getElem?_getD,List.getElem?_set]
 split
 · rename_i e;subst e;simp[hi]
 · rw[List.getD_eq_getElem?_getD]
theorem A9U {l:List Int} {i:Nat} {x:Int} (h:D9 l=true) (hx:smp x=true):D9 (l.set i x)=true:=G4.2 fun y hy=>by
 rcases List.mem_or_eq_of_mem_set hy with hy|rfl
 · exact G4.1 h y hy
 · exact hx
theorem B7Q {p:A3} {s:List (List Int)} {fr v:List Int} (h:C0 p=true) (hs:U3 p s) (hf:D9 fr=true) (hv:R6 p v) {i:Int} (h0:i.toNat < p.2.2.1.length):R6 p (R4 p s fr v i) :=
 ⟨by unfold R4;rw[List.length_set];exact hv.1,A9U hv.2 (A9b (s8 h hs hf hv.2 h0))⟩
theorem X4 {p:A3} {s:List (List Int)} {fr v0:List Int} {ord:List Int} {k:Nat} (hk:k < ord.length):P6 p s fr v0 (ord.take (k+1))=R4 p s fr (P6 p s fr v0 (ord.take k)) (ord.getD k 0):=by
 rw[E7 (d:=0) hk];simp[P6,List.foldl_append]
def GoodO (ns:List A6) (o:List Int):Prop:=∀j,j < o.length→∃i:Nat,o.getD j 0=(i:Int)∧i < ns.length∧(i:Int) ∉ o.take j∧∀f∈J5 (ns.getD i n0),f∈o.take j
theorem GoodO.ext {ns:List A6} {o:List Int} (h:GoodO ns o) {i:Nat} (hi:A2z ns o=some i):GoodO ns (o++[(i:Int)]):=by
 intro j hj
 rw[List.length_append] at hj;simp only[List.length_cons,List.length_nil] at hj
 by_cases hj':j < o.length
 · obtain⟨i',h1,h2,h3,h4⟩:=h j hj'
   refine⟨i',?_,h2,?_,?_⟩
   · rw[List.getD_eq_getElem?_getD,List.getElem?_append_left hj',←List.getD_eq_getElem?_getD];exact h1
   · rw[List.take_append_of_le_length (by omega)];exact h3
   · rw[List.take_append_of_le_length (by omega)];exact h4
 · have e:j=o.length:=by omega
   subst e;have hf:=List.find?_some hi
   have hm:=List.mem_range.1 (List.mem_of_find?_eq_some hi)
   simp only[U1,Bool.and_eq_true,Bool.not_eq_true',List.all_eq_true,List.contains_eq_mem,decide_eq_true_eq,decide_eq_false_iff_not] at hf
   refine⟨i,by simp[List.getD],hm,?_,?_⟩
   · rw[List.take_append_of_le_length (by omega),List.take_length];exact hf.1
   · rw[List.take_append_of_le_length (by omega),List.take_length];exact hf.2
theorem B6v {ns:List A6}:∀(k:Nat) {o:List Int},GoodO ns o→GoodO ns (A1Q ns k o):=by
 intro k
 induction k with
 | zero=>intro o h;exact h
 | succ k ih =>
   intro o h
   simp only[A1Q]
   split
   · exact h
   · rename_i i hi;exact ih (h.ext hi)
theorem Y5 (ns:List A6):GoodO ns (C6 ns):=B6v _ fun j hj=>by simp at hj
theorem A09 {o:List Int} {j:Nat} {x:Int}:x∈o.take j↔∃i,i < j∧i < o.length∧o.getD i 0=x:=by
 rw[List.mem_take_iff_getElem]
 constructor
 · rintro⟨i,hi,rfl⟩
   exact⟨i,by omega,by omega,by simp[List.getD,show i < o.length by omega]⟩
 · rintro⟨i,h1,h2,rfl⟩
   exact⟨i,by omega,by simp[List.getD,h2]⟩
theorem C3q:∀(n:Nat) (l:List Int),l.Nodup→(∀x∈l,0≤x∧x < n)→l.length≤n:=by
 intro n
 induction n with
 | zero =>
   intro l _ h
   cases l with
   | nil=>simp
   | cons x l=>have:=h x List.mem_cons_self;omega
 | succ n ih =>
   intro l hn h
   have h1:=ih (l.erase n) (hn.erase _) fun x hx=>by
    have:=h x (List.mem_of_mem_erase hx)
    have hne:x≠n:=by rintro rfl;exact hn.not_mem_erase hx
    omega
   have h2:=@List.length_erase _ _ _ (n:Int) l
   split at h2<;>omega
theorem full {n:Nat} {l:List Int} (hn:l.Nodup) (h:∀x∈l,0≤x∧x < n) (hl:l.length=n) (i:Nat) (hi:i < n):(i:Int)∈l:=by
 apply Classical.byContradiction
 intro hc;have:=C3q n ((i:Int)::l) (List.nodup_cons.2 ⟨hc,hn⟩) (fun x hx=>by rcases List.mem_cons.1 hx with rfl|hx;exact⟨by omega,by omega⟩;exact h x hx)
 simp at this;omega
theorem GoodO.nodup {ns:List A6} {o:List Int} (h:GoodO ns o):o.Nodup:=by
 rw[List.nodup_iff_pairwise_ne,List.pairwise_iff_getElem];intro a b ha hb hab e
 obtain⟨i,h1,h2,h3,_⟩:=h b hb
 apply h3
 rw[←h1];exact A09.2 ⟨a,hab,ha,by simp[List.getD,ha,hb,e]⟩
theorem GoodO.full {ns:List A6} {o:List Int} (h:GoodO ns o) (hl:o.length=ns.length) {i:Nat} (hi:i < ns.length):(i:Int)∈o:=by
 refine Go.Proofs.YtgaogcnfijbahaaGreat.full h.nodup (fun x hx=>?_) hl i hi
 obtain⟨j,hj,rfl⟩:=List.mem_iff_getElem.1 hx
 obtain⟨i',h1,h2,_⟩:=h j hj
 have:o.getD j 0=o[j]:=by simp[List.getD,hj]
 omega
theorem A5V {n:A6} {fr v v':List Int} (hd:n.1≠6) (h:∀f∈J5 n,v.getD f.toNat 0=v'.getD f.toNat 0):Q8 n fr v=Q8 n fr v':=by
 unfold Q8
 split
 · rfl
 · unfold J5 at h;rw[decide_eq_false hd] at h;exact List.map_congr_left h
theorem A5F {p:A3} {s:List (List Int)} {fr v v':List Int} {i:Nat} (h:∀f∈J5 (p.2.2.1.getD i n0),v.getD f.toNat 0=v'.getD f.toNat 0):A07 p s fr v i=A07 p s fr v' i:=by
 unfold A07
 by_cases hd:(p.2.2.1.getD i n0).1=6
 · rw[hd];rfl
 · rw[A5V hd h]
def Sol (p:A3) (s:List (List Int)) (fr v:List Int) (o:List Int):Prop:=∀x∈o,v.getD x.toNat 0=A07 p s fr v x.toNat
theorem GoodO.at {ns:List A6} {o:List Int} (h:GoodO ns o) {x:Int} (hx:x∈o):∃i:Nat,x=i∧i < ns.length:=by
 obtain⟨j,hj,rfl⟩:=List.mem_iff_getElem.1 hx
 obtain⟨i,h1,h2,_⟩:=h j hj
 exact⟨i,by rw[←h1];simp[List.getD,hj],h2⟩
theorem GoodO.waits {ns:List A6} {o:List Int} (h:GoodO ns o) {k:Nat} {i:Nat} (hi:(i:Int)∈o.take k):∀f∈J5 (ns.getD i n0),f∈o.take k:=by
 obtain⟨j,h1,h2,h3⟩:=A09.1 hi
 obtain⟨i',h4,h5,h6,h7⟩:=h j h2
 have:i'=i:=by omega
 subst this;intro f hf
 obtain⟨q,r1,r2,r3⟩:=A09.1 (h7 f hf)
 exact A09.2 ⟨q,by omega,r2,r3⟩
theorem A1U {o:List Int} {k:Nat} {x:Int} (h:x∈o.take k):x∈o:=List.mem_of_mem_take h
theorem A0N {p:A3} {s:List (List Int)} {fr:List Int}:∀{o v:List Int},(P6 p s fr v o).length=v.length:=by
 intro o
 induction o with
 | nil=>intro v;rfl
 | cons x l ih=>intro v;simp only[P6,List.foldl_cons] at *;rw[ih];simp[R4]
theorem B4V {p:A3} {s:List (List Int)} {fr v0:List Int} {o:List Int} (h:GoodO p.2.2.1 o) (hl:v0.length=p.2.2.1.length):∀k,k≤o.length→Sol p s fr (P6 p s fr v0 (o.take k)) (o.take k):=by
 intro k
 induction k with
 | zero=>intro _ x hx;simp at hx
 | succ k ih =>
   intro hk;have ih:=ih (by omega)
   obtain⟨i,h1,h2,h3,h4⟩:=h k (by omega)
   rw[X4 (by omega),h1]
   have hlen:(P6 p s fr v0 (o.take k)).length=p.2.2.1.length:=by rw[A0N];exact hl
   generalize P6 p s fr v0 (o.take k)=V at *
   have gd:∀x,x∈o.take k→(R4 p s fr V i).getD x.toNat 0=V.getD x.toNat 0:=fun x hx=>by
    obtain⟨i',rfl,h5⟩:=h.at (A1U hx)
    unfold R4;simp only[Int.toNat_natCast];rw[N1 (by omega),if_neg (by rintro rfl;exact h3 hx)]
   intro x hx
   rw[E7 (d:=0) (by omega),List.mem_append,List.mem_singleton,h1] at hx
   rcases hx with hx|rfl
   · rw[gd x hx,ih x hx];obtain⟨i',rfl,h5⟩:=h.at (A1U hx)
     simp only[Int.toNat_natCast];exact A5F fun f hf=>(gd f (h.waits hx f hf)).symm
   · have e:(R4 p s fr V i).getD i 0=A07 p s fr V i:=by
      unfold R4;simp only[Int.toNat_natCast];rw[N1 (by omega),if_pos rfl]
     simp only[Int.toNat_natCast];rw[e];exact A5F fun f hf=>(gd f (h4 f hf)).symm
theorem A8R {p:A3} {s:List (List Int)} {fr v0:List Int} {o:List Int} (h:GoodO p.2.2.1 o) (hl:v0.length=p.2.2.1.length):Sol p s fr (P6 p s fr v0 o) o:=by
 have:=B4V (s:=s) (fr:=fr) h hl o.length (Nat.le_refl _)
 rwa [List.take_length] at this
theorem B6d {p:A3} {s:List (List Int)} {fr v v':List Int} {o:List Int} (h:GoodO p.2.2.1 o) (h1:Sol p s fr v o) (h2:Sol p s fr v' o):∀k,k≤o.length→∀x∈o.take k,v.getD x.toNat 0=v'.getD x.toNat 0:=by
 intro k
 induction k with
 | zero=>intro _ x hx;simp at hx
 | succ k ih =>
   intro hk x hx
   rw[E7 (d:=0) (by omega),List.mem_append,List.mem_singleton] at hx
   rcases hx with hx|rfl
   · exact ih (by omega) x hx
   · obtain⟨i,e1,e2,e3,e4⟩:=h k (by omega)
     have hm:o.getD k 0∈o:=D6 (by omega)
     rw[h1 _ hm,h2 _ hm,e1];exact A5F fun f hf=>ih (by omega) f (e4 f (by simpa using hf))
theorem C4i {p:A3} {s:List (List Int)} {fr v0 v1:List Int} {o:List Int} (h:GoodO p.2.2.1 o) (ho:o.length=p.2.2.1.length) (h0:v0.length=p.2.2.1.length) (h1:v1.length=p.2.2.1.length):P6 p s fr v0 o=P6 p s fr v1 o:=by
 apply List.ext_getElem (by rw[A0N,A0N];omega)
 intro i hi hi'
 rw[A0N] at hi;have hm:=h.full ho (i:=i) (by omega)
 have:=B6d h (A8R (s:=s) (fr:=fr) h h0) (A8R (s:=s) (fr:=fr) h h1) o.length (Nat.le_refl _) i (by rw[List.take_length];exact hm)
 simpa [List.getD,A0N,hi,hi',h1,h0,show i < p.2.2.1.length by omega] using this
def O7 (p:A3) (fr:List Int) (st:List Int × List (List Int)) (i:Int):List Int × List (List Int) :=
 (st.1.set i.toNat (A07 p st.2 fr st.1 i.toNat),match decide ((p.2.2.1.getD i.toNat n0).1=6) with|true=>st.2|false=>st.2.set i.toNat (w7 p st.2 fr st.1 (A07 p st.2 fr st.1 i.toNat) i.toNat))
def D2 (p:A3) (fr:List Int) (st:List Int × List (List Int)) (o:List Int):List Int × List (List Int):=o.foldl (O7 p fr) st
def A0w (p:A3) (fr v:List Int) (s:List (List Int)) (i:Nat):List (List Int):=match decide ((p.2.2.1.getD i n0).1=6) with|true=>s.set i (w7 p s fr v (A07 p s fr v i) i)|false=>s
def Q7 (p:A3) (fr v:List Int) (s:List (List Int)):Nat→List (List Int)
 | 0=>s
 | k+1=>A0w p fr v (Q7 p fr v s k) k
def A7v (p:A3) (v0:List Int) (s:List (List Int)) (fr:List Int):List Int × List (List Int) :=
 let r:=D2 p fr (v0,s) (C6 p.2.2.1)
 (r.1,Q7 p fr r.1 r.2 p.2.2.1.length)
theorem A2o {p:A3} {fr:List Int} {st:List Int × List (List Int)} {o:List Int} {k:Nat} (hk:k < o.length):D2 p fr st (o.take (k+1))=O7 p fr (D2 p fr st (o.take k)) (o.getD k 0):=by
 rw[E7 (d:=0) hk];simp[D2,List.foldl_append]
theorem B3K {p:A3} {s s':List (List Int)} {fr v:List Int} {i:Nat} (h:s.getD i []=s'.getD i []):A07 p s fr v i=A07 p s' fr v i:=by unfold A07;rw[h]
theorem A9Q {p:A3} {s s':List (List Int)} {fr v:List Int} {o:Int} {i:Nat} (h:s.getD i []=s'.getD i []):w7 p s fr v o i=w7 p s' fr v o i:=by unfold w7;rw[h]
theorem B9m {p:A3} {s:List (List Int)} {fr v0:List Int} {o:List Int} (h:GoodO p.2.2.1 o) (hl:v0.length=p.2.2.1.length) (hs:s.length=p.2.2.1.length):∀k,k≤o.length →
 (D2 p fr (v0,s) (o.take k)).1=P6 p s fr v0 (o.take k)∧(D2 p fr (v0,s) (o.take k)).2.length=s.length ∧
 ∀i:Nat,i < p.2.2.1.length→(D2 p fr (v0,s) (o.take k)).2.getD i []=(if (i:Int)∈o.take k∧(p.2.2.1.getD i n0).1≠6 then w7 p s fr (P6 p s fr v0 (o.take k)) ((P6 p s fr v0 (o.take k)).getD i 0) i else s.getD i []):=by
 intro k
 induction k with
 | zero=>intro _;refine⟨rfl,rfl,fun i hi=>?_⟩;rw[if_neg (by simp)];rfl
 | succ k ih =>
   intro hk;obtain⟨e1,e2,e3⟩:=ih (by omega)
   obtain⟨i0,h1,h2,h3,h4⟩:=h k (by omega)
   have hgood:=B4V (s:=s) (fr:=fr) h hl (k+1) hk
   have hw:=@GoodO.waits _ _ h (k+1)
   rw[X4 (by omega),h1] at hgood
   rw[A2o (by omega),X4 (by omega),h1]
   have hlen:(P6 p s fr v0 (o.take k)).length=p.2.2.1.length:=by rw[A0N];exact hl
   generalize D2 p fr (v0,s) (o.take k)=st at *
   generalize P6 p s fr v0 (o.take k)=V at *
   obtain⟨v1,s1⟩:=st;simp only at e1 e2 e3
   subst e1;have es:s1.getD i0 []=s.getD i0 []:=by rw[e3 i0 h2,if_neg (by rintro⟨q,_⟩;exact h3 q)]
   have eo:A07 p s1 fr v1 i0=A07 p s fr v1 i0:=B3K es
   have gd:∀x,x∈o.take k→(R4 p s fr v1 i0).getD x.toNat 0=v1.getD x.toNat 0:=fun x hx=>by
    obtain⟨i',rfl,h5⟩:=h.at (A1U hx)
    unfold R4;simp only[Int.toNat_natCast];rw[N1 (by omega),if_neg (by rintro rfl;exact h3 hx)]
   refine⟨by simp only[O7,R4,Int.toNat_natCast,eo],?_,fun i hi=>?_⟩
   · simp only[O7];split<;>simp[e2]
   rw[E7 (d:=0) (by omega),h1]
   have hv0:(R4 p s fr v1 i0).getD i0 0=A07 p s fr v1 i0:=by unfold R4;simp only[Int.toNat_natCast];rw[N1 (by omega),if_pos rfl]
   by_cases hii:i=i0
   · subst hii;simp only[O7,Int.toNat_natCast]
     by_cases hd:(p.2.2.1.getD i n0).1=6
     · rw[decide_eq_true hd,if_neg (by rintro⟨_,q⟩;exact q hd)];exact es
     · rw[decide_eq_false hd,if_pos ⟨by simp,hd⟩]
       simp only
       rw[N1 (by omega),if_pos rfl,eo,A9Q es,hv0]
       unfold w7;rw[A5V hd (v':=R4 p s fr v1 i) fun f hf=>(gd f (h4 f hf)).symm]
   · have e5:(O7 p fr (v1,s1) i0).2.getD i []=s1.getD i []:=by
      simp only[O7,Int.toNat_natCast]
      split
      · rfl
      · rw[N1 (by omega),if_neg (by omega)]
     rw[e5,e3 i hi];have hiff:((i:Int)∈o.take k++[(i0:Int)])↔(i:Int)∈o.take k:=by simp;omega
     by_cases hc:(i:Int)∈o.take k∧(p.2.2.1.getD i n0).1≠6
     · rw[if_pos hc,if_pos ⟨hiff.2 hc.1,hc.2⟩]
       have g1:=gd i hc.1
       simp only[Int.toNat_natCast] at g1
       rw[g1];unfold w7;rw[A5V hc.2 (v':=R4 p s fr v1 i0) fun f hf=>(gd f (h.waits hc.1 f hf)).symm]
     · rw[if_neg hc,if_neg fun q=>hc ⟨hiff.1 q.1,q.2⟩]
theorem C1B {p:A3} {s:List (List Int)} {fr v:List Int} (hs:s.length=p.2.2.1.length):∀k,k≤p.2.2.1.length→(Q7 p fr v s k).length=s.length ∧
 ∀i:Nat,(Q7 p fr v s k).getD i []=(if i < k∧(p.2.2.1.getD i n0).1=6 then w7 p s fr v (A07 p s fr v i) i else s.getD i []):=by
 intro k
 induction k with
 | zero=>intro _;exact⟨rfl,fun i=>by rw[if_neg (by omega)];rfl⟩
 | succ k ih =>
   intro hk;obtain⟨e1,e2⟩:=ih (by omega)
   simp only[Q7,A0w];have es:(Q7 p fr v s k).getD k []=s.getD k []:=by rw[e2 k,if_neg (by omega)]
   by_cases hd:(p.2.2.1.getD k n0).1=6
   · rw[decide_eq_true hd];refine⟨by simp[e1],fun i=>?_⟩
     simp only
     rw[N1 (by omega)]
     by_cases hi:k=i
     · subst hi;rw[if_pos rfl,if_pos ⟨by omega,hd⟩,B3K es,A9Q es]
     · rw[if_neg hi,e2 i]
       by_cases hc:i < k∧(p.2.2.1.getD i n0).1=6
       · rw[if_pos hc,if_pos ⟨by omega,hc.2⟩]
       · rw[if_neg hc,if_neg fun q=>hc ⟨by omega,q.2⟩]
   · rw[decide_eq_false hd];refine⟨e1,fun i=>?_⟩
     simp only
     rw[e2 i]
     by_cases hc:i < k∧(p.2.2.1.getD i n0).1=6
     · rw[if_pos hc,if_pos ⟨by omega,hc.2⟩]
     · rw[if_neg hc,if_neg fun q=>hc ⟨by rcases Nat.lt_succ_iff_lt_or_eq.1 q.1 with q'|q';exact q';subst q';exact absurd q.2 hd,q.2⟩]
theorem U7 {p:A3} {s:List (List Int)} {fr v:List Int}:(S6 p s fr v).length=p.2.2.1.length:=by simp[S6]
theorem A1G {p:A3} {s:List (List Int)} {fr v:List Int} {i:Nat} (hi:i < p.2.2.1.length):(S6 p s fr v).getD i []=w7 p s fr v (v.getD i 0) i:=by simp[S6,List.getD,hi]
theorem B8 {p:A3} (h:B9 p=true):C0 p=true∧(C6 p.2.2.1).length=p.2.2.1.length:=by
 simp only[B9,Bool.and_eq_true,decide_eq_true_eq] at h;exact h
theorem B8H {p:A3} {s:List (List Int)} {fr v0:List Int} (h:B9 p=true) (hl:v0.length=p.2.2.1.length) (hs:s.length=p.2.2.1.length):A7v p v0 s fr=(E8 p s fr,S6 p s fr (E8 p s fr)):=by
 obtain⟨hf,ho⟩:=B8 h
 have hg:=Y5 p.2.2.1
 obtain⟨e1,e2,e3⟩:=B9m (s:=s) (fr:=fr) hg hl hs _ (Nat.le_refl _)
 rw[List.take_length] at e1 e2 e3
 have ev:P6 p s fr v0 (C6 p.2.2.1)=E8 p s fr:=C4i hg ho hl (by simp)
 rw[ev] at e1 e3
 unfold A7v;simp only
 generalize D2 p fr (v0,s) (C6 p.2.2.1)=st at *
 obtain⟨v1,s1⟩:=st;simp only at e1 e2 e3 ⊢
 subst e1;obtain⟨l1,l2⟩:=C1B (p:=p) (s:=s1) (fr:=fr) (v:=E8 p s fr) (by omega) _ (Nat.le_refl _)
 congr 1
 apply List.ext_getElem (by rw[l1,U7];omega)
 intro i hi hi'
 rw[U7] at hi'
 have k1:=l2 i
 have hsol:(E8 p s fr).getD i 0=A07 p s fr (E8 p s fr) i:=by
  have:=A8R (s:=s) (fr:=fr) (v0:=List.replicate p.2.2.1.length 0) hg (by simp) i (hg.full ho hi')
  exact this
 have key:(Q7 p fr (E8 p s fr) s1 p.2.2.1.length).getD i []=(S6 p s fr (E8 p s fr)).getD i []:=by
  rw[k1,A1G hi',hsol]
  by_cases hd:(p.2.2.1.getD i n0).1=6
  · have es:s1.getD i []=s.getD i []:=by rw[e3 i hi',if_neg (by rintro⟨_,q⟩;exact q hd)]
    rw[if_pos ⟨hi',hd⟩,A9Q es,B3K es]
  · rw[if_neg (by rintro⟨_,q⟩;exact hd q),e3 i hi',if_pos ⟨hg.full ho hi',hd⟩,hsol]
 simpa [List.getD,hi,U7,hi'] using key
theorem B56 {p:A3} {s:List (List Int)} {fr v0:List Int} (h:C0 p=true) (hs:U3 p s) (hf:D9 fr=true) (hv:R6 p v0):∀k,k≤(C6 p.2.2.1).length→R6 p (P6 p s fr v0 ((C6 p.2.2.1).take k)):=by
 intro k
 induction k with
 | zero=>intro _;exact hv
 | succ k ih =>
   intro hk;rw[X4 (by omega)]
   obtain⟨i,h1,h2,_⟩:=Y5 p.2.2.1 k (by omega)
   rw[h1];exact B7Q h hs hf (ih (by omega)) (by simpa using h2)
theorem L9 (p:A3):R6 p (List.replicate p.2.2.1.length 0):=⟨by simp,G4.2 fun x hx=>by rw[(List.mem_replicate.1 hx).2];rfl⟩
theorem a6 {p:A3} {s:List (List Int)} {fr:List Int} (h:C0 p=true) (hs:U3 p s) (hf:D9 fr=true):R6 p (E8 p s fr):=by
 have:=B56 h hs hf (L9 p) _ (Nat.le_refl _)
 rwa [List.take_length] at this
theorem B08 {p:A3} {s:List (List Int)} {fr v:List Int} (h:C0 p=true) (hs:U3 p s) (hf:D9 fr=true) (hv:R6 p v):U3 p (S6 p s fr v):=by
 refine⟨U7,fun i hi=>?_⟩
 rw[A1G hi];exact B0G (s8 h hs hf hv.2 hi) (Y8 hv.2 i)
def m6 (n:A6) (tabs:List (List Int)) (i s:List Int):Prop:=(∃tb:Int,M6 n tb=true∧(n.1=13→tb=tabs.length∧A05 tabs=true))∧i.length=C2i n∧s.length=(D4 n).length∧D9 i=true∧D9 s=true
theorem stepOk.c {n:A6} {tabs:List (List Int)} {i s:List Int} (h:stepOk n tabs i s):m6 n tabs i s:=⟨⟨_,h.1,fun _=>⟨rfl,h.2.1⟩⟩,h.2.2.1,h.2.2.2.1,h.2.2.2.2.1,h.2.2.2.2.2⟩
theorem stepOk.c6 {n:A6} {tabs ts:List (List Int)} {i s:List Int} (h:stepOk n tabs i s) (h6:n.1=6):m6 n ts i s:=⟨⟨_,h.1,fun e=>by omega⟩,h.2.2.1,h.2.2.2.1,h.2.2.2.2.1,h.2.2.2.2.2⟩
theorem b7 {kd a b:Int} {fr:List Int} {tabs:List (List Int)} {i s:List Int} (h:m6 (kd,a,b,fr) tabs i s) :
 1≤kd∧kd≤17∧(kd=3∨kd=4∨kd=9∨kd=16→i.length=2)∧(kd=1∨kd=5∨kd=6∨kd=7∨kd=8∨kd=10∨kd=11∨kd=12∨kd=13∨kd=17→i.length=1)∧(kd=15→i.length=3) ∧
 (kd=6→s.length=a.toNat∧1≤a∧a≤16)∧(kd=17→s.length=b.toNat∧1≤b∧b≤16)∧(kd=7∨kd=8∨kd=16∨kd=12∨kd=14→s.length=1)∧(kd=10→0≤a∧a≤31)∧(kd=11→0≤a) ∧
 (kd=13→0≤a∧a≤3∧a < tabs.length∧1≤(tabs.getD a.toNat []).length∧(tabs.getD a.toNat []).length≤16)∧-2147483648≤a∧a≤2147483647:=by
 obtain⟨⟨tb,h1,h2⟩,h3,h4,h5,h6⟩:=h
 obtain⟨q1,q2,q3,q4,q5,q6,q7,q8,q9,q10,q11⟩:=t6 h1
 obtain⟨r1,r2,_⟩:=b5 h1
 rw[A5E] at h4;simp only at h2 h4 r1 r2
 have hi:i.length=if kd=1 then 1 else fr.length:=by
  rw[h3];unfold C2i;simp only
  by_cases hk:kd=1
  · rw[decide_eq_true hk,if_pos hk]
  · rw[decide_eq_false hk,if_neg hk]
 rw[s7] at q1;refine⟨r1,r2,fun e=>?_,fun e=>?_,fun e=>?_,fun e=>?_,fun e=>?_,fun e=>?_,q4,q5,fun e=>?_,q1.1,q1.2⟩
 · rw[hi,if_neg (by omega)];exact q8 e
 · rw[hi];split;· rfl
   · exact q9 (by omega)
 · rw[hi,if_neg (by omega)];exact q10 e
 · rw[if_pos e] at h4;exact⟨h4,q3 e⟩
 · rw[if_neg (by omega),if_pos e] at h4;exact⟨h4,q7 e⟩
 · rw[if_neg (by omega),if_neg (by omega),if_pos (by omega)] at h4;exact h4
 · obtain⟨e1,e2⟩:=h2 e
   obtain⟨a1,a2,a3⟩:=q6 e
   have hlt:a.toNat < tabs.length:=by omega
   have:=((A7t e2).2 _ (D6 (d:=[]) hlt)).1
   exact⟨a1,a2,by omega,by omega,by omega⟩
theorem b6 {kd a b:Int} {fr:List Int} {tabs:List (List Int)} {i s:List Int} (h:m6 (kd,a,b,fr) tabs i s) (j:Nat):(-2147483648≤i.getD j 0∧i.getD j 0≤2147483647)∧-2147483648≤s.getD j 0∧s.getD j 0≤2147483647 :=
 ⟨s7.1 (Y8 h.2.2.2.1 j),s7.1 (Y8 h.2.2.2.2 j)⟩
def A23 (n:A6):Prop:=∃tb:Int,M6 n tb=true
theorem A86 {kd a b:Int} {fr:List Int} (h:A23 (kd,a,b,fr)):1≤kd∧kd≤17∧(kd=6→1≤a∧a≤16)∧(kd=17→1≤b∧b≤16):=by
 obtain⟨tb,h⟩:=h;obtain⟨q1,q2,q3,q4,q5,q6,q7,_⟩:=t6 h
 obtain⟨r1,r2,_⟩:=b5 h
 exact⟨r1,r2,q3,q7⟩
theorem C8n (n:Int):IntKind.i64.wrap (IntKind.i32.wrap n)=wrap32 n:=by
 rw[show IntKind.i32.wrap n=wrap32 n by simp[IntKind.wrap,wrap32,IntKind.bits,IntKind.signed]<;>omega,F3 (by have:=B1p n;omega)]
theorem F5 (n:Int):wrap32 (IntKind.i64.wrap n)=wrap32 n:=by
 rw[show IntKind.i64.wrap n=wrap64 n by simp[IntKind.wrap,wrap64,IntKind.bits,IntKind.signed]<;>omega,C0r]
theorem C9U (n:Int):IntKind.i64.wrap (IntKind.u32.wrap n)=uns n:=by
 rw[show IntKind.u32.wrap n=uns n by simp[IntKind.wrap,uns,IntKind.bits,IntKind.signed]<;>omega,F3 (by unfold uns;omega)]
theorem B2Z (n:Int):0≤uns n∧uns n≤4294967295:=by unfold uns;omega
theorem C9D (n:Int):IntKind.i64.wrap ((BitVec.ofInt IntKind.i64.bits n &&& BitVec.ofInt IntKind.i64.bits 4294967295).toNat:Int)=uns n:=C7c n
theorem G1 {kd:Int} {i s:List Int} {o:Int} (h1:kd≠6) (h2:kd≠7) (h3:kd≠8) (h4:kd≠12) (h5:kd≠14) (h6:kd≠16) (h7:kd≠17):m0 kd i s o=[]:=by
 unfold m0;rw[if_neg h1,if_neg h2,if_neg h3,if_neg h4,if_neg h5,if_neg h6,if_neg h7]
theorem D5 {kd a b:Int} {fr:List Int} (h1:kd≠6) (h2:kd≠7) (h3:kd≠8) (h4:kd≠12) (h5:kd≠14) (h6:kd≠16) (h7:kd≠17):D4 (kd,a,b,fr)=[]:=by
 unfold D4;simp[h1,h2,h3,h4,h5,h6,h7]
theorem C7y (n:Int):n.fdiv (2 ^ (min (Int.toNat 32) IntKind.i64.bits))=n / 4294967296:=by
 rw[show (2:Int) ^ (min (Int.toNat 32) IntKind.i64.bits)=4294967296 from rfl,Int.fdiv_eq_ediv_of_nonneg _ (by omega)]
theorem B8K (n:Int):n.fdiv (2 ^ (min 32 64))=n / 4294967296:=C7y n
theorem i8 {a x:Int} (h:0≤a∧a≤2147483647):(if (if x < a then x else a) > IntKind.i64.wrap (0 - a) then (if x < a then x else a) else IntKind.i64.wrap (0 - a))=B1n a x:=by
 rw[F3 (by omega)];unfold B1n;(repeat' split)<;>omega
theorem B9U {t:List Int} {x:Int} (h:1≤t.length) (h2:t.length≤16):0≤(t.length:Int) * uns x∧(t.length:Int) * uns x≤68719476720∧0≤((t.length:Int) * uns x) / 4294967296∧((t.length:Int) * uns x) / 4294967296 < t.length:=by
 obtain⟨a1,a2⟩:=B2Z x
 generalize uns x=u at *
 have b1:=Int.mul_nonneg (show (0:Int)≤t.length by omega) a1
 have b2:(t.length:Int) * u≤t.length * 4294967295:=Int.mul_le_mul_of_nonneg_left a2 (by omega)
 refine⟨b1,by omega,Int.ediv_nonneg b1 (by omega),?_⟩
 exact Int.ediv_lt_of_lt_mul (by omega) (by omega)
theorem C96 (n:Int):IntKind.i64.wrap ((BitVec.ofInt IntKind.i64.bits n &&& BitVec.ofInt IntKind.i64.bits 1).toNat:Int)=n % 2:=by
 have e:BitVec.ofInt IntKind.i64.bits 1=BitVec.ofNat 64 (2 ^ 1 - 1):=rfl
 have h:((BitVec.ofInt 64 n &&& BitVec.ofNat 64 (2 ^ 1 - 1)).toNat:Int)=n % 2:=by
  rw[BitVec.toNat_and,BitVec.toNat_ofNat,show (2 ^ 1 - 1) % 2 ^ 64=2 ^ 1 - 1 from rfl,Nat.and_two_pow_sub_one_eq_mod,BitVec.toNat_ofInt]
  omega
 rw[show ((BitVec.ofInt IntKind.i64.bits n &&& BitVec.ofInt IntKind.i64.bits 1).toNat:Int)=n % 2 from h]
 exact F3 (by omega)
theorem C9N (n:Int):IntKind.i64.wrap ((BitVec.ofInt IntKind.i64.bits n ^^^ BitVec.ofInt IntKind.i64.bits 2734686208).toNat:Int)=C1b n:=rfl
theorem A8j {s:Int} (h:s % 2=1):A1E s=wrap32 (C1b (uns s / 2)):=by unfold A1E;rw[decide_eq_true h]
theorem B0W {s:Int} (h:¬s % 2=1):A1E s=wrap32 (uns s / 2):=by unfold A1E;rw[decide_eq_false h]
theorem A4N {α β:Type} {f:α→β} {xs:List α} {k:Nat} (d:α) (h:k < xs.length):(xs.take k).map f++[f (xs.getD k d)]=(xs.take (k+1)).map f:=by
 rw[E7 (d:=d) h,List.map_append,List.map_cons,List.map_nil]
theorem C1Y {n:Int} (h:0≤n∧n≤9223372036854775807):IntKind.u64.wrap n=n:=by
 simp[IntKind.wrap,IntKind.bits,IntKind.signed];omega
theorem N3 {a:Int} {tb:List (List Int)} {i s:List Int} (h:0≤i.getD 0 0):o7 15 a tb i s=i.getD 1 0:=by
 show (match decide (0≤i.getD 0 0) with|true=>i.getD 1 0|false=>i.getD 2 0)=_
 rw[decide_eq_true h]
theorem N7 {a:Int} {tb:List (List Int)} {i s:List Int} (h:¬0≤i.getD 0 0):o7 15 a tb i s=i.getD 2 0:=by
 show (match decide (0≤i.getD 0 0) with|true=>i.getD 1 0|false=>i.getD 2 0)=_
 rw[decide_eq_false h]
theorem Q6 {a:Int} {tb:List (List Int)} {i s:List Int} (h:0 < i.getD 1 0):o7 16 a tb i s=i.getD 0 0:=by
 show (match decide (0 < i.getD 1 0) with|true=>i.getD 0 0|false=>s.getD 0 0)=_
 rw[decide_eq_true h]
theorem Q1 {a:Int} {tb:List (List Int)} {i s:List Int} (h:¬0 < i.getD 1 0):o7 16 a tb i s=s.getD 0 0:=by
 show (match decide (0 < i.getD 1 0) with|true=>i.getD 0 0|false=>s.getD 0 0)=_
 rw[decide_eq_false h]
theorem C1d (n:Int):IntKind.i64.wrap ((@BitVec.toNat 64 (@HAnd.hAnd (BitVec 64) (BitVec 64) (BitVec 64) (@instHAndOfAndOp (BitVec IntKind.i64.bits) (@BitVec.instAndOp IntKind.i64.bits)) (BitVec.ofInt 64 n) (BitVec.ofInt 64 4294967295)):Nat):Int)=uns n:=C9D n
theorem C97 (n:Int):IntKind.i64.wrap ((@BitVec.toNat 64 (@HAnd.hAnd (BitVec 64) (BitVec 64) (BitVec 64) (@instHAndOfAndOp (BitVec IntKind.i64.bits) (@BitVec.instAndOp IntKind.i64.bits)) (BitVec.ofInt 64 n) (BitVec.ofInt 64 1)):Nat):Int)=n % 2:=C96 n
theorem C8U (n:Int):IntKind.i64.wrap ((@BitVec.toNat 64 (@HXor.hXor (BitVec 64) (BitVec 64) (BitVec 64) (@instHXorOfXorOp (BitVec IntKind.i64.bits) (@BitVec.instXorOp IntKind.i64.bits)) (BitVec.ofInt 64 n) (BitVec.ofInt 64 2734686208)):Nat):Int)=C1b n:=rfl
theorem C2n (n:Int):n.fdiv (2 ^ (min 1 64))=n / 2:=by
 rw[show (2:Int) ^ (min 1 64)=2 from rfl,Int.fdiv_eq_ediv_of_nonneg _ (by omega)]
theorem A3T (x y:Int):wrap32 (IntKind.i64.wrap (x+IntKind.i64.wrap y))=wrap32 (x+y):=by
 rw[F5];have h:=F5 y
 rw[←Q9 x (IntKind.i64.wrap y),h,Q9]
theorem C9Q (x y:Int):wrap32 (IntKind.i64.wrap (wrap32 x+wrap32 y))=wrap32 (x+y):=by rw[F5,Q9]
theorem C9E (x y:Int):wrap32 (IntKind.i64.wrap (wrap32 x - wrap32 y))=wrap32 (x - y):=by rw[F5,B77]
theorem C9g (x y:Int):wrap32 (IntKind.i64.wrap (wrap32 x * wrap32 y))=wrap32 (x * y):=by rw[F5,A5f]
theorem wAM (x a s:Int):wrap32 (x+wrap32 (a * s))=wrap32 (x+a * s):=by
 rw[←Q9 x (wrap32 (a * s)),B4G,Q9]
theorem B0I {a x:Int} (h:0≤a∧a≤2147483647):A0f (IntKind.i64.wrap (0 - a)) (A4F x a)=B1n a x:=by
 rw[F3 (by omega)];unfold B1n A0f A4F;rw[show (0:Int) - a=-a by omega]
theorem B60 {x:Int} (h:2147483647 < uns x):uns x - 4294967296=wrap32 x:=by unfold uns wrap32 at *;omega
theorem B5P {x:Int} (h:uns x≤2147483647):uns x=wrap32 x:=by unfold uns wrap32 at *;omega
theorem B5y {s:Int} (h:uns s % 2=1):A1E s=wrap32 (C1b (uns s / 2)):=A8j (by unfold uns at h;omega)
theorem B5W {s:Int} (h:¬uns s % 2=1):A1E s=wrap32 (uns s / 2):=B0W (by unfold uns at h;omega)
theorem l7 {kd a:Int} {tb:List (List Int)} {i s:List Int} (h:kd=1∨kd=2∨kd=3∨kd=4∨kd=5∨kd=9∨kd=10∨kd=11∨kd=13∨kd=15):o7 kd a tb i []=o7 kd a tb i s:=by
 rcases h with rfl|rfl|rfl|rfl|rfl|rfl|rfl|rfl|rfl|rfl<;>rfl
def A9i (n:A6) (frame vals:List Int):Prop:=(n.1=1→0≤n.2.1∧n.2.1 < frame.length)∧N9 vals.length n.2.2.2=true∧n.2.2.2.length≤1000
theorem A4k {p:A3} {fr v:List Int} (h:C0 p=true) (hf:(fr.length:Int)=p.1) (hv:v.length=p.2.2.1.length) {i:Nat} (hi:i < p.2.2.1.length):A9i (p.2.2.1.getD i n0) fr v:=by
 obtain⟨h1,h2,h3⟩:=G6 (d9 h hi)
 generalize p.2.2.1.getD i n0=n at *
 obtain⟨kd,a,b,ff⟩:=n;obtain⟨q1,q2,q3,q4,q5,q6,q7,q8,q9,q10,q11⟩:=t6 h1
 obtain⟨r1,r2,_⟩:=b5 h1
 simp only at h2 h3 r1 r2
 refine⟨fun e=>?_,by rw[hv];exact h2,?_⟩
 · have e:kd=1:=e
   have:=q2 e
   exact⟨this.1,by show a < _;omega⟩
 · show ff.length≤1000
   have c:kd=3∨kd=4∨kd=9∨kd=16∨(kd=5∨kd=6∨kd=7∨kd=8∨kd=10∨kd=11∨kd=12∨kd=13∨kd=17)∨kd=15∨kd=1∨kd=2∨kd=14:=by omega
   have:=@C6l kd
   have h5:=(b5 h1).2.2.2.2.1
   simp only at h5
   omega
theorem B44 {kd a b:Int} {ff fr v:List Int} (h:kd=1):Q8 (kd,a,b,ff) fr v=[fr.getD a.toNat 0]:=by unfold Q8;simp only[decide_eq_true h]
theorem B34 {kd a b:Int} {ff fr v:List Int} (h:¬kd=1):Q8 (kd,a,b,ff) fr v=ff.map fun q=>v.getD q.toNat 0:=by unfold Q8;simp only[decide_eq_false h]
def A03 (p:A3) (s:List (List Int)) (i:Nat):Bool:=decide ((s.getD i []).length=(D4 (p.2.2.1.getD i n0)).length) && D9 (s.getD i [])
theorem C1F {p:A3} {s:List (List Int)} (h:¬s.length=p.2.2.1.length):z7 p s=false:=by unfold z7;rw[decide_eq_false h];rfl
theorem C16 {p:A3} {s:List (List Int)} {k:Nat} (hk:k < p.2.2.1.length) (h:A03 p s k=false):z7 p s=false:=by
 rw[←Bool.not_eq_true,A2b];rintro⟨_,h2⟩
 obtain⟨a1,a2⟩:=h2 k hk
 unfold A03 at h;rw[decide_eq_true a1,a2] at h;cases h
theorem C1f {p:A3} {s:List (List Int)} {k:Nat} (h0:s.length=p.2.2.1.length) (hk:¬k < p.2.2.1.length) (h:∀i,i < k→A03 p s i=true):z7 p s=true:=by
 rw[A2b];refine⟨h0,fun i hi=>?_⟩
 have:=h i (by omega)
 simp only[A03,Bool.and_eq_true,decide_eq_true_eq] at this
 exact this
theorem B6w {p:A3} {s:List (List Int)} {k:Nat} (h:∀i,i < k→A03 p s i=true) (hk:A03 p s k=true):∀i,i < k+1→A03 p s i=true:=fun i hi=>by
 rcases Nat.lt_succ_iff_lt_or_eq.1 hi with h'|rfl
 · exact h i h'
 · exact hk
def A15 (p:A3) (s:List (List Int)) (fr:List Int):Int:=match B9 p && z7 p s with
 | false=>1
 | true => match decide ((fr.length : Int) = p.1) && D9 fr with
   | false=>2
   | true=>0
theorem C61 {p:A3} {s:List (List Int)} {fr:List Int} (h:(B9 p && z7 p s)=false):A15 p s fr=1:=by unfold A15;rw[h]
theorem B8D {p:A3} {s:List (List Int)} {fr:List Int} (h:(B9 p && z7 p s)=true) (h2:(decide ((fr.length:Int)=p.1) && D9 fr)=false):A15 p s fr=2:=by unfold A15;rw[h,h2]
theorem B8F {p:A3} {s:List (List Int)} {fr:List Int} (h:(B9 p && z7 p s)=true) (h2:(decide ((fr.length:Int)=p.1) && D9 fr)=true):A15 p s fr=0:=by unfold A15;rw[h,h2]
theorem C2r {p:A3} {s:List (List Int)} {fr:List Int} (h:A15 p s fr=0):B9 p=true∧U3 p s∧(fr.length:Int)=p.1∧D9 fr=true:=by
 unfold A15 at h;cases h1:B9 p && z7 p s<;>cases h2:decide ((fr.length:Int)=p.1) && D9 fr<;>simp[h1,h2] at h
 simp only[Bool.and_eq_true,decide_eq_true_eq] at h1 h2
 exact⟨h1.1,A2b.1 h1.2,h2.1,h2.2⟩
def A7z (p:A3) (s:List (List Int)) (fr:List Int):List Int × List (List Int) × Int:=match decide (A15 p s fr=0) with
 | false=>([],[],A15 p s fr)
 | true=>(J4 p (E8 p s fr),S6 p s fr (E8 p s fr),0)
theorem C5Z {p:A3} {s:List (List Int)} {fr:List Int} (h:¬A15 p s fr=0):A7z p s fr=([],[],A15 p s fr):=by unfold A7z;rw[decide_eq_false h]
theorem B9J {p:A3} {s:List (List Int)} {fr:List Int} (h:A15 p s fr=0):A7z p s fr=(J4 p (E8 p s fr),S6 p s fr (E8 p s fr),0):=by unfold A7z;rw[decide_eq_true h]
theorem C3z {p:A3} {s:List (List Int)} {fr v:List Int} {i:Nat} (h:(p.2.2.1.getD i n0).1=6):A07 p s fr v i=(s.getD i []).getD 0 0:=by unfold A07;rw[h];rfl
theorem B5f {p:A3} {s:List (List Int)} {i:Nat} {c:List Int} (h:U3 p s) (hc:c.length=(D4 (p.2.2.1.getD i n0)).length∧D9 c=true):U3 p (s.set i c):=by
 refine⟨by rw[List.length_set];exact h.1,fun j hj=>?_⟩
 by_cases hi:i < s.length
 · rw[N1 hi]
   split
   · rename_i e;subst e;exact hc
   · exact h.2 j hj
 · rw[List.set_eq_of_length_le (by omega)];exact h.2 j hj
theorem B3J {p:A3} {s:List (List Int)} {fr v0:List Int} (h:C0 p=true) (hs:U3 p s) (hf:D9 fr=true) (hv:R6 p v0):∀k,k≤(C6 p.2.2.1).length→R6 p (D2 p fr (v0,s) ((C6 p.2.2.1).take k)).1∧U3 p (D2 p fr (v0,s) ((C6 p.2.2.1).take k)).2:=by
 intro k
 induction k with
 | zero=>intro _;exact⟨hv,hs⟩
 | succ k ih =>
   intro hk;obtain⟨a1,a2⟩:=ih (by omega)
   obtain⟨i,h1,h2,_⟩:=Y5 p.2.2.1 k (by omega)
   rw[A2o (by omega),h1]
   generalize D2 p fr (v0,s) ((C6 p.2.2.1).take k)=st at *
   obtain⟨v1,s1⟩:=st;simp only at a1 a2
   have hst:=s8 h a2 hf a1.2 h2
   have ho:=A9b hst
   simp only[O7,Int.toNat_natCast];refine⟨⟨by rw[List.length_set];exact a1.1,A9U a1.2 ho⟩,?_⟩
   split
   · exact a2
   · exact B5f a2 (B0G hst ho)
theorem B8y {p:A3} {s:List (List Int)} {fr v:List Int} (h:C0 p=true) (hs:U3 p s) (hf:D9 fr=true) (hv:R6 p v):∀k,k≤p.2.2.1.length→U3 p (Q7 p fr v s k):=by
 intro k
 induction k with
 | zero=>intro _;exact hs
 | succ k ih =>
   intro hk;have a:=ih (by omega)
   simp only[Q7,A0w]
   split
   · have hst:=s8 h a hf hv.2 (i:=k) (by omega)
     exact B5f a (B0G hst (A9b hst))
   · exact a
theorem B6D {p:A3} {s:List (List Int)} {fr v0:List Int} (h:C0 p=true) (hs:U3 p s) (hf:D9 fr=true) (hv:R6 p v0):R6 p (D2 p fr (v0,s) (C6 p.2.2.1)).1∧U3 p (D2 p fr (v0,s) (C6 p.2.2.1)).2:=by
 have:=B3J h hs hf hv _ (Nat.le_refl _)
 rwa [List.take_length] at this
theorem B8g {kd:Int} {i s:List Int} {o o':Int} (h:kd=6):m0 kd i s o=m0 kd i s o':=by subst h;rfl
theorem A1O {n:A6} {tb:Int} (h:M6 n tb=true):(D4 n).length≤16:=by
 obtain⟨kd,a,b,fr⟩:=n;obtain⟨q1,_,q3,_,_,_,q7,_⟩:=t6 h
 rw[A5E];simp only
 split
 · rename_i e;have:=q3 e;omega
 split
 · rename_i e;have:=q7 e;omega
 split<;>omega
theorem C22 {ns:List A6} (h:(C6 ns).length=ns.length):B3n ns=(C6 ns,true):=by unfold B3n;rw[decide_eq_true h]
theorem C38 {p:A3} {s:List (List Int)} {i:Nat} (h:¬(s.getD i []).length=(D4 (p.2.2.1.getD i n0)).length):A03 p s i=false:=by unfold A03;rw[decide_eq_false h];rfl
theorem C2G {p:A3} {s:List (List Int)} {i:Nat} (h:D9 (s.getD i [])=false):A03 p s i=false:=by unfold A03;rw[h,Bool.and_false]
theorem C5b {p:A3} {s:List (List Int)} {i:Nat} (h:(s.getD i []).length=(D4 (p.2.2.1.getD i n0)).length) (k:D9 (s.getD i [])=true):A03 p s i=true:=by unfold A03;rw[decide_eq_true h,k];rfl
theorem C3t {xs:List Int} (h:xs.length≤4000):A36 xs=D9 xs:=by unfold A36;rw[decide_eq_true h];rfl
open Go.RowKit
theorem k9 (x y:Int):wrap32 (x+IntKind.i64.wrap y)=wrap32 (x+y):=by
 rw[←A3T x y,F5]
theorem C4A {p:A3} {s:List (List Int)} (h:C0 p=true) (hs:U3 p s):B04 s:=by
 have hn:=(A8 h).1
 refine⟨by have:=hs.1;omega,fun l hl=>?_⟩
 obtain⟨j,hj,rfl⟩:=List.mem_iff_getElem.1 hl
 have hj':j < p.2.2.1.length:=by rw[←hs.1];exact hj
 have h1:=(hs.2 j hj').1
 have h2:=A1O (G6 (d9 h hj')).1
 have e:s.getD j []=s[j]:=by simp[List.getD,hj]
 rw[e] at h1;omega
end Go.Proofs.YtgaogcnfijbahaaGreat
