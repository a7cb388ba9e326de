/-
  Texts of this claim, joined (part 4). No condition beyond those of the theorems.
-/
import Derived.Test.YtenjbehedcegdaaGreatQ03
import Derived.Test.YtenjbehedcegdaaGreatQ02
set_option linter.unusedSimpArgs false
set_option linter.unusedVariables false
namespace Go.Proofs.YtenjbehedcegdaaGreat
abbrev B1:=Int × Int × Int × List Int
abbrev B7:=Int × List (List Int) × List B1 × List Int
def B05:List (Int × Int × Int × Bool × Bool) :=
 [(0,0,3,true,false),(0,-2147483648,2147483647,false,false),(2,1,0,true,false),(2,1,0,true,false),(1,-2147483648,2147483647,true,false),(1,1,16,true,false),
  (1,1,0,true,false),(1,1,0,true,false),(2,1,0,false,false),(1,0,31,false,false),(1,0,2147483647,false,false),(1,-2147483648,2147483647,false,false),
  (1,0,3,false,false),(0,-2147483648,2147483647,false,false),(3,1,0,false,false),(2,1,0,false,false),(1,-2147483648,2147483647,true,true)]
def kT (k:Int):Int × Int × Int × Bool × Bool:=B05.getD (k - 1).toNat (0,0,0,false,false)
def A4D:List (ByteArray × Int × Int × Int × Bool × Bool) :=
 [(⟨#[105,110,112,117,116]⟩,0,0,3,true,false),
  (⟨#[99,111,110,115,116]⟩,0,-2147483648,2147483647,false,false),
  (⟨#[97,100,100]⟩,2,1,0,true,false),
  (⟨#[115,117,98]⟩,2,1,0,true,false),
  (⟨#[103,97,105,110]⟩,1,-2147483648,2147483647,true,false),
  (⟨#[100,101,108,97,121]⟩,1,1,16,true,false),
  (⟨#[115,117,109]⟩,1,1,0,true,false),
  (⟨#[100,105,102,102]⟩,1,1,0,true,false),
  (⟨#[109,117,108]⟩,2,1,0,false,false),
  (⟨#[115,104,105,102,116]⟩,1,0,31,false,false),
  (⟨#[99,108,105,112]⟩,1,0,2147483647,false,false),
  (⟨#[112,104,97,115,101]⟩,1,-2147483648,2147483647,false,false),
  (⟨#[116,97,98,108,101]⟩,1,0,3,false,false),
  (⟨#[110,111,105,115,101]⟩,0,-2147483648,2147483647,false,false),
  (⟨#[115,101,108,101,99,116]⟩,3,1,0,false,false),
  (⟨#[104,111,108,100]⟩,2,1,0,false,false),
  (⟨#[99,111,109,98]⟩,1,-2147483648,2147483647,true,true)]
theorem B4U {k:Int} (h:I6 k 1 17=true):(A4D.getD (k - 1).toNat (ByteArray.empty,0,0,0,false,false)).2=kT k∧0≤k - 1∧k - 1 < 17:=by
 obtain⟨h1,h2⟩:=B4.1 h
 refine⟨?_,by omega,by omega⟩
 obtain⟨m,hm⟩:∃m:Nat,k - 1=m:=⟨(k - 1).toNat,by omega⟩
 have hm':m < 17:=by omega
 unfold kT;rw[hm,Int.toNat_natCast];have key:∀m:_root_.Fin 17,(A4D.getD m.1 (ByteArray.empty,0,0,0,false,false)).2=B05.getD m.1 (0,0,0,false,false):=by decide
 exact key ⟨m,hm'⟩
def O7 (n:B1) (tables:Int):Bool :=
 I6 n.1 1 17 && (match decide ((kT n.1).2.1≤(kT n.1).2.2.1) with|true=>I6 n.2.1 (kT n.1).2.1 (kT n.1).2.2.1|false=>decide (n.2.1=0)) &&
  (match (kT n.1).2.2.2.2 with|true=>I6 n.2.2.1 1 16|false=>decide (n.2.2.1=0)) && n.2.2.2.all (fun f=>I6 f 0 23) && decide ((n.2.2.2.length:Int)=(kT n.1).1) && (!decide (n.1=13) || decide (n.2.1 < tables))
def A51 (t:List Int):Bool:=(decide (t.length=2) || decide (t.length=4) || decide (t.length=8) || decide (t.length=16)) && I9 t
def Y6 (ts:List (List Int)):Bool:=ts.all A51 && decide (ts.length≤4)
def S7 (p:B7) (n:B1):Bool:=O7 n p.2.1.length && N2 p.2.2.1.length n.2.2.2 && !(decide (n.1=1) && decide (p.1≤n.2.1))
def E4 (p:B7):Bool:=I6 p.1 0 4 && Y6 p.2.1 && decide (p.2.2.1.length≤24) && decide (p.2.2.2.length≤4) && N2 p.2.2.1.length p.2.2.2 && p.2.2.1.all (S7 p)
def G9 (n:B1):List Int:=match decide (n.1=6) with|true=>[]|false=>n.2.2.2
def n0:B1:=(0,0,0,[])
def P7 (ns:List B1) (out:List Int) (i:Nat):Bool:=!out.contains (i:Int) && (G9 (ns.getD i n0)).all (fun f=>out.contains f)
def A18 (ns:List B1) (out:List Int):Option Nat:=(List.range ns.length).find? (P7 ns out)
def A1y (ns:List B1):Nat→List Int→List Int
 | 0,out=>out
 | k + 1, out => match A18 ns out with
   | none=>out
   | some i=>A1y ns k (out++[(i:Int)])
def E3 (ns:List B1):List Int:=A1y ns ns.length []
def G3 (p:B7):Bool:=E4 p && decide ((E3 p.2.2.1).length=p.2.2.1.length)
theorem A2x {ns:List B1} {out:List Int} (h:∀j,j < ns.length→P7 ns out j=false):A18 ns out=none:=by
 simp only[A18,List.find?_eq_none,List.mem_range,Bool.not_eq_true];exact h
theorem A5k {ns:List B1} {out:List Int} {i:Nat} (hi:i < ns.length) (h:∀j,j < i→P7 ns out j=false) (k:P7 ns out i=true):A18 ns out=some i:=by
 simp only[A18]
 have e:List.range ns.length=List.range i++i::(List.range' (i+1) (ns.length - i - 1)):=by
  have:=@List.range'_append_1 0 i (ns.length - i)
  rw[Nat.zero_add,(by omega:i+(ns.length - i)=ns.length)] at this
  rw[List.range_eq_range',List.range_eq_range',←this]
  congr 1
  rw[(by omega:ns.length - i=(ns.length - i - 1)+1),List.range'_succ]
  congr 2
 rw[e,List.find?_append,List.find?_eq_none.2 (fun j hj=>by simpa using h j (List.mem_range.1 hj)),Option.none_or,List.find?_cons_of_pos k]
theorem A6j {ns:List B1} {out:List Int} (k:Nat) (h:A18 ns out=none):A1y ns k out=out:=by
 cases k with
 | zero=>rfl
 | succ k=>simp only[A1y,h]
theorem A6e {ns:List B1} {out:List Int} {k i:Nat} (h:A18 ns out=some i):A1y ns (k+1) out=A1y ns k (out++[(i:Int)]):=by simp only[A1y,h]
theorem B3X {tk:List Bool} {i:Nat} (hi:i < tk.length) (h:tk.getD i false=false):(tk.set i true).count false+1=tk.count false:=by
 induction tk generalizing i with
 | nil=>simp at hi
 | cons b tk ih =>
   cases i with
   | zero=>simp at h;subst h;simp
   | succ i =>
     have:=ih (i:=i) (by simpa using hi) (by simpa using h)
     rw[List.set_cons_succ,List.count_cons,List.count_cons];omega
def OrdI (ns:List B1) (tk:List Bool) (out:List Int):Prop :=
 tk.length=ns.length∧(∀j,j < ns.length→tk.getD j false=out.contains (j:Int))∧A1y ns (tk.count false) out=E3 ns∧out.length+tk.count false=ns.length
theorem B29 (ns:List B1):OrdI ns (List.replicate ns.length false) []:=by
 refine⟨by simp,fun j hj=>?_,by simp[E3],by simp⟩
 simp only[List.getD,List.getElem?_replicate,hj,if_true,Option.getD_some]
 rfl
theorem A7p {ns:List B1} {tk:List Bool} {out:List Int} (h:OrdI ns tk out) {i:Nat} (hi:i < ns.length):P7 ns out i=(!tk.getD i false && (G9 (ns.getD i n0)).all (fun f=>out.contains f)):=by
 unfold P7;rw[h.2.1 i hi]
theorem OrdI.next {ns:List B1} {tk:List Bool} {out:List Int} {i:Nat} (h:OrdI ns tk out) (hi:i < ns.length) (hno:∀j,j < i→P7 ns out j=false) (hr:P7 ns out i=true) :
 OrdI ns (tk.set i true) (out++[(i:Int)])∧(tk.set i true).count false+1=tk.count false:=by
 obtain⟨h1,h2,h3,h4⟩:=h
 have hf:tk.getD i false=false:=by
  rw[h2 i hi];unfold P7 at hr;simp only[Bool.and_eq_true,Bool.not_eq_true'] at hr
  exact hr.1
 have hc:=B3X (by omega) hf
 have hn:=A5k hi hno hr
 refine⟨⟨by simpa using h1,fun j hj=>?_,?_,by simp;omega⟩,hc⟩
 · by_cases hji:j=i
   · subst hji;simp[List.getD,h1,hj]
   · have e:(tk.set i true).getD j false=tk.getD j false:=by simp[List.getD,List.getElem?_set_ne (Ne.symm hji)]
     rw[e,h2 j hj];have hne:(j:Int)≠(i:Int):=by omega
     simp[List.contains_eq_mem,hne]
 · rw[←h3,←hc,A6e hn]
theorem B6I {ns:List B1} {tk:List Bool} {out:List Int} (h:OrdI ns tk out):out.length≤ns.length:=by have:=h.2.2.2;omega
theorem C0 {p:B7} (h:E4 p=true):p.2.2.1.length≤24∧p.2.2.2.length≤4∧Y6 p.2.1=true∧0≤p.1∧p.1≤4∧N2 p.2.2.1.length p.2.2.2=true∧p.2.2.1.all (S7 p)=true:=by
 simp only[E4,Bool.and_eq_true,decide_eq_true_eq] at h
 obtain⟨⟨⟨⟨⟨h1,h2⟩,h3⟩,h4⟩,h5⟩,h6⟩:=h
 obtain⟨h7,h8⟩:=B4.1 h1
 exact⟨h3,h4,h2,h7,h8,h5,h6⟩
theorem C6 {α:Type} {l:List α} {i:Nat} {d:α} (h:i < l.length):l.getD i d∈l:=by
 simp[List.getD,h]
theorem O1 {n:Int} {xs:List Int} (h:N2 n xs=true) {f:Int} (hf:f∈xs):0≤f∧f≤n - 1:=B4.1 (List.all_eq_true.1 h f hf)
theorem A98 {p:B7} (h:E4 p=true) {i:Nat} (hi:i < p.2.2.1.length) {f:Int} (hf:f∈G9 (p.2.2.1.getD i n0)):0≤f∧f < p.2.2.1.length:=by
 have h1:=List.all_eq_true.1 (C0 h).2.2.2.2.2.2 _ (C6 (d:=n0) hi)
 simp only[S7,Bool.and_eq_true] at h1
 have hf':f∈(p.2.2.1.getD i n0).2.2.2:=by
  unfold G9 at hf
  split at hf
  · cases hf
  · exact hf
 have:=O1 h1.1.2 hf'
 omega
theorem A0n (n:B1):(G9 n).length≤n.2.2.2.length:=by
 unfold G9;split<;>simp
theorem A7F {α:Type} {xs:List α} {q:α→Bool} {m:Nat} {d:α} (h:m < xs.length):(xs.take (m+1)).all q=((xs.take m).all q && q (xs.getD m d)):=by
 rw[J8 (d:=d) h,List.all_append];simp
theorem B6V {xs:List Int} {m:Int} {k:Nat} (hk:k < xs.length) (h:(xs.take k).contains m=false) (hne:¬xs.getD k 0=m):(xs.take (k+1)).contains m=false:=by
 rw[J8 (d:=0) hk]
 simp only[List.contains_eq_mem,List.mem_append,List.mem_singleton,decide_eq_false_iff_not,not_or] at h ⊢
 exact⟨h,fun e=>hne e.symm⟩
theorem B6n {xs:List Int} {m:Int} {k:Nat} (hk:k < xs.length) (h:xs.getD k 0=m):xs.contains m=true:=by
 simp only[List.contains_eq_mem,decide_eq_true_eq];rw[←h];exact C6 hk
theorem B5t {xs:List Int} {m:Int} {k:Nat} (h:(xs.take k).contains m=false) (hk:¬k < xs.length):xs.contains m=false:=by
 rw[List.take_of_length_le (by omega)] at h;exact h
def Z0 (a b:Int):Int:=min a b
def r9 (a b:Int):Int:=max a b
theorem B91 {a b:Int} (h:a≤b):a=Z0 a b:=by unfold Z0;omega
theorem B93 {a b:Int} (h:b≤a):b=Z0 a b:=by unfold Z0;omega
theorem B8c {a b:Int} (h:b≤a):a=r9 a b:=by unfold r9;omega
theorem B98 {a b:Int} (h:a≤b):b=r9 a b:=by unfold r9;omega
def d9 (xs:List Int):Bool:=decide (xs.length≤4000) && I9 xs
def arL:List Int:=[-1,0,0,2,2,1,1,1,1,2,1,1,1,1,0,3,2,1]
def B3K:List Int:=[1,2,5,6,10,11,12,13,14,17]
def A2V (kd a tb:Int):Bool :=
 match decide (kd=1) with
 | true=>I6 a 0 3
 | false => match decide (kd = 6) with
   | true=>I6 a 1 16
   | false => match decide (kd = 10) with
     | true=>I6 a 0 31
     | false => match decide (kd = 11) with
       | true=>I6 a 0 2147483647
       | false => match decide (kd = 13) with
         | true=>I6 a 0 (min (max tb 0) 4 - 1)
         | false => match B3K.contains kd with
           | true=>smp a
           | false=>decide (a=0)
def A4E (kd a bb:Int) (fr:List Int) (tb:Int):Bool :=
 I6 kd 1 17 && A2V kd a tb && decide ((fr.length:Int)=arL.getD kd.toNat 0) && fr.all (fun f=>I6 f 0 23) && (match decide (kd=17) with|true=>I6 bb 1 16|false=>decide (bb=0))
theorem B9K (a tb:Int):I6 a 0 (min (max tb 0) 4 - 1)=(I6 a 0 3 && decide (a < tb)):=by
 rw[Bool.eq_iff_iff];simp only[I6,Bool.and_eq_true,decide_eq_true_eq];omega
theorem B79 (m:Nat) (h1:1≤m) (h2:m≤17) (a tb:Int) :
 A2V m a tb=((match decide ((kT m).2.1≤(kT m).2.2.1) with|true=>I6 a (kT m).2.1 (kT m).2.2.1|false=>decide (a=0)) && (!decide ((m:Int)=13) || decide (a < tb))) ∧
 arL.getD m 0=(kT m).1∧decide ((m:Int)=17)=(kT m).2.2.2.2:=by
 have c:m=1∨m=2∨m=3∨m=4∨m=5∨m=6∨m=7∨m=8∨m=9∨m=10∨m=11∨m=12∨m=13∨m=14∨m=15∨m=16∨m=17:=by omega
 rcases c with rfl|rfl|rfl|rfl|rfl|rfl|rfl|rfl|rfl|rfl|rfl|rfl|rfl|rfl|rfl|rfl|rfl<;>refine⟨?_,rfl,rfl⟩
 case inr.inr.inr.inr.inr.inr.inr.inr.inr.inr.inr.inr.inl=>exact B9K a tb
 all_goals(show _=(_ && true);rw[Bool.and_true];rfl)
theorem B9t (a b c d e:Bool):(a && b && c && d && e)=(a && e && d && c && b):=by
 cases a<;>cases b<;>cases c<;>cases d<;>cases e<;>rfl
theorem B47 (kd a bb:Int) (fr:List Int) (tb:Int):A4E kd a bb fr tb=O7 (kd,a,bb,fr) tb:=by
 cases hk:I6 kd 1 17 with
 | false=>simp[A4E,O7,hk]
 | true =>
   obtain⟨h1,h2⟩:=B4.1 hk
   obtain⟨m,rfl⟩:=Int.eq_ofNat_of_zero_le (by omega:0≤kd)
   obtain⟨e1,e2,e3⟩:=B79 m (by omega) (by omega) a tb
   unfold A4E O7;simp only[hk,Bool.true_and,e1,Int.toNat_natCast,e2,e3];exact B9t _ _ _ _ _
theorem B6p (t:List Int):([2,4,8,16].contains (t.length:Int) && d9 t)=A51 t:=by
 have e:([2,4,8,16].contains (t.length:Int))=(decide (t.length=2) || decide (t.length=4) || decide (t.length=8) || decide (t.length=16)):=by
  rw[Bool.eq_iff_iff];simp only[List.contains_eq_mem,List.mem_cons,List.not_mem_nil,or_false,decide_eq_true_eq,Bool.or_eq_true];omega
 unfold A51 d9;rw[e];cases h:(decide (t.length=2) || decide (t.length=4) || decide (t.length=8) || decide (t.length=16)) with
 | false=>rfl
 | true =>
   simp only[Bool.or_eq_true,decide_eq_true_eq] at h
   rw[decide_eq_true (by omega:t.length≤4000)]
   rfl
theorem B4V {p:B7} {n:B1} (h1:O7 n p.2.1.length=true) (h2:¬(n.1=1∧p.1≤n.2.1)) (h3:∀f∈n.2.2.2,f < (p.2.2.1.length:Int)):S7 p n=true:=by
 have h4:n.2.2.2.all (fun f=>I6 f 0 23)=true:=by simp only[O7,Bool.and_eq_true] at h1;exact h1.1.1.2
 have h5:N2 p.2.2.1.length n.2.2.2=true:=by
  refine List.all_eq_true.2 fun f hf=>B4.2 ⟨(B4.1 (List.all_eq_true.1 h4 f hf)).1,?_⟩
  have:=h3 f hf;omega
 simp only[S7,h1,h5,Bool.true_and];simp only[Bool.not_eq_true',Bool.and_eq_false_iff,decide_eq_false_iff_not]
 by_cases h:n.1=1
 · exact .inr fun hh=>h2 ⟨h,hh⟩
 · exact .inl h
theorem B5G {p:B7} {n:B1} (h1:O7 n p.2.1.length=true) (h2:N2 p.2.2.1.length n.2.2.2=true) (h3:¬(n.1=1∧p.1≤n.2.1)):S7 p n=true:=by
 simp only[S7,h1,h2,Bool.true_and];simp only[Bool.not_eq_true',Bool.and_eq_false_iff,decide_eq_false_iff_not]
 by_cases h:n.1=1
 · exact .inr fun hh=>h3 ⟨h,hh⟩
 · exact .inl h
theorem M6 {p:B7} {n:B1} (h:S7 p n=true):O7 n p.2.1.length=true∧N2 p.2.2.1.length n.2.2.2=true∧¬(n.1=1∧p.1≤n.2.1):=by
 simp only[S7,Bool.and_eq_true,Bool.not_eq_true',Bool.and_eq_false_iff,decide_eq_false_iff_not] at h
 exact⟨h.1.1,h.1.2,fun hh=>h.2.elim (fun g=>g hh.1) (fun g=>g hh.2)⟩
def B0h (ns:List B1):List Int × Bool:=match decide ((E3 ns).length=ns.length) with
 | true=>(E3 ns,true)
 | false=>([],false)
abbrev C10 (n:Nat):Prop:=n≤1099511627776
def B35 (xs:List (List Int)):Prop:=xs.length≤1099511627776∧∀l∈xs,l.length≤1099511627776
def C0f (xs:List B1):Prop:=xs.length≤1099511627776∧∀l∈xs,l.2.2.2.length≤1099511627776
def B9e (p:B7):Prop:=B35 p.2.1∧C0f p.2.2.1∧p.2.2.2.length≤1099511627776
theorem C0u (k:Int):(kT k).1≤3:=by
 have h:∀x∈B05,x.1≤3:=by decide
 unfold kT
 by_cases hk:(k - 1).toNat < B05.length
 · exact h _ (C6 hk)
 · rw[List.getD_eq_getElem?_getD,List.getElem?_eq_none (by omega)];decide
instance:DecidableEq B1:=inferInstanceAs (DecidableEq (Int × Int × Int × List Int))
instance:DecidableEq B7:=instDecidableEqProd
section
variable {α:Type} {mk:Int→α→α} {ct:α→Nat} {xs:List α} {k:Int} {m:Nat}
def eqD (x y:α) [DecidableEq α]:Bool:=decide (x=y)
theorem C0V [DecidableEq α] {x y:α} (h:eqD x y=true):x=y:=of_decide_eq_true h
theorem B9f [DecidableEq α] {x y:α} (h:eqD x y=false):¬x=y:=of_decide_eq_false h
theorem B73 [DecidableEq α] (x:α):eqD x x=true:=decide_eq_true rfl
theorem B2q [DecidableEq α] {ys:List α} (d:α) (hx:m < xs.length) (hl:xs.length=ys.length) (hp:xs.take m=ys.take m) (hq:eqD (xs.getD m d) (ys.getD m d)=true):xs.take (m+1)=ys.take (m+1):=by
 rw[J8 (d:=d) hx,J8 (d:=d) (by omega),hp,C0V hq]
theorem B3G [DecidableEq α] {ys:List α} (hx:xs.length≤m) (hl:xs.length=ys.length) (hp:xs.take m=ys.take m):eqD xs ys=true:=by
 rw[List.take_of_length_le hx,List.take_of_length_le (by omega)] at hp;exact decide_eq_true hp
theorem B3A [DecidableEq α] {ys:List α} (d:α) (hq:eqD (xs.getD m d) (ys.getD m d)=false):eqD xs ys=false:=by
 refine decide_eq_false ?_;rintro rfl;exact B9f hq rfl
theorem B5U [DecidableEq α] {ys:List α} (hq:¬xs.length=ys.length):eqD xs ys=false:=by
 refine decide_eq_false ?_;rintro rfl;exact hq rfl
end
open Go.RowKit
def A7O (a x:Int):Int:=max (-a) (min x a)
def uns (x:Int):Int:=x % 4294967296
def B6O (t:List Int) (x:Int):Int:=t.getD ((t.length * uns x) / 4294967296).toNat 0
def B9M (x a:Int):Int:=x.fdiv (2 ^ (min a.toNat 64))
def B57 (x:Int):Int:=IntKind.i64.wrap ((BitVec.ofInt IntKind.i64.bits x ^^^ BitVec.ofInt IntKind.i64.bits 2734686208).toNat:Int)
def r8 (s:Int):Int:=match decide (s % 2=1) with|true=>wrap32 (B57 (uns s / 2))|false=>wrap32 (uns s / 2)
def x4 (kd a:Int) (tabs:List (List Int)) (i s:List Int):Int :=
 if kd=1 then i.getD 0 0 else if kd=2 then a else if kd=3 then wrap32 (i.getD 0 0+i.getD 1 0) else if kd=4 then wrap32 (i.getD 0 0 - i.getD 1 0) else if kd=5 then wrap32 (a * i.getD 0 0)
 else if kd=6 then s.getD 0 0 else if kd=7 then wrap32 (s.getD 0 0+i.getD 0 0) else if kd=8 then wrap32 (i.getD 0 0 - s.getD 0 0) else if kd=9 then wrap32 (i.getD 0 0 * i.getD 1 0)
 else if kd=10 then B9M (i.getD 0 0) a else if kd=11 then A7O a (i.getD 0 0) else if kd=12 then s.getD 0 0 else if kd=13 then B6O (tabs.getD a.toNat []) (i.getD 0 0)
 else if kd=14 then s.getD 0 0 else if kd=15 then (match decide (0≤i.getD 0 0) with|true=>i.getD 1 0|false=>i.getD 2 0) else if kd=16 then (match decide (0 < i.getD 1 0) with|true=>i.getD 0 0|false=>s.getD 0 0) else wrap32 (i.getD 0 0+a * s.getD 0 0)
def A0D (kd:Int) (i s:List Int) (out:Int):List Int :=
 if kd=6 then s.drop 1++[i.getD 0 0] else if kd=7 then [out] else if kd=8 then [i.getD 0 0] else if kd=12 then [wrap32 (s.getD 0 0+i.getD 0 0)] else if kd=14 then [r8 (s.getD 0 0)]
 else if kd=16 then [out] else if kd=17 then s.drop 1++[out] else []
def I0 (n:B1):List Int :=
 if n.1=6 then List.replicate n.2.1.toNat 0 else if n.1=17 then List.replicate n.2.2.1.toNat 0 else if n.1=7 then [0] else if n.1=8 then [0] else if n.1=16 then [0]
 else if n.1=12 then [n.2.1] else if n.1=14 then [n.2.1] else []
def A0N (n:B1) (frame vals:List Int):List Int:=match decide (n.1=1) with|true=>[frame.getD n.2.1.toNat 0]|false=>n.2.2.2.map fun i=>vals.getD i.toNat 0
def B3W (n:B1):Nat:=match decide (n.1=1) with|true=>1|false=>n.2.2.2.length
theorem y6 {x:Int}:smp x=true↔-2147483648≤x∧x≤2147483647:=B4
theorem A3l (x:Int):smp (wrap32 x)=true:=y6.2 (A7q x)
theorem M3 {xs:List Int}:I9 xs=true↔∀x∈xs,smp x=true:=List.all_eq_true
theorem Q7 {xs:List Int} (h:I9 xs=true) (i:Nat):smp (xs.getD i 0)=true:=by
 by_cases hi:i < xs.length
 · exact M3.1 h _ (C6 hi)
 · rw[List.getD_eq_getElem?_getD,List.getElem?_eq_none (by omega)];rfl
theorem O5 {n:B1} {tb:Int} (h:O7 n tb=true):1≤n.1∧n.1≤17∧(match decide ((kT n.1).2.1≤(kT n.1).2.2.1) with|true=>I6 n.2.1 (kT n.1).2.1 (kT n.1).2.2.1|false=>decide (n.2.1=0))=true ∧
 (match (kT n.1).2.2.2.2 with|true=>I6 n.2.2.1 1 16|false=>decide (n.2.2.1=0))=true∧(n.2.2.2.length:Int)=(kT n.1).1∧(n.1=13→n.2.1 < tb):=by
 simp only[O7,Bool.and_eq_true,decide_eq_true_eq,Bool.or_eq_true,Bool.not_eq_true',decide_eq_false_iff_not] at h
 obtain⟨⟨⟨⟨⟨h1,h2⟩,h3⟩,h4⟩,h5⟩,h6⟩:=h
 obtain⟨h7,h8⟩:=B4.1 h1
 exact⟨h7,h8,h2,h3,h5,fun e=>by rcases h6 with h6|h6;exact absurd e h6;exact h6⟩
theorem Y2 {kd a b tb:Int} {fr:List Int} (h:O7 (kd,a,b,fr) tb=true):smp a=true∧(kd=1→0≤a∧a≤3)∧(kd=6→1≤a∧a≤16)∧(kd=10→0≤a∧a≤31)∧(kd=11→0≤a)∧(kd=13→0≤a∧a≤3∧a < tb)∧(kd=17→1≤b∧b≤16) ∧
 (kd=3∨kd=4∨kd=9∨kd=16→fr.length=2)∧(kd=5∨kd=6∨kd=7∨kd=8∨kd=10∨kd=11∨kd=12∨kd=13∨kd=17→fr.length=1)∧(kd=15→fr.length=3)∧(kd=1∨kd=2∨kd=14→fr.length=0):=by
 obtain⟨h1,h2,h3,h4,h5,h6⟩:=O5 h
 simp only at h1 h2 h3 h4 h5 h6
 obtain⟨m,rfl⟩:=Int.eq_ofNat_of_zero_le (by omega:0≤kd)
 have c:m=1∨m=2∨m=3∨m=4∨m=5∨m=6∨m=7∨m=8∨m=9∨m=10∨m=11∨m=12∨m=13∨m=14∨m=15∨m=16∨m=17:=by omega
 rcases c with rfl|rfl|rfl|rfl|rfl|rfl|rfl|rfl|rfl|rfl|rfl|rfl|rfl|rfl|rfl|rfl|rfl<;>simp[kT,B05,I6,smp,-Int.not_lt] at h3 h4 h5 h6 ⊢<;>(try subst h5)<;>(try simp)<;>(try omega)
theorem A2m (n:B1):(I0 n).length=(if n.1=6 then n.2.1.toNat else if n.1=17 then n.2.2.1.toNat else if n.1=7∨n.1=8∨n.1=16∨n.1=12∨n.1=14 then 1 else 0):=by
 unfold I0;repeat' split
 all_goals first|(simp;done)|(simp_all;done)|omega
def stepOk (n:B1) (tabs:List (List Int)) (i s:List Int):Prop:=O7 n tabs.length=true∧Y6 tabs=true∧i.length=B3W n∧s.length=(I0 n).length∧I9 i=true∧I9 s=true
theorem z6 {ts:List (List Int)} (h:Y6 ts=true):ts.length≤4∧∀t∈ts,(t.length=2∨t.length=4∨t.length=8∨t.length=16)∧I9 t=true:=by
 simp only[Y6,Bool.and_eq_true,decide_eq_true_eq] at h
 refine⟨h.2,fun t ht=>?_⟩
 have:=List.all_eq_true.1 h.1 t ht
 simp only[A51,Bool.and_eq_true,Bool.or_eq_true,decide_eq_true_eq] at this
 exact⟨by omega,this.2⟩
theorem B6P {x a:Int} (h:smp x=true):smp (B9M x a)=true:=by
 rw[y6] at *
 unfold B9M
 have hp:(1:Int)≤2 ^ (min a.toNat 64):=by
  have:(0:Int) < 2 ^ (min a.toNat 64):=Int.pow_pos (by omega)
  omega
 generalize (2:Int) ^ (min a.toNat 64)=m at *
 rw[Int.fdiv_eq_ediv_of_nonneg _ (by omega)]
 constructor
 · exact Int.le_trans (by omega) ((Int.le_ediv_iff_mul_le (by omega)).2 (by
    have:-2147483648 * m≤-2147483648 * 1:=Int.mul_le_mul_of_nonpos_left (by omega) hp
    omega):-2147483648≤x / m)
 · rcases Int.lt_or_le x 0 with hx|hx
   · have:=Int.ediv_neg_of_neg_of_pos hx (by omega:0 < m);omega
   · have:=Int.ediv_le_self m hx;omega
theorem B62 {t:List Int} {x:Int} (h:I9 t=true):smp (B6O t x)=true:=Q7 h _
theorem P4 {c:Prop} [Decidable c] {x y:Int} (h1:c→smp x=true) (h2:¬c→smp y=true):smp (if c then x else y)=true:=by
 by_cases h:c
 · rw[if_pos h];exact h1 h
 · rw[if_neg h];exact h2 h
theorem A9p {n:B1} {tabs:List (List Int)} {i s:List Int} (h:stepOk n tabs i s):smp (x4 n.1 n.2.1 tabs i s)=true:=by
 obtain⟨kd,a,b,fr⟩:=n;obtain⟨h1,h2,h3,h4,h5,h6⟩:=h;obtain⟨q1,q2,q3,q4,q5,q6,_⟩:=Y2 h1
 have hi:=Q7 h5
 have hs:=Q7 h6
 unfold x4;simp only
 refine P4 (fun _=>hi 0) fun _=>?_
 refine P4 (fun _=>q1) fun _=>?_
 refine P4 (fun _=>A3l _) fun _=>?_
 refine P4 (fun _=>A3l _) fun _=>?_
 refine P4 (fun _=>A3l _) fun _=>?_
 refine P4 (fun _=>hs 0) fun _=>?_
 refine P4 (fun _=>A3l _) fun _=>?_
 refine P4 (fun _=>A3l _) fun _=>?_
 refine P4 (fun _=>A3l _) fun _=>?_
 refine P4 (fun _=>B6P (hi 0)) fun _=>?_
 refine P4 (fun e=>?_) fun _=>?_
 · have:=q5 e
   have h0:=y6.1 (hi 0)
   rw[y6] at q1 ⊢
   unfold A7O;omega
 refine P4 (fun _=>hs 0) fun _=>?_
 refine P4 (fun _=>?_) fun _=>?_
 · refine B62 ?_
   by_cases ha:a.toNat < tabs.length
   · exact((z6 h2).2 _ (C6 ha)).2
   · rw[List.getD_eq_getElem?_getD,List.getElem?_eq_none (by omega)];rfl
 refine P4 (fun _=>hs 0) fun _=>?_
 refine P4 (fun _=>?_) fun _=>?_
 · cases decide (0≤i.getD 0 0)
   · exact hi 2
   · exact hi 1
 refine P4 (fun _=>?_) fun _=>A3l _
 cases decide (0 < i.getD 1 0)
 · exact hs 0
 · exact hi 0
theorem B1O (s:Int):smp (r8 s)=true:=by unfold r8;split<;>exact A3l _
theorem A7u {xs:List Int} (h:I9 xs=true) (n:Nat):I9 (xs.drop n)=true:=M3.2 fun x hx=>M3.1 h x (List.mem_of_mem_drop hx)
theorem A7V {xs:List Int} {x:Int} (h:I9 xs=true) (hx:smp x=true):I9 (xs++[x])=true:=by
 simp only[I9,List.all_append,Bool.and_eq_true] at *;exact⟨h,by simpa using hx⟩
theorem w6 {x:Int} (hx:smp x=true):I9 [x]=true:=by simpa [I9] using hx
theorem A9m {n:B1} {tabs:List (List Int)} {i s:List Int} {o:Int} (h:stepOk n tabs i s) (ho:smp o=true):(A0D n.1 i s o).length=(I0 n).length∧I9 (A0D n.1 i s o)=true:=by
 obtain⟨kd,a,b,fr⟩:=n;obtain⟨h1,h2,h3,h4,h5,h6⟩:=h;obtain⟨q1,_,q3,_,_,_,q7,_⟩:=Y2 h1
 have hi:=Q7 h5
 have hs:=Q7 h6
 rw[A2m] at h4 ⊢
 simp only[A0D] at h4 ⊢
 split
 · rename_i e;simp only[e,if_true] at h4 ⊢;have:=q3 e;exact⟨by simp only[List.length_append,List.length_drop,List.length_cons,List.length_nil];omega,A7V (A7u h6 _) (hi 0)⟩
 split
 · rename_i e;subst e;exact⟨by simp,w6 ho⟩
 split
 · rename_i e;subst e;exact⟨by simp,w6 (hi 0)⟩
 split
 · rename_i e;subst e;exact⟨by simp,w6 (A3l _)⟩
 split
 · rename_i e;subst e;exact⟨by simp,w6 (B1O _)⟩
 split
 · rename_i e;subst e;exact⟨by simp,w6 ho⟩
 split
 · rename_i e;subst e;have:=q7 rfl;simp at h4;exact⟨by simp;omega,A7V (A7u h6 _) ho⟩
 · rename_i e1 e2 e3 e4 e5 e6 e7
   rw[if_neg (by omega)]
   exact⟨rfl,rfl⟩
theorem B2L {n:B1} {tb:Int} (h:O7 n tb=true):I9 (I0 n)=true:=by
 obtain⟨kd,a,b,fr⟩:=n;obtain⟨q1,_⟩:=Y2 h
 have hz:∀m,I9 (List.replicate m 0)=true:=fun m=>M3.2 fun x hx=>by rw[(List.mem_replicate.1 hx).2];rfl
 simp only[I0];repeat' split
 all_goals first|exact hz _|rfl|exact w6 q1
def A2L (p:B7) (s:List (List Int)):Prop:=s.length=p.2.2.1.length∧∀i,i < p.2.2.1.length→(s.getD i []).length=(I0 (p.2.2.1.getD i n0)).length∧I9 (s.getD i [])=true
def V1 (p:B7):List (List Int):=p.2.2.1.map I0
theorem A25 {p:B7} (h:E4 p=true) {i:Nat} (hi:i < p.2.2.1.length):S7 p (p.2.2.1.getD i n0)=true:=List.all_eq_true.1 (C0 h).2.2.2.2.2.2 _ (C6 hi)
theorem B4b {p:B7} (h:E4 p=true):A2L p (V1 p):=by
 refine⟨by simp[V1],fun i hi=>?_⟩
 have e:(V1 p).getD i []=I0 (p.2.2.1.getD i n0):=by simp[V1,List.getD,hi]
 rw[e];exact⟨rfl,B2L (M6 (A25 h hi)).1⟩
def A0m (p:B7) (v:List Int):Prop:=v.length=p.2.2.1.length∧I9 v=true
theorem B7u {p:B7} {fr v:List Int} (h:E4 p=true) (hf:I9 fr=true) (hv:I9 v=true) (i:Nat):(A0N (p.2.2.1.getD i n0) fr v).length=B3W (p.2.2.1.getD i n0)∧I9 (A0N (p.2.2.1.getD i n0) fr v)=true:=by
 unfold A0N B3W
 split
 · exact⟨rfl,w6 (Q7 hf _)⟩
 · refine⟨by simp,M3.2 fun x hx=>?_⟩
   obtain⟨y,_,rfl⟩:=List.mem_map.1 hx
   exact Q7 hv _
theorem A5J {p:B7} {s:List (List Int)} {fr v:List Int} (h:E4 p=true) (hs:A2L p s) (hf:I9 fr=true) (hv:I9 v=true) {i:Nat} (hi:i < p.2.2.1.length) :
 stepOk (p.2.2.1.getD i n0) p.2.1 (A0N (p.2.2.1.getD i n0) fr v) (s.getD i []):=by
 obtain⟨h1,h2⟩:=B7u h hf hv i
 exact⟨(M6 (A25 h hi)).1,(C0 h).2.2.1,h1,(hs.2 i hi).1,h2,(hs.2 i hi).2⟩
def A77 (p:B7) (s:List (List Int)) (fr v:List Int) (i:Nat):Int:=x4 (p.2.2.1.getD i n0).1 (p.2.2.1.getD i n0).2.1 p.2.1 (A0N (p.2.2.1.getD i n0) fr v) (s.getD i [])
def A17 (p:B7) (s:List (List Int)) (fr v:List Int) (o:Int) (i:Nat):List Int:=A0D (p.2.2.1.getD i n0).1 (A0N (p.2.2.1.getD i n0) fr v) (s.getD i []) o
def Z9 (p:B7) (s:List (List Int)) (fr v:List Int) (i:Int):List Int:=v.set i.toNat (A77 p s fr v i.toNat)
def U4 (p:B7) (s:List (List Int)) (fr v0:List Int) (ord:List Int):List Int:=ord.foldl (Z9 p s fr) v0
def T7 (p:B7) (s:List (List Int)) (fr:List Int):List Int:=U4 p s fr (List.replicate p.2.2.1.length 0) (E3 p.2.2.1)
def A4q (p:B7) (s:List (List Int)) (fr v:List Int):List (List Int):=(List.range p.2.2.1.length).map fun i=>A17 p s fr v (v.getD i 0) i
def v8 (p:B7) (v:List Int):List Int:=p.2.2.2.map fun i=>v.getD i.toNat 0
theorem G6 {α:Type} {l:List α} {i j:Nat} {x d:α} (hi:i < l.length):(l.set i x).getD j d=if i=j then x else l.getD j d:=by
 rw[List.getD_eq_getElem?_getD,List.getElem?_set]
 split
 · rename_i e;subst e;simp[hi]
 · rw[List.getD_eq_getElem?_getD]
theorem A6X {l:List Int} {i:Nat} {x:Int} (h:I9 l=true) (hx:smp x=true):I9 (l.set i x)=true:=M3.2 fun y hy=>by
 rcases List.mem_or_eq_of_mem_set hy with hy|rfl
 · exact M3.1 h y hy
 · exact hx
theorem B1U {p:B7} {s:List (List Int)} {fr v:List Int} (h:E4 p=true) (hs:A2L p s) (hf:I9 fr=true) (hv:A0m p v) {i:Int} (h0:i.toNat < p.2.2.1.length):A0m p (Z9 p s fr v i) :=
 ⟨by unfold Z9;rw[List.length_set];exact hv.1,A6X hv.2 (A9p (A5J h hs hf hv.2 h0))⟩
theorem A31 {p:B7} {s:List (List Int)} {fr v0:List Int} {ord:List Int} {k:Nat} (hk:k < ord.length):U4 p s fr v0 (ord.take (k+1))=Z9 p s fr (U4 p s fr v0 (ord.take k)) (ord.getD k 0):=by
 rw[J8 (d:=0) hk];simp[U4,List.foldl_append]
def GoodO (ns:List B1) (o:List Int):Prop:=∀j,j < o.length→∃i:Nat,o.getD j 0=(i:Int)∧i < ns.length∧(i:Int) ∉ o.take j∧∀f∈G9 (ns.getD i n0),f∈o.take j
theorem GoodO.ext {ns:List B1} {o:List Int} (h:GoodO ns o) {i:Nat} (hi:A18 ns o=some i):GoodO ns (o++[(i:Int)]):=by
 intro j hj
 rw[List.length_append] at hj;simp only[List.length_cons,List.length_nil] at hj
 by_cases hj':j < o.length
 · obtain⟨i',h1,h2,h3,h4⟩:=h j hj'
   refine⟨i',?_,h2,?_,?_⟩
   · rw[List.getD_eq_getElem?_getD,List.getElem?_append_left hj',←List.getD_eq_getElem?_getD];exact h1
   · rw[List.take_append_of_le_length (by omega)];exact h3
   · rw[List.take_append_of_le_length (by omega)];exact h4
 · have e:j=o.length:=by omega
   subst e;have hf:=List.find?_some hi
   have hm:=List.mem_range.1 (List.mem_of_find?_eq_some hi)
   simp only[P7,Bool.and_eq_true,Bool.not_eq_true',List.all_eq_true,List.contains_eq_mem,decide_eq_true_eq,decide_eq_false_iff_not] at hf
   refine⟨i,by simp[List.getD],hm,?_,?_⟩
   · rw[List.take_append_of_le_length (by omega),List.take_length];exact hf.1
   · rw[List.take_append_of_le_length (by omega),List.take_length];exact hf.2
theorem B2G {ns:List B1}:∀(k:Nat) {o:List Int},GoodO ns o→GoodO ns (A1y ns k o):=by
 intro k
 induction k with
 | zero=>intro o h;exact h
 | succ k ih =>
   intro o h
   simp only[A1y]
   split
   · exact h
   · rename_i i hi;exact ih (h.ext hi)
theorem W2 (ns:List B1):GoodO ns (E3 ns):=B2G _ fun j hj=>by simp at hj
theorem m0 {o:List Int} {j:Nat} {x:Int}:x∈o.take j↔∃i,i < j∧i < o.length∧o.getD i 0=x:=by
 rw[List.mem_take_iff_getElem]
 constructor
 · rintro⟨i,hi,rfl⟩
   exact⟨i,by omega,by omega,by simp[List.getD,show i < o.length by omega]⟩
 · rintro⟨i,h1,h2,rfl⟩
   exact⟨i,by omega,by simp[List.getD,h2]⟩
theorem A8q:∀(n:Nat) (l:List Int),l.Nodup→(∀x∈l,0≤x∧x < n)→l.length≤n:=by
 intro n
 induction n with
 | zero =>
   intro l _ h
   cases l with
   | nil=>simp
   | cons x l=>have:=h x List.mem_cons_self;omega
 | succ n ih =>
   intro l hn h
   have h1:=ih (l.erase n) (hn.erase _) fun x hx=>by
    have:=h x (List.mem_of_mem_erase hx)
    have hne:x≠n:=by rintro rfl;exact hn.not_mem_erase hx
    omega
   have h2:=@List.length_erase _ _ _ (n:Int) l
   split at h2<;>omega
theorem full {n:Nat} {l:List Int} (hn:l.Nodup) (h:∀x∈l,0≤x∧x < n) (hl:l.length=n) (i:Nat) (hi:i < n):(i:Int)∈l:=by
 apply Classical.byContradiction
 intro hc;have:=A8q n ((i:Int)::l) (List.nodup_cons.2 ⟨hc,hn⟩) (fun x hx=>by rcases List.mem_cons.1 hx with rfl|hx;exact⟨by omega,by omega⟩;exact h x hx)
 simp at this;omega
theorem GoodO.nodup {ns:List B1} {o:List Int} (h:GoodO ns o):o.Nodup:=by
 rw[List.nodup_iff_pairwise_ne,List.pairwise_iff_getElem];intro a b ha hb hab e
 obtain⟨i,h1,h2,h3,_⟩:=h b hb
 apply h3
 rw[←h1];exact m0.2 ⟨a,hab,ha,by simp[List.getD,ha,hb,e]⟩
theorem GoodO.full {ns:List B1} {o:List Int} (h:GoodO ns o) (hl:o.length=ns.length) {i:Nat} (hi:i < ns.length):(i:Int)∈o:=by
 refine Go.Proofs.YtenjbehedcegdaaGreat.full h.nodup (fun x hx=>?_) hl i hi
 obtain⟨j,hj,rfl⟩:=List.mem_iff_getElem.1 hx
 obtain⟨i',h1,h2,_⟩:=h j hj
 have:o.getD j 0=o[j]:=by simp[List.getD,hj]
 omega
theorem B2B {n:B1} {fr v v':List Int} (hd:n.1≠6) (h:∀f∈G9 n,v.getD f.toNat 0=v'.getD f.toNat 0):A0N n fr v=A0N n fr v':=by
 unfold A0N
 split
 · rfl
 · unfold G9 at h;rw[decide_eq_false hd] at h;exact List.map_congr_left h
theorem A5e {p:B7} {s:List (List Int)} {fr v v':List Int} {i:Nat} (h:∀f∈G9 (p.2.2.1.getD i n0),v.getD f.toNat 0=v'.getD f.toNat 0):A77 p s fr v i=A77 p s fr v' i:=by
 unfold A77
 by_cases hd:(p.2.2.1.getD i n0).1=6
 · rw[hd];rfl
 · rw[B2B hd h]
def Sol (p:B7) (s:List (List Int)) (fr v:List Int) (o:List Int):Prop:=∀x∈o,v.getD x.toNat 0=A77 p s fr v x.toNat
theorem GoodO.at {ns:List B1} {o:List Int} (h:GoodO ns o) {x:Int} (hx:x∈o):∃i:Nat,x=i∧i < ns.length:=by
 obtain⟨j,hj,rfl⟩:=List.mem_iff_getElem.1 hx
 obtain⟨i,h1,h2,_⟩:=h j hj
 exact⟨i,by rw[←h1];simp[List.getD,hj],h2⟩
theorem GoodO.waits {ns:List B1} {o:List Int} (h:GoodO ns o) {k:Nat} {i:Nat} (hi:(i:Int)∈o.take k):∀f∈G9 (ns.getD i n0),f∈o.take k:=by
 obtain⟨j,h1,h2,h3⟩:=m0.1 hi
 obtain⟨i',h4,h5,h6,h7⟩:=h j h2
 have:i'=i:=by omega
 subst this;intro f hf
 obtain⟨q,r1,r2,r3⟩:=m0.1 (h7 f hf)
 exact m0.2 ⟨q,by omega,r2,r3⟩
theorem A4t {o:List Int} {k:Nat} {x:Int} (h:x∈o.take k):x∈o:=List.mem_of_mem_take h
theorem B3a {p:B7} {s:List (List Int)} {fr:List Int}:∀{o v:List Int},(U4 p s fr v o).length=v.length:=by
 intro o
 induction o with
 | nil=>intro v;rfl
 | cons x l ih=>intro v;simp only[U4,List.foldl_cons] at *;rw[ih];simp[Z9]
theorem B67 {p:B7} {s:List (List Int)} {fr v0:List Int} {o:List Int} (h:GoodO p.2.2.1 o) (hl:v0.length=p.2.2.1.length):∀k,k≤o.length→Sol p s fr (U4 p s fr v0 (o.take k)) (o.take k):=by
 intro k
 induction k with
 | zero=>intro _ x hx;simp at hx
 | succ k ih =>
   intro hk;have ih:=ih (by omega)
   obtain⟨i,h1,h2,h3,h4⟩:=h k (by omega)
   rw[A31 (by omega),h1]
   have hlen:(U4 p s fr v0 (o.take k)).length=p.2.2.1.length:=by rw[B3a];exact hl
   generalize U4 p s fr v0 (o.take k)=V at *
   have gd:∀x,x∈o.take k→(Z9 p s fr V i).getD x.toNat 0=V.getD x.toNat 0:=fun x hx=>by
    obtain⟨i',rfl,h5⟩:=h.at (A4t hx)
    unfold Z9;simp only[Int.toNat_natCast];rw[G6 (by omega),if_neg (by rintro rfl;exact h3 hx)]
   intro x hx
   rw[J8 (d:=0) (by omega),List.mem_append,List.mem_singleton,h1] at hx
   rcases hx with hx|rfl
   · rw[gd x hx,ih x hx];obtain⟨i',rfl,h5⟩:=h.at (A4t hx)
     simp only[Int.toNat_natCast];exact A5e fun f hf=>(gd f (h.waits hx f hf)).symm
   · have e:(Z9 p s fr V i).getD i 0=A77 p s fr V i:=by
      unfold Z9;simp only[Int.toNat_natCast];rw[G6 (by omega),if_pos rfl]
     simp only[Int.toNat_natCast];rw[e];exact A5e fun f hf=>(gd f (h4 f hf)).symm
theorem B7p {p:B7} {s:List (List Int)} {fr v0:List Int} {o:List Int} (h:GoodO p.2.2.1 o) (hl:v0.length=p.2.2.1.length):Sol p s fr (U4 p s fr v0 o) o:=by
 have:=B67 (s:=s) (fr:=fr) h hl o.length (Nat.le_refl _)
 rwa [List.take_length] at this
theorem B3k {p:B7} {s:List (List Int)} {fr v:List Int}:(A4q p s fr v).length=p.2.2.1.length:=by simp[A4q]
theorem A9d {p:B7} {s:List (List Int)} {fr v:List Int} {i:Nat} (hi:i < p.2.2.1.length):(A4q p s fr v).getD i []=A17 p s fr v (v.getD i 0) i:=by simp[A4q,List.getD,hi]
theorem E1 {p:B7} (h:G3 p=true):E4 p=true∧(E3 p.2.2.1).length=p.2.2.1.length:=by
 simp only[G3,Bool.and_eq_true,decide_eq_true_eq] at h;exact h
theorem B11 {p:B7} {s:List (List Int)} {fr v0:List Int} (h:E4 p=true) (hs:A2L p s) (hf:I9 fr=true) (hv:A0m p v0):∀k,k≤(E3 p.2.2.1).length→A0m p (U4 p s fr v0 ((E3 p.2.2.1).take k)):=by
 intro k
 induction k with
 | zero=>intro _;exact hv
 | succ k ih =>
   intro hk;rw[A31 (by omega)]
   obtain⟨i,h1,h2,_⟩:=W2 p.2.2.1 k (by omega)
   rw[h1];exact B1U h hs hf (ih (by omega)) (by simpa using h2)
theorem R4 (p:B7):A0m p (List.replicate p.2.2.1.length 0):=⟨by simp,M3.2 fun x hx=>by rw[(List.mem_replicate.1 hx).2];rfl⟩
theorem A7g {p:B7} {s:List (List Int)} {fr:List Int} (h:E4 p=true) (hs:A2L p s) (hf:I9 fr=true):A0m p (T7 p s fr):=by
 have:=B11 h hs hf (R4 p) _ (Nat.le_refl _)
 rwa [List.take_length] at this
theorem B4r {p:B7} {s:List (List Int)} {fr v:List Int} (h:E4 p=true) (hs:A2L p s) (hf:I9 fr=true) (hv:A0m p v):A2L p (A4q p s fr v):=by
 refine⟨B3k,fun i hi=>?_⟩
 rw[A9d hi];exact A9m (A5J h hs hf hv.2 hi) (Q7 hv.2 i)
def X2 (n:B1) (tabs:List (List Int)) (i s:List Int):Prop:=(∃tb:Int,O7 n tb=true∧(n.1=13→tb=tabs.length∧Y6 tabs=true))∧i.length=B3W n∧s.length=(I0 n).length∧I9 i=true∧I9 s=true
theorem stepOk.c {n:B1} {tabs:List (List Int)} {i s:List Int} (h:stepOk n tabs i s):X2 n tabs i s:=⟨⟨_,h.1,fun _=>⟨rfl,h.2.1⟩⟩,h.2.2.1,h.2.2.2.1,h.2.2.2.2.1,h.2.2.2.2.2⟩
theorem stepOk.c6 {n:B1} {tabs ts:List (List Int)} {i s:List Int} (h:stepOk n tabs i s) (h6:n.1=6):X2 n ts i s:=⟨⟨_,h.1,fun e=>by omega⟩,h.2.2.1,h.2.2.2.1,h.2.2.2.2.1,h.2.2.2.2.2⟩
theorem z0 {kd a b:Int} {fr:List Int} {tabs:List (List Int)} {i s:List Int} (h:X2 (kd,a,b,fr) tabs i s) :
 1≤kd∧kd≤17∧(kd=3∨kd=4∨kd=9∨kd=16→i.length=2)∧(kd=1∨kd=5∨kd=6∨kd=7∨kd=8∨kd=10∨kd=11∨kd=12∨kd=13∨kd=17→i.length=1)∧(kd=15→i.length=3) ∧
 (kd=6→s.length=a.toNat∧1≤a∧a≤16)∧(kd=17→s.length=b.toNat∧1≤b∧b≤16)∧(kd=7∨kd=8∨kd=16∨kd=12∨kd=14→s.length=1)∧(kd=10→0≤a∧a≤31)∧(kd=11→0≤a) ∧
 (kd=13→0≤a∧a≤3∧a < tabs.length∧1≤(tabs.getD a.toNat []).length∧(tabs.getD a.toNat []).length≤16)∧-2147483648≤a∧a≤2147483647:=by
 obtain⟨⟨tb,h1,h2⟩,h3,h4,h5,h6⟩:=h
 obtain⟨q1,q2,q3,q4,q5,q6,q7,q8,q9,q10,q11⟩:=Y2 h1
 obtain⟨r1,r2,_⟩:=O5 h1
 rw[A2m] at h4;simp only at h2 h4 r1 r2
 have hi:i.length=if kd=1 then 1 else fr.length:=by
  rw[h3];unfold B3W;simp only
  by_cases hk:kd=1
  · rw[decide_eq_true hk,if_pos hk]
  · rw[decide_eq_false hk,if_neg hk]
 rw[y6] at q1;refine⟨r1,r2,fun e=>?_,fun e=>?_,fun e=>?_,fun e=>?_,fun e=>?_,fun e=>?_,q4,q5,fun e=>?_,q1.1,q1.2⟩
 · rw[hi,if_neg (by omega)];exact q8 e
 · rw[hi];split;· rfl
   · exact q9 (by omega)
 · rw[hi,if_neg (by omega)];exact q10 e
 · rw[if_pos e] at h4;exact⟨h4,q3 e⟩
 · rw[if_neg (by omega),if_pos e] at h4;exact⟨h4,q7 e⟩
 · rw[if_neg (by omega),if_neg (by omega),if_pos (by omega)] at h4;exact h4
 · obtain⟨e1,e2⟩:=h2 e
   obtain⟨a1,a2,a3⟩:=q6 e
   have hlt:a.toNat < tabs.length:=by omega
   have:=((z6 e2).2 _ (C6 (d:=[]) hlt)).1
   exact⟨a1,a2,by omega,by omega,by omega⟩
theorem V4 {kd a b:Int} {fr:List Int} {tabs:List (List Int)} {i s:List Int} (h:X2 (kd,a,b,fr) tabs i s) (j:Nat):(-2147483648≤i.getD j 0∧i.getD j 0≤2147483647)∧-2147483648≤s.getD j 0∧s.getD j 0≤2147483647 :=
 ⟨y6.1 (Q7 h.2.2.2.1 j),y6.1 (Q7 h.2.2.2.2 j)⟩
def B2y (n:B1):Prop:=∃tb:Int,O7 n tb=true
theorem A4e {kd a b:Int} {fr:List Int} (h:B2y (kd,a,b,fr)):1≤kd∧kd≤17∧(kd=6→1≤a∧a≤16)∧(kd=17→1≤b∧b≤16):=by
 obtain⟨tb,h⟩:=h;obtain⟨q1,q2,q3,q4,q5,q6,q7,_⟩:=Y2 h
 obtain⟨r1,r2,_⟩:=O5 h
 exact⟨r1,r2,q3,q7⟩
theorem B9v (n:Int):IntKind.i64.wrap (IntKind.i32.wrap n)=wrap32 n:=by
 rw[show IntKind.i32.wrap n=wrap32 n by simp[IntKind.wrap,wrap32,IntKind.bits,IntKind.signed]<;>omega,H4 (by have:=A7q n;omega)]
theorem F4 (n:Int):wrap32 (IntKind.i64.wrap n)=wrap32 n:=by
 rw[show IntKind.i64.wrap n=wrap64 n by simp[IntKind.wrap,wrap64,IntKind.bits,IntKind.signed]<;>omega,B3c]
theorem C1F (n:Int):IntKind.i64.wrap (IntKind.u32.wrap n)=uns n:=by
 rw[show IntKind.u32.wrap n=uns n by simp[IntKind.wrap,uns,IntKind.bits,IntKind.signed]<;>omega,H4 (by unfold uns;omega)]
theorem A8R (n:Int):0≤uns n∧uns n≤4294967295:=by unfold uns;omega
theorem C0z (n:Int):IntKind.i64.wrap ((BitVec.ofInt IntKind.i64.bits n &&& BitVec.ofInt IntKind.i64.bits 4294967295).toNat:Int)=uns n:=B9G n
theorem F7 {kd:Int} {i s:List Int} {o:Int} (h1:kd≠6) (h2:kd≠7) (h3:kd≠8) (h4:kd≠12) (h5:kd≠14) (h6:kd≠16) (h7:kd≠17):A0D kd i s o=[]:=by
 unfold A0D;rw[if_neg h1,if_neg h2,if_neg h3,if_neg h4,if_neg h5,if_neg h6,if_neg h7]
theorem C2 {kd a b:Int} {fr:List Int} (h1:kd≠6) (h2:kd≠7) (h3:kd≠8) (h4:kd≠12) (h5:kd≠14) (h6:kd≠16) (h7:kd≠17):I0 (kd,a,b,fr)=[]:=by
 unfold I0;simp[h1,h2,h3,h4,h5,h6,h7]
theorem B94 (n:Int):n.fdiv (2 ^ (min (Int.toNat 32) IntKind.i64.bits))=n / 4294967296:=by
 rw[show (2:Int) ^ (min (Int.toNat 32) IntKind.i64.bits)=4294967296 from rfl,Int.fdiv_eq_ediv_of_nonneg _ (by omega)]
theorem B2f (n:Int):n.fdiv (2 ^ (min 32 64))=n / 4294967296:=B94 n
theorem W8 {a x:Int} (h:0≤a∧a≤2147483647):(if (if x < a then x else a) > IntKind.i64.wrap (0 - a) then (if x < a then x else a) else IntKind.i64.wrap (0 - a))=A7O a x:=by
 rw[H4 (by omega)];unfold A7O;(repeat' split)<;>omega
theorem B2T {t:List Int} {x:Int} (h:1≤t.length) (h2:t.length≤16):0≤(t.length:Int) * uns x∧(t.length:Int) * uns x≤68719476720∧0≤((t.length:Int) * uns x) / 4294967296∧((t.length:Int) * uns x) / 4294967296 < t.length:=by
 obtain⟨a1,a2⟩:=A8R x
 generalize uns x=u at *
 have b1:=Int.mul_nonneg (show (0:Int)≤t.length by omega) a1
 have b2:(t.length:Int) * u≤t.length * 4294967295:=Int.mul_le_mul_of_nonneg_left a2 (by omega)
 refine⟨b1,by omega,Int.ediv_nonneg b1 (by omega),?_⟩
 exact Int.ediv_lt_of_lt_mul (by omega) (by omega)
theorem B9s (n:Int):IntKind.i64.wrap ((BitVec.ofInt IntKind.i64.bits n &&& BitVec.ofInt IntKind.i64.bits 1).toNat:Int)=n % 2:=by
 have e:BitVec.ofInt IntKind.i64.bits 1=BitVec.ofNat 64 (2 ^ 1 - 1):=rfl
 have h:((BitVec.ofInt 64 n &&& BitVec.ofNat 64 (2 ^ 1 - 1)).toNat:Int)=n % 2:=by
  rw[BitVec.toNat_and,BitVec.toNat_ofNat,show (2 ^ 1 - 1) % 2 ^ 64=2 ^ 1 - 1 from rfl,Nat.and_two_pow_sub_one_eq_mod,BitVec.toNat_ofInt]
  omega
 rw[show ((BitVec.ofInt IntKind.i64.bits n &&& BitVec.ofInt IntKind.i64.bits 1).toNat:Int)=n % 2 from h]
 exact H4 (by omega)
theorem C1L (n:Int):IntKind.i64.wrap ((BitVec.ofInt IntKind.i64.bits n ^^^ BitVec.ofInt IntKind.i64.bits 2734686208).toNat:Int)=B57 n:=rfl
theorem A6I {s:Int} (h:s % 2=1):r8 s=wrap32 (B57 (uns s / 2)):=by unfold r8;rw[decide_eq_true h]
theorem A6x {s:Int} (h:¬s % 2=1):r8 s=wrap32 (uns s / 2):=by unfold r8;rw[decide_eq_false h]
theorem A4O {α β:Type} {f:α→β} {xs:List α} {k:Nat} (d:α) (h:k < xs.length):(xs.take k).map f++[f (xs.getD k d)]=(xs.take (k+1)).map f:=by
 rw[J8 (d:=d) h,List.map_append,List.map_cons,List.map_nil]
theorem B5v {n:Int} (h:0≤n∧n≤9223372036854775807):IntKind.u64.wrap n=n:=by
 simp[IntKind.wrap,IntKind.bits,IntKind.signed];omega
theorem L5 {a:Int} {tb:List (List Int)} {i s:List Int} (h:0≤i.getD 0 0):x4 15 a tb i s=i.getD 1 0:=by
 show (match decide (0≤i.getD 0 0) with|true=>i.getD 1 0|false=>i.getD 2 0)=_
 rw[decide_eq_true h]
theorem L6 {a:Int} {tb:List (List Int)} {i s:List Int} (h:¬0≤i.getD 0 0):x4 15 a tb i s=i.getD 2 0:=by
 show (match decide (0≤i.getD 0 0) with|true=>i.getD 1 0|false=>i.getD 2 0)=_
 rw[decide_eq_false h]
theorem N4 {a:Int} {tb:List (List Int)} {i s:List Int} (h:0 < i.getD 1 0):x4 16 a tb i s=i.getD 0 0:=by
 show (match decide (0 < i.getD 1 0) with|true=>i.getD 0 0|false=>s.getD 0 0)=_
 rw[decide_eq_true h]
theorem N1 {a:Int} {tb:List (List Int)} {i s:List Int} (h:¬0 < i.getD 1 0):x4 16 a tb i s=s.getD 0 0:=by
 show (match decide (0 < i.getD 1 0) with|true=>i.getD 0 0|false=>s.getD 0 0)=_
 rw[decide_eq_false h]
theorem B5I (n:Int):IntKind.i64.wrap ((@BitVec.toNat 64 (@HAnd.hAnd (BitVec 64) (BitVec 64) (BitVec 64) (@instHAndOfAndOp (BitVec IntKind.i64.bits) (@BitVec.instAndOp IntKind.i64.bits)) (BitVec.ofInt 64 n) (BitVec.ofInt 64 4294967295)):Nat):Int)=uns n:=C0z n
theorem B9i (n:Int):IntKind.i64.wrap ((@BitVec.toNat 64 (@HAnd.hAnd (BitVec 64) (BitVec 64) (BitVec 64) (@instHAndOfAndOp (BitVec IntKind.i64.bits) (@BitVec.instAndOp IntKind.i64.bits)) (BitVec.ofInt 64 n) (BitVec.ofInt 64 1)):Nat):Int)=n % 2:=B9s n
theorem C0t (n:Int):IntKind.i64.wrap ((@BitVec.toNat 64 (@HXor.hXor (BitVec 64) (BitVec 64) (BitVec 64) (@instHXorOfXorOp (BitVec IntKind.i64.bits) (@BitVec.instXorOp IntKind.i64.bits)) (BitVec.ofInt 64 n) (BitVec.ofInt 64 2734686208)):Nat):Int)=B57 n:=rfl
theorem B6e (n:Int):n.fdiv (2 ^ (min 1 64))=n / 2:=by
 rw[show (2:Int) ^ (min 1 64)=2 from rfl,Int.fdiv_eq_ediv_of_nonneg _ (by omega)]
theorem B68 (x y:Int):wrap32 (IntKind.i64.wrap (x+IntKind.i64.wrap y))=wrap32 (x+y):=by
 rw[F4];have h:=F4 y
 rw[←s6 x (IntKind.i64.wrap y),h,s6]
theorem C13 (x y:Int):wrap32 (IntKind.i64.wrap (wrap32 x+wrap32 y))=wrap32 (x+y):=by rw[F4,s6]
theorem C15 (x y:Int):wrap32 (IntKind.i64.wrap (wrap32 x - wrap32 y))=wrap32 (x - y):=by rw[F4,B1P]
theorem C1D (x y:Int):wrap32 (IntKind.i64.wrap (wrap32 x * wrap32 y))=wrap32 (x * y):=by rw[F4,B1a]
theorem wAM (x a s:Int):wrap32 (x+wrap32 (a * s))=wrap32 (x+a * s):=by
 rw[←s6 x (wrap32 (a * s)),B03,s6]
theorem A6o {a x:Int} (h:0≤a∧a≤2147483647):r9 (IntKind.i64.wrap (0 - a)) (Z0 x a)=A7O a x:=by
 rw[H4 (by omega)];unfold A7O r9 Z0;rw[show (0:Int) - a=-a by omega]
theorem B0a {x:Int} (h:2147483647 < uns x):uns x - 4294967296=wrap32 x:=by unfold uns wrap32 at *;omega
theorem B0M {x:Int} (h:uns x≤2147483647):uns x=wrap32 x:=by unfold uns wrap32 at *;omega
theorem A9e {s:Int} (h:uns s % 2=1):r8 s=wrap32 (B57 (uns s / 2)):=A6I (by unfold uns at h;omega)
theorem A9n {s:Int} (h:¬uns s % 2=1):r8 s=wrap32 (uns s / 2):=A6x (by unfold uns at h;omega)
theorem X5 {kd a:Int} {tb:List (List Int)} {i s:List Int} (h:kd=1∨kd=2∨kd=3∨kd=4∨kd=5∨kd=9∨kd=10∨kd=11∨kd=13∨kd=15):x4 kd a tb i []=x4 kd a tb i s:=by
 rcases h with rfl|rfl|rfl|rfl|rfl|rfl|rfl|rfl|rfl|rfl<;>rfl
def B5H (n:B1) (frame vals:List Int):Prop:=(n.1=1→0≤n.2.1∧n.2.1 < frame.length)∧N2 vals.length n.2.2.2=true∧n.2.2.2.length≤1000
theorem B2S {p:B7} {fr v:List Int} (h:E4 p=true) (hf:(fr.length:Int)=p.1) (hv:v.length=p.2.2.1.length) {i:Nat} (hi:i < p.2.2.1.length):B5H (p.2.2.1.getD i n0) fr v:=by
 obtain⟨h1,h2,h3⟩:=M6 (A25 h hi)
 generalize p.2.2.1.getD i n0=n at *
 obtain⟨kd,a,b,ff⟩:=n;obtain⟨q1,q2,q3,q4,q5,q6,q7,q8,q9,q10,q11⟩:=Y2 h1
 obtain⟨r1,r2,_⟩:=O5 h1
 simp only at h2 h3 r1 r2
 refine⟨fun e=>?_,by rw[hv];exact h2,?_⟩
 · have e:kd=1:=e
   have:=q2 e
   exact⟨this.1,by show a < _;omega⟩
 · show ff.length≤1000
   have c:kd=3∨kd=4∨kd=9∨kd=16∨(kd=5∨kd=6∨kd=7∨kd=8∨kd=10∨kd=11∨kd=12∨kd=13∨kd=17)∨kd=15∨kd=1∨kd=2∨kd=14:=by omega
   have:=@C0u kd
   have h5:=(O5 h1).2.2.2.2.1
   simp only at h5
   omega
theorem B54 {kd a b:Int} {ff fr v:List Int} (h:kd=1):A0N (kd,a,b,ff) fr v=[fr.getD a.toNat 0]:=by unfold A0N;simp only[decide_eq_true h]
theorem B4z {kd a b:Int} {ff fr v:List Int} (h:¬kd=1):A0N (kd,a,b,ff) fr v=ff.map fun q=>v.getD q.toNat 0:=by unfold A0N;simp only[decide_eq_false h]
theorem B8u {ns:List B1} (h:(E3 ns).length=ns.length):B0h ns=(E3 ns,true):=by unfold B0h;rw[decide_eq_true h]
theorem B9N {xs:List Int} (h:xs.length≤4000):d9 xs=I9 xs:=by unfold d9;rw[decide_eq_true h];rfl
open Go.RowKit
theorem X9 (x y:Int):wrap32 (x+IntKind.i64.wrap y)=wrap32 (x+y):=by
 rw[←B68 x y,F4]
end Go.Proofs.YtenjbehedcegdaaGreat
