/-
  Texts of this claim, joined (part 4). No condition beyond those of the theorems.
-/
import Derived.Test.YtflobmmbhaofbaaGreatQ03
import Derived.Test.YtflobmmbhaofbaaGreatQ02
set_option linter.unusedSimpArgs false
set_option linter.unusedVariables false
namespace Go.Proofs.YtflobmmbhaofbaaGreat
abbrev A4:=Int × Int × Int × List Int
abbrev A6:=Int × List (List Int) × List A4 × List Int
def A6v:List (Int × Int × Int × Bool × Bool) :=
 [(0,0,3,true,false),(0,-2147483648,2147483647,false,false),(2,1,0,true,false),(2,1,0,true,false),(1,-2147483648,2147483647,true,false),(1,1,16,true,false),
  (1,1,0,true,false),(1,1,0,true,false),(2,1,0,false,false),(1,0,31,false,false),(1,0,2147483647,false,false),(1,-2147483648,2147483647,false,false),
  (1,0,3,false,false),(0,-2147483648,2147483647,false,false),(3,1,0,false,false),(2,1,0,false,false),(1,-2147483648,2147483647,true,true)]
def kT (k:Int):Int × Int × Int × Bool × Bool:=A6v.getD (k - 1).toNat (0,0,0,false,false)
def A5p:List (ByteArray × Int × Int × Int × Bool × Bool) :=
 [(⟨#[105,110,112,117,116]⟩,0,0,3,true,false),
  (⟨#[99,111,110,115,116]⟩,0,-2147483648,2147483647,false,false),
  (⟨#[97,100,100]⟩,2,1,0,true,false),
  (⟨#[115,117,98]⟩,2,1,0,true,false),
  (⟨#[103,97,105,110]⟩,1,-2147483648,2147483647,true,false),
  (⟨#[100,101,108,97,121]⟩,1,1,16,true,false),
  (⟨#[115,117,109]⟩,1,1,0,true,false),
  (⟨#[100,105,102,102]⟩,1,1,0,true,false),
  (⟨#[109,117,108]⟩,2,1,0,false,false),
  (⟨#[115,104,105,102,116]⟩,1,0,31,false,false),
  (⟨#[99,108,105,112]⟩,1,0,2147483647,false,false),
  (⟨#[112,104,97,115,101]⟩,1,-2147483648,2147483647,false,false),
  (⟨#[116,97,98,108,101]⟩,1,0,3,false,false),
  (⟨#[110,111,105,115,101]⟩,0,-2147483648,2147483647,false,false),
  (⟨#[115,101,108,101,99,116]⟩,3,1,0,false,false),
  (⟨#[104,111,108,100]⟩,2,1,0,false,false),
  (⟨#[99,111,109,98]⟩,1,-2147483648,2147483647,true,true)]
theorem B7g {k:Int} (h:O7 k 1 17=true):(A5p.getD (k - 1).toNat (ByteArray.empty,0,0,0,false,false)).2=kT k∧0≤k - 1∧k - 1 < 17:=by
 obtain⟨h1,h2⟩:=E0.1 h
 refine⟨?_,by omega,by omega⟩
 obtain⟨m,hm⟩:∃m:Nat,k - 1=m:=⟨(k - 1).toNat,by omega⟩
 have hm':m < 17:=by omega
 unfold kT;rw[hm,Int.toNat_natCast];have key:∀m:_root_.Fin 17,(A5p.getD m.1 (ByteArray.empty,0,0,0,false,false)).2=A6v.getD m.1 (0,0,0,false,false):=by decide
 exact key ⟨m,hm'⟩
def N5 (n:A4) (tables:Int):Bool :=
 O7 n.1 1 17 && (match decide ((kT n.1).2.1≤(kT n.1).2.2.1) with|true=>O7 n.2.1 (kT n.1).2.1 (kT n.1).2.2.1|false=>decide (n.2.1=0)) &&
  (match (kT n.1).2.2.2.2 with|true=>O7 n.2.2.1 1 16|false=>decide (n.2.2.1=0)) && n.2.2.2.all (fun f=>O7 f 0 23) && decide ((n.2.2.2.length:Int)=(kT n.1).1) && (!decide (n.1=13) || decide (n.2.1 < tables))
def A6W (t:List Int):Bool:=(decide (t.length=2) || decide (t.length=4) || decide (t.length=8) || decide (t.length=16)) && S8 t
def y2 (ts:List (List Int)):Bool:=ts.all A6W && decide (ts.length≤4)
def K0 (p:A6) (n:A4):Bool:=N5 n p.2.1.length && J4 p.2.2.1.length n.2.2.2 && !(decide (n.1=1) && decide (p.1≤n.2.1))
def C5 (p:A6):Bool:=O7 p.1 0 4 && y2 p.2.1 && decide (p.2.2.1.length≤24) && decide (p.2.2.2.length≤4) && J4 p.2.2.1.length p.2.2.2 && p.2.2.1.all (K0 p)
def D9 (n:A4):List Int:=match decide (n.1=6) with|true=>[]|false=>n.2.2.2
def n0:A4:=(0,0,0,[])
def R5 (ns:List A4) (out:List Int) (i:Nat):Bool:=!out.contains (i:Int) && (D9 (ns.getD i n0)).all (fun f=>out.contains f)
def A2L (ns:List A4) (out:List Int):Option Nat:=(List.range ns.length).find? (R5 ns out)
def A0u (ns:List A4):Nat→List Int→List Int
 | 0,out=>out
 | k + 1, out => match A2L ns out with
   | none=>out
   | some i=>A0u ns k (out++[(i:Int)])
def O4 (ns:List A4):List Int:=A0u ns ns.length []
def C7 (p:A6):Bool:=C5 p && decide ((O4 p.2.2.1).length=p.2.2.1.length)
theorem A3v {ns:List A4} {out:List Int} (h:∀j,j < ns.length→R5 ns out j=false):A2L ns out=none:=by
 simp only[A2L,List.find?_eq_none,List.mem_range,Bool.not_eq_true];exact h
theorem A9N {ns:List A4} {out:List Int} {i:Nat} (hi:i < ns.length) (h:∀j,j < i→R5 ns out j=false) (k:R5 ns out i=true):A2L ns out=some i:=by
 simp only[A2L]
 have e:List.range ns.length=List.range i++i::(List.range' (i+1) (ns.length - i - 1)):=by
  have:=@List.range'_append_1 0 i (ns.length - i)
  rw[Nat.zero_add,(by omega:i+(ns.length - i)=ns.length)] at this
  rw[List.range_eq_range',List.range_eq_range',←this]
  congr 1
  rw[(by omega:ns.length - i=(ns.length - i - 1)+1),List.range'_succ]
  congr 2
 rw[e,List.find?_append,List.find?_eq_none.2 (fun j hj=>by simpa using h j (List.mem_range.1 hj)),Option.none_or,List.find?_cons_of_pos k]
theorem A8X {ns:List A4} {out:List Int} (k:Nat) (h:A2L ns out=none):A0u ns k out=out:=by
 cases k with
 | zero=>rfl
 | succ k=>simp only[A0u,h]
theorem A8E {ns:List A4} {out:List Int} {k i:Nat} (h:A2L ns out=some i):A0u ns (k+1) out=A0u ns k (out++[(i:Int)]):=by simp only[A0u,h]
theorem B7d {tk:List Bool} {i:Nat} (hi:i < tk.length) (h:tk.getD i false=false):(tk.set i true).count false+1=tk.count false:=by
 induction tk generalizing i with
 | nil=>simp at hi
 | cons b tk ih =>
   cases i with
   | zero=>simp at h;subst h;simp
   | succ i =>
     have:=ih (i:=i) (by simpa using hi) (by simpa using h)
     rw[List.set_cons_succ,List.count_cons,List.count_cons];omega
def OrdI (ns:List A4) (tk:List Bool) (out:List Int):Prop :=
 tk.length=ns.length∧(∀j,j < ns.length→tk.getD j false=out.contains (j:Int))∧A0u ns (tk.count false) out=O4 ns∧out.length+tk.count false=ns.length
theorem B4x (ns:List A4):OrdI ns (List.replicate ns.length false) []:=by
 refine⟨by simp,fun j hj=>?_,by simp[O4],by simp⟩
 simp only[List.getD,List.getElem?_replicate,hj,if_true,Option.getD_some]
 rfl
theorem B0R {ns:List A4} {tk:List Bool} {out:List Int} (h:OrdI ns tk out) {i:Nat} (hi:i < ns.length):R5 ns out i=(!tk.getD i false && (D9 (ns.getD i n0)).all (fun f=>out.contains f)):=by
 unfold R5;rw[h.2.1 i hi]
theorem OrdI.next {ns:List A4} {tk:List Bool} {out:List Int} {i:Nat} (h:OrdI ns tk out) (hi:i < ns.length) (hno:∀j,j < i→R5 ns out j=false) (hr:R5 ns out i=true) :
 OrdI ns (tk.set i true) (out++[(i:Int)])∧(tk.set i true).count false+1=tk.count false:=by
 obtain⟨h1,h2,h3,h4⟩:=h
 have hf:tk.getD i false=false:=by
  rw[h2 i hi];unfold R5 at hr;simp only[Bool.and_eq_true,Bool.not_eq_true'] at hr
  exact hr.1
 have hc:=B7d (by omega) hf
 have hn:=A9N hi hno hr
 refine⟨⟨by simpa using h1,fun j hj=>?_,?_,by simp;omega⟩,hc⟩
 · by_cases hji:j=i
   · subst hji;simp[List.getD,h1,hj]
   · have e:(tk.set i true).getD j false=tk.getD j false:=by simp[List.getD,List.getElem?_set_ne (Ne.symm hji)]
     rw[e,h2 j hj];have hne:(j:Int)≠(i:Int):=by omega
     simp[List.contains_eq_mem,hne]
 · rw[←h3,←hc,A8E hn]
theorem C02 {ns:List A4} {tk:List Bool} {out:List Int} (h:OrdI ns tk out):out.length≤ns.length:=by have:=h.2.2.2;omega
theorem A8 {p:A6} (h:C5 p=true):p.2.2.1.length≤24∧p.2.2.2.length≤4∧y2 p.2.1=true∧0≤p.1∧p.1≤4∧J4 p.2.2.1.length p.2.2.2=true∧p.2.2.1.all (K0 p)=true:=by
 simp only[C5,Bool.and_eq_true,decide_eq_true_eq] at h
 obtain⟨⟨⟨⟨⟨h1,h2⟩,h3⟩,h4⟩,h5⟩,h6⟩:=h
 obtain⟨h7,h8⟩:=E0.1 h1
 exact⟨h3,h4,h2,h7,h8,h5,h6⟩
theorem B9 {α:Type} {l:List α} {i:Nat} {d:α} (h:i < l.length):l.getD i d∈l:=by
 simp[List.getD,h]
theorem I5 {n:Int} {xs:List Int} (h:J4 n xs=true) {f:Int} (hf:f∈xs):0≤f∧f≤n - 1:=E0.1 (List.all_eq_true.1 h f hf)
theorem A54 {p:A6} (h:C5 p=true) {i:Nat} (hi:i < p.2.2.1.length) {f:Int} (hf:f∈D9 (p.2.2.1.getD i n0)):0≤f∧f < p.2.2.1.length:=by
 have h1:=List.all_eq_true.1 (A8 h).2.2.2.2.2.2 _ (B9 (d:=n0) hi)
 simp only[K0,Bool.and_eq_true] at h1
 have hf':f∈(p.2.2.1.getD i n0).2.2.2:=by
  unfold D9 at hf
  split at hf
  · cases hf
  · exact hf
 have:=I5 h1.1.2 hf'
 omega
theorem B5u (n:A4):(D9 n).length≤n.2.2.2.length:=by
 unfold D9;split<;>simp
theorem A9j {α:Type} {xs:List α} {q:α→Bool} {m:Nat} {d:α} (h:m < xs.length):(xs.take (m+1)).all q=((xs.take m).all q && q (xs.getD m d)):=by
 rw[G7 (d:=d) h,List.all_append];simp
theorem C1C {xs:List Int} {m:Int} {k:Nat} (hk:k < xs.length) (h:(xs.take k).contains m=false) (hne:¬xs.getD k 0=m):(xs.take (k+1)).contains m=false:=by
 rw[G7 (d:=0) hk]
 simp only[List.contains_eq_mem,List.mem_append,List.mem_singleton,decide_eq_false_iff_not,not_or] at h ⊢
 exact⟨h,fun e=>hne e.symm⟩
theorem C08 {xs:List Int} {m:Int} {k:Nat} (hk:k < xs.length) (h:xs.getD k 0=m):xs.contains m=true:=by
 simp only[List.contains_eq_mem,decide_eq_true_eq];rw[←h];exact B9 hk
theorem C0Z {xs:List Int} {m:Int} {k:Nat} (h:(xs.take k).contains m=false) (hk:¬k < xs.length):xs.contains m=false:=by
 rw[List.take_of_length_le (by omega)] at h;exact h
def A2c (a b:Int):Int:=min a b
def A0I (a b:Int):Int:=max a b
theorem C3W {a b:Int} (h:a≤b):a=A2c a b:=by unfold A2c;omega
theorem C3F {a b:Int} (h:b≤a):b=A2c a b:=by unfold A2c;omega
theorem C3b {a b:Int} (h:b≤a):a=A0I a b:=by unfold A0I;omega
theorem C3I {a b:Int} (h:a≤b):b=A0I a b:=by unfold A0I;omega
def A85 (xs:List Int):Bool:=decide (xs.length≤4000) && S8 xs
def arL:List Int:=[-1,0,0,2,2,1,1,1,1,2,1,1,1,1,0,3,2,1]
def B6f:List Int:=[1,2,5,6,10,11,12,13,14,17]
def A3n (kd a tb:Int):Bool :=
 match decide (kd=1) with
 | true=>O7 a 0 3
 | false => match decide (kd = 6) with
   | true=>O7 a 1 16
   | false => match decide (kd = 10) with
     | true=>O7 a 0 31
     | false => match decide (kd = 11) with
       | true=>O7 a 0 2147483647
       | false => match decide (kd = 13) with
         | true=>O7 a 0 (min (max tb 0) 4 - 1)
         | false => match B6f.contains kd with
           | true=>smp a
           | false=>decide (a=0)
def A5b (kd a bb:Int) (fr:List Int) (tb:Int):Bool :=
 O7 kd 1 17 && A3n kd a tb && decide ((fr.length:Int)=arL.getD kd.toNat 0) && fr.all (fun f=>O7 f 0 23) && (match decide (kd=17) with|true=>O7 bb 1 16|false=>decide (bb=0))
theorem C3M (a tb:Int):O7 a 0 (min (max tb 0) 4 - 1)=(O7 a 0 3 && decide (a < tb)):=by
 rw[Bool.eq_iff_iff];simp only[O7,Bool.and_eq_true,decide_eq_true_eq];omega
theorem C1x (m:Nat) (h1:1≤m) (h2:m≤17) (a tb:Int) :
 A3n m a tb=((match decide ((kT m).2.1≤(kT m).2.2.1) with|true=>O7 a (kT m).2.1 (kT m).2.2.1|false=>decide (a=0)) && (!decide ((m:Int)=13) || decide (a < tb))) ∧
 arL.getD m 0=(kT m).1∧decide ((m:Int)=17)=(kT m).2.2.2.2:=by
 have c:m=1∨m=2∨m=3∨m=4∨m=5∨m=6∨m=7∨m=8∨m=9∨m=10∨m=11∨m=12∨m=13∨m=14∨m=15∨m=16∨m=17:=by omega
 rcases c with rfl|rfl|rfl|rfl|rfl|rfl|rfl|rfl|rfl|rfl|rfl|rfl|rfl|rfl|rfl|rfl|rfl<;>refine⟨?_,rfl,rfl⟩
 case inr.inr.inr.inr.inr.inr.inr.inr.inr.inr.inr.inr.inl=>exact C3M a tb
 all_goals(show _=(_ && true);rw[Bool.and_true];rfl)
theorem C4F (a b c d e:Bool):(a && b && c && d && e)=(a && e && d && c && b):=by
 cases a<;>cases b<;>cases c<;>cases d<;>cases e<;>rfl
theorem B8H (kd a bb:Int) (fr:List Int) (tb:Int):A5b kd a bb fr tb=N5 (kd,a,bb,fr) tb:=by
 cases hk:O7 kd 1 17 with
 | false=>simp[A5b,N5,hk]
 | true =>
   obtain⟨h1,h2⟩:=E0.1 hk
   obtain⟨m,rfl⟩:=Int.eq_ofNat_of_zero_le (by omega:0≤kd)
   obtain⟨e1,e2,e3⟩:=C1x m (by omega) (by omega) a tb
   unfold A5b N5;simp only[hk,Bool.true_and,e1,Int.toNat_natCast,e2,e3];exact C4F _ _ _ _ _
theorem B9P (t:List Int):([2,4,8,16].contains (t.length:Int) && A85 t)=A6W t:=by
 have e:([2,4,8,16].contains (t.length:Int))=(decide (t.length=2) || decide (t.length=4) || decide (t.length=8) || decide (t.length=16)):=by
  rw[Bool.eq_iff_iff];simp only[List.contains_eq_mem,List.mem_cons,List.not_mem_nil,or_false,decide_eq_true_eq,Bool.or_eq_true];omega
 unfold A6W A85;rw[e];cases h:(decide (t.length=2) || decide (t.length=4) || decide (t.length=8) || decide (t.length=16)) with
 | false=>rfl
 | true =>
   simp only[Bool.or_eq_true,decide_eq_true_eq] at h
   rw[decide_eq_true (by omega:t.length≤4000)]
   rfl
theorem B7L {p:A6} {n:A4} (h1:N5 n p.2.1.length=true) (h2:¬(n.1=1∧p.1≤n.2.1)) (h3:∀f∈n.2.2.2,f < (p.2.2.1.length:Int)):K0 p n=true:=by
 have h4:n.2.2.2.all (fun f=>O7 f 0 23)=true:=by simp only[N5,Bool.and_eq_true] at h1;exact h1.1.1.2
 have h5:J4 p.2.2.1.length n.2.2.2=true:=by
  refine List.all_eq_true.2 fun f hf=>E0.2 ⟨(E0.1 (List.all_eq_true.1 h4 f hf)).1,?_⟩
  have:=h3 f hf;omega
 simp only[K0,h1,h5,Bool.true_and];simp only[Bool.not_eq_true',Bool.and_eq_false_iff,decide_eq_false_iff_not]
 by_cases h:n.1=1
 · exact .inr fun hh=>h2 ⟨h,hh⟩
 · exact .inl h
theorem B2l {p:A6} {n:A4} (h1:N5 n p.2.1.length=true) (h2:J4 p.2.2.1.length n.2.2.2=true) (h3:¬(n.1=1∧p.1≤n.2.1)):K0 p n=true:=by
 simp only[K0,h1,h2,Bool.true_and];simp only[Bool.not_eq_true',Bool.and_eq_false_iff,decide_eq_false_iff_not]
 by_cases h:n.1=1
 · exact .inr fun hh=>h3 ⟨h,hh⟩
 · exact .inl h
theorem G1 {p:A6} {n:A4} (h:K0 p n=true):N5 n p.2.1.length=true∧J4 p.2.2.1.length n.2.2.2=true∧¬(n.1=1∧p.1≤n.2.1):=by
 simp only[K0,Bool.and_eq_true,Bool.not_eq_true',Bool.and_eq_false_iff,decide_eq_false_iff_not] at h
 exact⟨h.1.1,h.1.2,fun hh=>h.2.elim (fun g=>g hh.1) (fun g=>g hh.2)⟩
def B4I (ns:List A4):List Int × Bool:=match decide ((O4 ns).length=ns.length) with
 | true=>(O4 ns,true)
 | false=>([],false)
def j8 (p q:A6):Int:=match C7 p && C7 q with
 | false=>1
 | true => match decide (p.1 = q.1) with
   | true=>0
   | false=>6
abbrev fits (n:Nat):Prop:=n≤1099511627776
def B6e (xs:List (List Int)):Prop:=xs.length≤1099511627776∧∀l∈xs,l.length≤1099511627776
def C58 (xs:List A4):Prop:=xs.length≤1099511627776∧∀l∈xs,l.2.2.2.length≤1099511627776
def B30 (p:A6):Prop:=B6e p.2.1∧C58 p.2.2.1∧p.2.2.2.length≤1099511627776
def j7 (n f:Int):Int:=IntKind.i64.wrap (f+n)
def M2 (n t:Int) (x:A4):A4:=(x.1,(match decide (x.1=13) with|true=>j7 t x.2.1|false=>x.2.1),x.2.2.1,x.2.2.2.map (j7 n))
theorem A4c {f:Int→Int} {xs:List Int} {k:Nat}:((xs.take k).map f++xs.drop k).length=xs.length:=by
 simp only[List.length_append,List.length_map,List.length_take,List.length_drop];omega
theorem B4Y {f:Int→Int} {xs:List Int} {k:Nat} (d:Int) (h:k < xs.length):((xs.take k).map f++xs.drop k).getD k d=xs.getD k d:=by
 rw[List.getD_eq_getElem?_getD,List.getD_eq_getElem?_getD,List.getElem?_append_right (by simp;omega),List.getElem?_drop]
 simp only[List.length_map,List.length_take]
 congr 2;omega
theorem A7L {f:Int→Int} {xs:List Int} {k:Nat} (d:Int) (h:k < xs.length):((xs.take k).map f++xs.drop k).set k (f (xs.getD k d))=(xs.take (k+1)).map f++xs.drop (k+1):=by
 apply List.ext_getElem?
 intro j;rw[List.getElem?_set]
 by_cases hj:k=j
 · subst hj;rw[if_pos rfl,if_pos (by rw[A4c];exact h),List.getElem?_append_left (by simp;omega)]
   simp[List.getD_eq_getElem?_getD,List.getElem?_eq_getElem h]
 · rw[if_neg hj];rcases Nat.lt_or_gt_of_ne hj with h1|h1
   · rw[List.getElem?_append_right (by simp;omega),List.getElem?_append_right (by simp;omega)]
     simp only[List.length_map,List.length_take,List.getElem?_drop]
     congr 1;omega
   · rw[List.getElem?_append_left (by simp;omega),List.getElem?_append_left (by simp;omega)]
     simp only[List.getElem?_map,List.getElem?_take];rw[if_pos h1,if_pos (by omega)]
theorem C0l {α β:Type} {f:α→β} {A:List β} {xs:List α} {k:Nat} (d:α) (h:k < xs.length):A++(xs.take k).map f++[f (xs.getD k d)]=A++(xs.take (k+1)).map f:=by
 rw[G7 (d:=d) h,List.map_append,List.map_cons,List.map_nil,List.append_assoc]
theorem A3P {α β:Type} {f:α→β} {A:List β} {xs:List α} {k:Nat} (d:α) (h:k < xs.length):A++((xs.take k).map f++[f (xs.getD k d)])=A++(xs.take (k+1)).map f:=by
 rw[←List.append_assoc];exact C0l d h
theorem B6h {α β:Type} {f:α→β} {A:List β} {xs:List α} {k:Nat} (h:xs.length≤k):A++(xs.take k).map f=A++xs.map f:=by
 rw[List.take_of_length_le h]
abbrev C3Y:=List (List Int) × List A4 × List Int
def B3N (u:C3Y) (p:A6):C3Y:=(u.1++p.2.1,u.2.1++p.2.2.1.map (M2 u.2.1.length u.1.length),u.2.2++p.2.2.2.map (j7 u.2.1.length))
def J1 (ps:List A6):C3Y:=ps.foldl B3N ([],[],[])
def A4Q (p:A6):Prop:=p.2.1.length≤4∧(∀l∈p.2.1,l.length≤16)∧p.2.2.1.length≤24∧(∀x∈p.2.2.1,x.2.2.2.length≤23)∧p.2.2.2.length≤4
def B2Q (ps:List A6):Prop:=ps.length≤1000∧∀p∈ps,A4Q p
theorem A6o {ps:List A6} {k:Nat} (d:A6) (h:k < ps.length):J1 (ps.take (k+1))=B3N (J1 (ps.take k)) (ps.getD k d):=by
 rw[G7 (d:=d) h];simp[J1,List.foldl_append]
theorem B5O {ps:List A6} (h:∀p∈ps,A4Q p) (k:Nat) (hk:k≤ps.length):(J1 (ps.take k)).1.length≤4 * k∧(J1 (ps.take k)).2.1.length≤24 * k∧(J1 (ps.take k)).2.2.length≤4 * k:=by
 induction k with
 | zero=>simp[J1]
 | succ k ih =>
   obtain⟨i1,i2,i3⟩:=ih (by omega)
   obtain⟨j1,j2,j3,j4,j5⟩:=h _ (B9 (d:=(0,[],[],[])) (i:=k) (by omega))
   rw[A6o (0,[],[],[]) (by omega)]
   refine⟨?_,?_,?_⟩<;>simp only[B3N,List.length_append,List.length_map]<;>omega
theorem A6q {p:A6} (h:A4Q p):B6e p.2.1:=⟨by have:=h.1;omega,fun l hl=>by have:=h.2.1 l hl;omega⟩
theorem X9 {p:A6} (h:A4Q p):B30 p:=⟨A6q h,⟨by have:=h.2.2.1;omega,fun l hl=>by have:=h.2.2.2.1 l hl;omega⟩,by have:=h.2.2.2.2;omega⟩
theorem C2p (k:Int):(kT k).1≤3:=by
 have h:∀x∈A6v,x.1≤3:=by decide
 unfold kT
 by_cases hk:(k - 1).toNat < A6v.length
 · exact h _ (B9 hk)
 · rw[List.getD_eq_getElem?_getD,List.getElem?_eq_none (by omega)];decide
theorem Z8 {p:A6} (h:C7 p=true):A4Q p:=by
 have hf:C5 p=true:=by unfold C7 at h;exact(Bool.and_eq_true_iff.1 h).1
 obtain⟨p1,p2,p3,p4,p5,p6,p7⟩:=A8 hf
 simp only[y2,Bool.and_eq_true,decide_eq_true_eq] at p3
 refine⟨p3.2,fun l hl=>?_,p1,fun x hx=>?_,p2⟩
 · have:=List.all_eq_true.1 p3.1 l hl
   simp only[A6W,Bool.and_eq_true,Bool.or_eq_true,decide_eq_true_eq] at this
   omega
 · have h1:=(G1 (List.all_eq_true.1 p7 x hx)).1
   simp only[N5,Bool.and_eq_true,decide_eq_true_eq] at h1
   have h2:=h1.1.2
   have h3:=C2p x.1
   omega
def S9 (p q:A6):A6:=(p.1,p.2.1++q.2.1,p.2.2.1++q.2.2.1.map (M2 p.2.2.1.length p.2.1.length),p.2.2.2++q.2.2.2.map (j7 p.2.2.1.length))
theorem A5c {f:Int} (h:0≤f∧f≤1000):j7 0 f=f:=by unfold j7;rw[G9 (by omega)];omega
theorem A8v {α:Type} {f:α→α} {l:List α} (h:∀x∈l,f x=x):l.map f=l:=by
 induction l with
 | nil=>rfl
 | cons x l ih=>rw[List.map_cons,h x List.mem_cons_self,ih fun y hy=>h y (List.mem_cons_of_mem _ hy)]
theorem B7K {p q:A6} (h:C7 p=true):(p.1,J1 [p,q])=S9 p q:=by
 have hf:C5 p=true:=by unfold C7 at h;exact(Bool.and_eq_true_iff.1 h).1
 obtain⟨p1,p2,p3,p4,p5,p6,p7⟩:=A8 hf
 have e1:p.2.2.2.map (j7 0)=p.2.2.2:=A8v fun x hx=>A5c (by have:=I5 p6 hx;omega)
 have e2:p.2.2.1.map (M2 0 0)=p.2.2.1:=A8v fun x hx=>by
  obtain⟨h1,h2,_⟩:=G1 (List.all_eq_true.1 p7 x hx)
  obtain⟨kd,a,b,fr⟩:=x;have e3:fr.map (j7 0)=fr:=A8v fun y hy=>A5c (by have:=I5 h2 hy;omega)
  unfold M2;simp only[e3]
  congr 2
  split
  · rename_i hd
    simp only[decide_eq_true_eq] at hd
    subst hd;simp only[N5,Bool.and_eq_true] at h1
    have h3:=h1.1.1.1.1.2
    have:O7 a 0 3=true:=h3
    exact A5c (by have:=E0.1 this;omega)
  · rfl
 simp only[J1,List.foldl_cons,List.foldl_nil,B3N,List.nil_append,List.length_nil,S9,List.length_map];rw[show ((0:Nat):Int)=0 from rfl,e1,e2]
theorem C1Q {p q:A6} (h:j8 p q=0):C7 p=true∧C7 q=true∧p.1=q.1:=by
 unfold j8 at h;cases h1:C7 p<;>cases h2:C7 q<;>simp[h1,h2] at h ⊢
 by_cases h3:p.1=q.1
 · exact h3
 · simp[h3] at h
instance:DecidableEq A4:=inferInstanceAs (DecidableEq (Int × Int × Int × List Int))
instance:DecidableEq A6:=instDecidableEqProd
section
variable {α:Type} {mk:Int→α→α} {ct:α→Nat} {xs:List α} {k:Int} {m:Nat}
def eqD (x y:α) [DecidableEq α]:Bool:=decide (x=y)
theorem B9k [DecidableEq α] {x y:α} (h:eqD x y=true):x=y:=of_decide_eq_true h
theorem C4A [DecidableEq α] {x y:α} (h:eqD x y=false):¬x=y:=of_decide_eq_false h
theorem B6u [DecidableEq α] (x:α):eqD x x=true:=decide_eq_true rfl
theorem A7Q [DecidableEq α] {ys:List α} (d:α) (hx:m < xs.length) (hl:xs.length=ys.length) (hp:xs.take m=ys.take m) (hq:eqD (xs.getD m d) (ys.getD m d)=true):xs.take (m+1)=ys.take (m+1):=by
 rw[G7 (d:=d) hx,G7 (d:=d) (by omega),hp,B9k hq]
theorem A7O [DecidableEq α] {ys:List α} (hx:xs.length≤m) (hl:xs.length=ys.length) (hp:xs.take m=ys.take m):eqD xs ys=true:=by
 rw[List.take_of_length_le hx,List.take_of_length_le (by omega)] at hp;exact decide_eq_true hp
theorem A7J [DecidableEq α] {ys:List α} (d:α) (hq:eqD (xs.getD m d) (ys.getD m d)=false):eqD xs ys=false:=by
 refine decide_eq_false ?_;rintro rfl;exact C4A hq rfl
theorem B0u [DecidableEq α] {ys:List α} (hq:¬xs.length=ys.length):eqD xs ys=false:=by
 refine decide_eq_false ?_;rintro rfl;exact hq rfl
end
open Go.RowKit
def B6M (a x:Int):Int:=max (-a) (min x a)
def uns (x:Int):Int:=x % 4294967296
def B2k (t:List Int) (x:Int):Int:=t.getD ((t.length * uns x) / 4294967296).toNat 0
def C46 (x a:Int):Int:=x.fdiv (2 ^ (min a.toNat 64))
def C22 (x:Int):Int:=IntKind.i64.wrap ((BitVec.ofInt IntKind.i64.bits x ^^^ BitVec.ofInt IntKind.i64.bits 2734686208).toNat:Int)
def A11 (s:Int):Int:=match decide (s % 2=1) with|true=>wrap32 (C22 (uns s / 2))|false=>wrap32 (uns s / 2)
def A2f (kd a:Int) (tabs:List (List Int)) (i s:List Int):Int :=
 if kd=1 then i.getD 0 0 else if kd=2 then a else if kd=3 then wrap32 (i.getD 0 0+i.getD 1 0) else if kd=4 then wrap32 (i.getD 0 0 - i.getD 1 0) else if kd=5 then wrap32 (a * i.getD 0 0)
 else if kd=6 then s.getD 0 0 else if kd=7 then wrap32 (s.getD 0 0+i.getD 0 0) else if kd=8 then wrap32 (i.getD 0 0 - s.getD 0 0) else if kd=9 then wrap32 (i.getD 0 0 * i.getD 1 0)
 else if kd=10 then C46 (i.getD 0 0) a else if kd=11 then B6M a (i.getD 0 0) else if kd=12 then s.getD 0 0 else if kd=13 then B2k (tabs.getD a.toNat []) (i.getD 0 0)
 else if kd=14 then s.getD 0 0 else if kd=15 then (match decide (0≤i.getD 0 0) with|true=>i.getD 1 0|false=>i.getD 2 0) else if kd=16 then (match decide (0 < i.getD 1 0) with|true=>i.getD 0 0|false=>s.getD 0 0) else wrap32 (i.getD 0 0+a * s.getD 0 0)
def A6y (kd:Int) (i s:List Int) (out:Int):List Int :=
 if kd=6 then s.drop 1++[i.getD 0 0] else if kd=7 then [out] else if kd=8 then [i.getD 0 0] else if kd=12 then [wrap32 (s.getD 0 0+i.getD 0 0)] else if kd=14 then [A11 (s.getD 0 0)]
 else if kd=16 then [out] else if kd=17 then s.drop 1++[out] else []
def O2 (n:A4):List Int :=
 if n.1=6 then List.replicate n.2.1.toNat 0 else if n.1=17 then List.replicate n.2.2.1.toNat 0 else if n.1=7 then [0] else if n.1=8 then [0] else if n.1=16 then [0]
 else if n.1=12 then [n.2.1] else if n.1=14 then [n.2.1] else []
def j6 (n:A4) (frame vals:List Int):List Int:=match decide (n.1=1) with|true=>[frame.getD n.2.1.toNat 0]|false=>n.2.2.2.map fun i=>vals.getD i.toNat 0
def B7o (n:A4):Nat:=match decide (n.1=1) with|true=>1|false=>n.2.2.2.length
theorem n7 {x:Int}:smp x=true↔-2147483648≤x∧x≤2147483647:=E0
theorem A3q (x:Int):smp (wrap32 x)=true:=n7.2 (B8f x)
theorem V7 {xs:List Int}:S8 xs=true↔∀x∈xs,smp x=true:=List.all_eq_true
theorem b7 {xs:List Int} (h:S8 xs=true) (i:Nat):smp (xs.getD i 0)=true:=by
 by_cases hi:i < xs.length
 · exact V7.1 h _ (B9 hi)
 · rw[List.getD_eq_getElem?_getD,List.getElem?_eq_none (by omega)];rfl
theorem a5 {n:A4} {tb:Int} (h:N5 n tb=true):1≤n.1∧n.1≤17∧(match decide ((kT n.1).2.1≤(kT n.1).2.2.1) with|true=>O7 n.2.1 (kT n.1).2.1 (kT n.1).2.2.1|false=>decide (n.2.1=0))=true ∧
 (match (kT n.1).2.2.2.2 with|true=>O7 n.2.2.1 1 16|false=>decide (n.2.2.1=0))=true∧(n.2.2.2.length:Int)=(kT n.1).1∧(n.1=13→n.2.1 < tb):=by
 simp only[N5,Bool.and_eq_true,decide_eq_true_eq,Bool.or_eq_true,Bool.not_eq_true',decide_eq_false_iff_not] at h
 obtain⟨⟨⟨⟨⟨h1,h2⟩,h3⟩,h4⟩,h5⟩,h6⟩:=h
 obtain⟨h7,h8⟩:=E0.1 h1
 exact⟨h7,h8,h2,h3,h5,fun e=>by rcases h6 with h6|h6;exact absurd e h6;exact h6⟩
theorem f0 {kd a b tb:Int} {fr:List Int} (h:N5 (kd,a,b,fr) tb=true):smp a=true∧(kd=1→0≤a∧a≤3)∧(kd=6→1≤a∧a≤16)∧(kd=10→0≤a∧a≤31)∧(kd=11→0≤a)∧(kd=13→0≤a∧a≤3∧a < tb)∧(kd=17→1≤b∧b≤16) ∧
 (kd=3∨kd=4∨kd=9∨kd=16→fr.length=2)∧(kd=5∨kd=6∨kd=7∨kd=8∨kd=10∨kd=11∨kd=12∨kd=13∨kd=17→fr.length=1)∧(kd=15→fr.length=3)∧(kd=1∨kd=2∨kd=14→fr.length=0):=by
 obtain⟨h1,h2,h3,h4,h5,h6⟩:=a5 h
 simp only at h1 h2 h3 h4 h5 h6
 obtain⟨m,rfl⟩:=Int.eq_ofNat_of_zero_le (by omega:0≤kd)
 have c:m=1∨m=2∨m=3∨m=4∨m=5∨m=6∨m=7∨m=8∨m=9∨m=10∨m=11∨m=12∨m=13∨m=14∨m=15∨m=16∨m=17:=by omega
 rcases c with rfl|rfl|rfl|rfl|rfl|rfl|rfl|rfl|rfl|rfl|rfl|rfl|rfl|rfl|rfl|rfl|rfl<;>simp[kT,A6v,O7,smp,-Int.not_lt] at h3 h4 h5 h6 ⊢<;>(try subst h5)<;>(try simp)<;>(try omega)
theorem A4L (n:A4):(O2 n).length=(if n.1=6 then n.2.1.toNat else if n.1=17 then n.2.2.1.toNat else if n.1=7∨n.1=8∨n.1=16∨n.1=12∨n.1=14 then 1 else 0):=by
 unfold O2;repeat' split
 all_goals first|(simp;done)|(simp_all;done)|omega
def stepOk (n:A4) (tabs:List (List Int)) (i s:List Int):Prop:=N5 n tabs.length=true∧y2 tabs=true∧i.length=B7o n∧s.length=(O2 n).length∧S8 i=true∧S8 s=true
theorem a7 {ts:List (List Int)} (h:y2 ts=true):ts.length≤4∧∀t∈ts,(t.length=2∨t.length=4∨t.length=8∨t.length=16)∧S8 t=true:=by
 simp only[y2,Bool.and_eq_true,decide_eq_true_eq] at h
 refine⟨h.2,fun t ht=>?_⟩
 have:=List.all_eq_true.1 h.1 t ht
 simp only[A6W,Bool.and_eq_true,Bool.or_eq_true,decide_eq_true_eq] at this
 exact⟨by omega,this.2⟩
theorem C0b {x a:Int} (h:smp x=true):smp (C46 x a)=true:=by
 rw[n7] at *
 unfold C46
 have hp:(1:Int)≤2 ^ (min a.toNat 64):=by
  have:(0:Int) < 2 ^ (min a.toNat 64):=Int.pow_pos (by omega)
  omega
 generalize (2:Int) ^ (min a.toNat 64)=m at *
 rw[Int.fdiv_eq_ediv_of_nonneg _ (by omega)]
 constructor
 · exact Int.le_trans (by omega) ((Int.le_ediv_iff_mul_le (by omega)).2 (by
    have:-2147483648 * m≤-2147483648 * 1:=Int.mul_le_mul_of_nonpos_left (by omega) hp
    omega):-2147483648≤x / m)
 · rcases Int.lt_or_le x 0 with hx|hx
   · have:=Int.ediv_neg_of_neg_of_pos hx (by omega:0 < m);omega
   · have:=Int.ediv_le_self m hx;omega
theorem C0E {t:List Int} {x:Int} (h:S8 t=true):smp (B2k t x)=true:=b7 h _
theorem T2 {c:Prop} [Decidable c] {x y:Int} (h1:c→smp x=true) (h2:¬c→smp y=true):smp (if c then x else y)=true:=by
 by_cases h:c
 · rw[if_pos h];exact h1 h
 · rw[if_neg h];exact h2 h
theorem B4G {n:A4} {tabs:List (List Int)} {i s:List Int} (h:stepOk n tabs i s):smp (A2f n.1 n.2.1 tabs i s)=true:=by
 obtain⟨kd,a,b,fr⟩:=n;obtain⟨h1,h2,h3,h4,h5,h6⟩:=h;obtain⟨q1,q2,q3,q4,q5,q6,_⟩:=f0 h1
 have hi:=b7 h5
 have hs:=b7 h6
 unfold A2f;simp only
 refine T2 (fun _=>hi 0) fun _=>?_
 refine T2 (fun _=>q1) fun _=>?_
 refine T2 (fun _=>A3q _) fun _=>?_
 refine T2 (fun _=>A3q _) fun _=>?_
 refine T2 (fun _=>A3q _) fun _=>?_
 refine T2 (fun _=>hs 0) fun _=>?_
 refine T2 (fun _=>A3q _) fun _=>?_
 refine T2 (fun _=>A3q _) fun _=>?_
 refine T2 (fun _=>A3q _) fun _=>?_
 refine T2 (fun _=>C0b (hi 0)) fun _=>?_
 refine T2 (fun e=>?_) fun _=>?_
 · have:=q5 e
   have h0:=n7.1 (hi 0)
   rw[n7] at q1 ⊢
   unfold B6M;omega
 refine T2 (fun _=>hs 0) fun _=>?_
 refine T2 (fun _=>?_) fun _=>?_
 · refine C0E ?_
   by_cases ha:a.toNat < tabs.length
   · exact((a7 h2).2 _ (B9 ha)).2
   · rw[List.getD_eq_getElem?_getD,List.getElem?_eq_none (by omega)];rfl
 refine T2 (fun _=>hs 0) fun _=>?_
 refine T2 (fun _=>?_) fun _=>?_
 · cases decide (0≤i.getD 0 0)
   · exact hi 2
   · exact hi 1
 refine T2 (fun _=>?_) fun _=>A3q _
 cases decide (0 < i.getD 1 0)
 · exact hs 0
 · exact hi 0
theorem B5M (s:Int):smp (A11 s)=true:=by unfold A11;split<;>exact A3q _
theorem B0D {xs:List Int} (h:S8 xs=true) (n:Nat):S8 (xs.drop n)=true:=V7.2 fun x hx=>V7.1 h x (List.mem_of_mem_drop hx)
theorem B0Q {xs:List Int} {x:Int} (h:S8 xs=true) (hx:smp x=true):S8 (xs++[x])=true:=by
 simp only[S8,List.all_append,Bool.and_eq_true] at *;exact⟨h,by simpa using hx⟩
theorem A0Y {x:Int} (hx:smp x=true):S8 [x]=true:=by simpa [S8] using hx
theorem C1B {n:A4} {tabs:List (List Int)} {i s:List Int} {o:Int} (h:stepOk n tabs i s) (ho:smp o=true):(A6y n.1 i s o).length=(O2 n).length∧S8 (A6y n.1 i s o)=true:=by
 obtain⟨kd,a,b,fr⟩:=n;obtain⟨h1,h2,h3,h4,h5,h6⟩:=h;obtain⟨q1,_,q3,_,_,_,q7,_⟩:=f0 h1
 have hi:=b7 h5
 have hs:=b7 h6
 rw[A4L] at h4 ⊢
 simp only[A6y] at h4 ⊢
 split
 · rename_i e;simp only[e,if_true] at h4 ⊢;have:=q3 e;exact⟨by simp only[List.length_append,List.length_drop,List.length_cons,List.length_nil];omega,B0Q (B0D h6 _) (hi 0)⟩
 split
 · rename_i e;subst e;exact⟨by simp,A0Y ho⟩
 split
 · rename_i e;subst e;exact⟨by simp,A0Y (hi 0)⟩
 split
 · rename_i e;subst e;exact⟨by simp,A0Y (A3q _)⟩
 split
 · rename_i e;subst e;exact⟨by simp,A0Y (B5M _)⟩
 split
 · rename_i e;subst e;exact⟨by simp,A0Y ho⟩
 split
 · rename_i e;subst e;have:=q7 rfl;simp at h4;exact⟨by simp;omega,B0Q (B0D h6 _) ho⟩
 · rename_i e1 e2 e3 e4 e5 e6 e7
   rw[if_neg (by omega)]
   exact⟨rfl,rfl⟩
theorem B5g {n:A4} {tb:Int} (h:N5 n tb=true):S8 (O2 n)=true:=by
 obtain⟨kd,a,b,fr⟩:=n;obtain⟨q1,_⟩:=f0 h
 have hz:∀m,S8 (List.replicate m 0)=true:=fun m=>V7.2 fun x hx=>by rw[(List.mem_replicate.1 hx).2];rfl
 simp only[O2];repeat' split
 all_goals first|exact hz _|rfl|exact A0Y q1
def A3g (p:A6) (s:List (List Int)):Prop:=s.length=p.2.2.1.length∧∀i,i < p.2.2.1.length→(s.getD i []).length=(O2 (p.2.2.1.getD i n0)).length∧S8 (s.getD i [])=true
def m8 (p:A6):List (List Int):=p.2.2.1.map O2
theorem A4e {p:A6} (h:C5 p=true) {i:Nat} (hi:i < p.2.2.1.length):K0 p (p.2.2.1.getD i n0)=true:=List.all_eq_true.1 (A8 h).2.2.2.2.2.2 _ (B9 hi)
theorem A1T {p:A6} (h:C5 p=true):A3g p (m8 p):=by
 refine⟨by simp[m8],fun i hi=>?_⟩
 have e:(m8 p).getD i []=O2 (p.2.2.1.getD i n0):=by simp[m8,List.getD,hi]
 rw[e];exact⟨rfl,B5g (G1 (A4e h hi)).1⟩
def A1x (p:A6) (v:List Int):Prop:=v.length=p.2.2.1.length∧S8 v=true
theorem C2Z {p:A6} {fr v:List Int} (h:C5 p=true) (hf:S8 fr=true) (hv:S8 v=true) (i:Nat):(j6 (p.2.2.1.getD i n0) fr v).length=B7o (p.2.2.1.getD i n0)∧S8 (j6 (p.2.2.1.getD i n0) fr v)=true:=by
 unfold j6 B7o
 split
 · exact⟨rfl,A0Y (b7 hf _)⟩
 · refine⟨by simp,V7.2 fun x hx=>?_⟩
   obtain⟨y,_,rfl⟩:=List.mem_map.1 hx
   exact b7 hv _
theorem A7T {p:A6} {s:List (List Int)} {fr v:List Int} (h:C5 p=true) (hs:A3g p s) (hf:S8 fr=true) (hv:S8 v=true) {i:Nat} (hi:i < p.2.2.1.length) :
 stepOk (p.2.2.1.getD i n0) p.2.1 (j6 (p.2.2.1.getD i n0) fr v) (s.getD i []):=by
 obtain⟨h1,h2⟩:=C2Z h hf hv i
 exact⟨(G1 (A4e h hi)).1,(A8 h).2.2.1,h1,(hs.2 i hi).1,h2,(hs.2 i hi).2⟩
def B3E (p:A6) (s:List (List Int)) (fr v:List Int) (i:Nat):Int:=A2f (p.2.2.1.getD i n0).1 (p.2.2.1.getD i n0).2.1 p.2.1 (j6 (p.2.2.1.getD i n0) fr v) (s.getD i [])
def A6t (p:A6) (s:List (List Int)) (fr v:List Int) (o:Int) (i:Nat):List Int:=A6y (p.2.2.1.getD i n0).1 (j6 (p.2.2.1.getD i n0) fr v) (s.getD i []) o
def o5 (p:A6) (s:List (List Int)) (fr v:List Int) (i:Int):List Int:=v.set i.toNat (B3E p s fr v i.toNat)
def Y4 (p:A6) (s:List (List Int)) (fr v0:List Int) (ord:List Int):List Int:=ord.foldl (o5 p s fr) v0
def U8 (p:A6) (s:List (List Int)) (fr:List Int):List Int:=Y4 p s fr (List.replicate p.2.2.1.length 0) (O4 p.2.2.1)
def A3i (p:A6) (s:List (List Int)) (fr v:List Int):List (List Int):=(List.range p.2.2.1.length).map fun i=>A6t p s fr v (v.getD i 0) i
def Y6 (p:A6) (v:List Int):List Int:=p.2.2.2.map fun i=>v.getD i.toNat 0
theorem A1U {α:Type} {l:List α} {i j:Nat} {x d:α} (hi:i < l.length):(l.set i x).getD j d=if i=j then x else l.getD j d:=by
 rw[List.getD_eq_getElem?_getD,List.getElem?_set]
 split
 · rename_i e;subst e;simp[hi]
 · rw[List.getD_eq_getElem?_getD]
theorem B9a {l:List Int} {i:Nat} {x:Int} (h:S8 l=true) (hx:smp x=true):S8 (l.set i x)=true:=V7.2 fun y hy=>by
 rcases List.mem_or_eq_of_mem_set hy with hy|rfl
 · exact V7.1 h y hy
 · exact hx
theorem B5H {p:A6} {s:List (List Int)} {fr v:List Int} (h:C5 p=true) (hs:A3g p s) (hf:S8 fr=true) (hv:A1x p v) {i:Int} (h0:i.toNat < p.2.2.1.length):A1x p (o5 p s fr v i) :=
 ⟨by unfold o5;rw[List.length_set];exact hv.1,B9a hv.2 (B4G (A7T h hs hf hv.2 h0))⟩
theorem A4X {p:A6} {s:List (List Int)} {fr v0:List Int} {ord:List Int} {k:Nat} (hk:k < ord.length):Y4 p s fr v0 (ord.take (k+1))=o5 p s fr (Y4 p s fr v0 (ord.take k)) (ord.getD k 0):=by
 rw[G7 (d:=0) hk];simp[Y4,List.foldl_append]
def GoodO (ns:List A4) (o:List Int):Prop:=∀j,j < o.length→∃i:Nat,o.getD j 0=(i:Int)∧i < ns.length∧(i:Int) ∉ o.take j∧∀f∈D9 (ns.getD i n0),f∈o.take j
theorem GoodO.ext {ns:List A4} {o:List Int} (h:GoodO ns o) {i:Nat} (hi:A2L ns o=some i):GoodO ns (o++[(i:Int)]):=by
 intro j hj
 rw[List.length_append] at hj;simp only[List.length_cons,List.length_nil] at hj
 by_cases hj':j < o.length
 · obtain⟨i',h1,h2,h3,h4⟩:=h j hj'
   refine⟨i',?_,h2,?_,?_⟩
   · rw[List.getD_eq_getElem?_getD,List.getElem?_append_left hj',←List.getD_eq_getElem?_getD];exact h1
   · rw[List.take_append_of_le_length (by omega)];exact h3
   · rw[List.take_append_of_le_length (by omega)];exact h4
 · have e:j=o.length:=by omega
   subst e;have hf:=List.find?_some hi
   have hm:=List.mem_range.1 (List.mem_of_find?_eq_some hi)
   simp only[R5,Bool.and_eq_true,Bool.not_eq_true',List.all_eq_true,List.contains_eq_mem,decide_eq_true_eq,decide_eq_false_iff_not] at hf
   refine⟨i,by simp[List.getD],hm,?_,?_⟩
   · rw[List.take_append_of_le_length (by omega),List.take_length];exact hf.1
   · rw[List.take_append_of_le_length (by omega),List.take_length];exact hf.2
theorem B5T {ns:List A4}:∀(k:Nat) {o:List Int},GoodO ns o→GoodO ns (A0u ns k o):=by
 intro k
 induction k with
 | zero=>intro o h;exact h
 | succ k ih =>
   intro o h
   simp only[A0u]
   split
   · exact h
   · rename_i i hi;exact ih (h.ext hi)
theorem A1q (ns:List A4):GoodO ns (O4 ns):=B5T _ fun j hj=>by simp at hj
theorem z0 {o:List Int} {j:Nat} {x:Int}:x∈o.take j↔∃i,i < j∧i < o.length∧o.getD i 0=x:=by
 rw[List.mem_take_iff_getElem]
 constructor
 · rintro⟨i,hi,rfl⟩
   exact⟨i,by omega,by omega,by simp[List.getD,show i < o.length by omega]⟩
 · rintro⟨i,h1,h2,rfl⟩
   exact⟨i,by omega,by simp[List.getD,h2]⟩
theorem B5d:∀(n:Nat) (l:List Int),l.Nodup→(∀x∈l,0≤x∧x < n)→l.length≤n:=by
 intro n
 induction n with
 | zero =>
   intro l _ h
   cases l with
   | nil=>simp
   | cons x l=>have:=h x List.mem_cons_self;omega
 | succ n ih =>
   intro l hn h
   have h1:=ih (l.erase n) (hn.erase _) fun x hx=>by
    have:=h x (List.mem_of_mem_erase hx)
    have hne:x≠n:=by rintro rfl;exact hn.not_mem_erase hx
    omega
   have h2:=@List.length_erase _ _ _ (n:Int) l
   split at h2<;>omega
theorem full {n:Nat} {l:List Int} (hn:l.Nodup) (h:∀x∈l,0≤x∧x < n) (hl:l.length=n) (i:Nat) (hi:i < n):(i:Int)∈l:=by
 apply Classical.byContradiction
 intro hc;have:=B5d n ((i:Int)::l) (List.nodup_cons.2 ⟨hc,hn⟩) (fun x hx=>by rcases List.mem_cons.1 hx with rfl|hx;exact⟨by omega,by omega⟩;exact h x hx)
 simp at this;omega
theorem GoodO.nodup {ns:List A4} {o:List Int} (h:GoodO ns o):o.Nodup:=by
 rw[List.nodup_iff_pairwise_ne,List.pairwise_iff_getElem];intro a b ha hb hab e
 obtain⟨i,h1,h2,h3,_⟩:=h b hb
 apply h3
 rw[←h1];exact z0.2 ⟨a,hab,ha,by simp[List.getD,ha,hb,e]⟩
theorem GoodO.full {ns:List A4} {o:List Int} (h:GoodO ns o) (hl:o.length=ns.length) {i:Nat} (hi:i < ns.length):(i:Int)∈o:=by
 refine Go.Proofs.YtflobmmbhaofbaaGreat.full h.nodup (fun x hx=>?_) hl i hi
 obtain⟨j,hj,rfl⟩:=List.mem_iff_getElem.1 hx
 obtain⟨i',h1,h2,_⟩:=h j hj
 have:o.getD j 0=o[j]:=by simp[List.getD,hj]
 omega
theorem B5Q {n:A4} {fr v v':List Int} (hd:n.1≠6) (h:∀f∈D9 n,v.getD f.toNat 0=v'.getD f.toNat 0):j6 n fr v=j6 n fr v':=by
 unfold j6
 split
 · rfl
 · unfold D9 at h;rw[decide_eq_false hd] at h;exact List.map_congr_left h
theorem A9B {p:A6} {s:List (List Int)} {fr v v':List Int} {i:Nat} (h:∀f∈D9 (p.2.2.1.getD i n0),v.getD f.toNat 0=v'.getD f.toNat 0):B3E p s fr v i=B3E p s fr v' i:=by
 unfold B3E
 by_cases hd:(p.2.2.1.getD i n0).1=6
 · rw[hd];rfl
 · rw[B5Q hd h]
def Sol (p:A6) (s:List (List Int)) (fr v:List Int) (o:List Int):Prop:=∀x∈o,v.getD x.toNat 0=B3E p s fr v x.toNat
theorem GoodO.at {ns:List A4} {o:List Int} (h:GoodO ns o) {x:Int} (hx:x∈o):∃i:Nat,x=i∧i < ns.length:=by
 obtain⟨j,hj,rfl⟩:=List.mem_iff_getElem.1 hx
 obtain⟨i,h1,h2,_⟩:=h j hj
 exact⟨i,by rw[←h1];simp[List.getD,hj],h2⟩
theorem GoodO.waits {ns:List A4} {o:List Int} (h:GoodO ns o) {k:Nat} {i:Nat} (hi:(i:Int)∈o.take k):∀f∈D9 (ns.getD i n0),f∈o.take k:=by
 obtain⟨j,h1,h2,h3⟩:=z0.1 hi
 obtain⟨i',h4,h5,h6,h7⟩:=h j h2
 have:i'=i:=by omega
 subst this;intro f hf
 obtain⟨q,r1,r2,r3⟩:=z0.1 (h7 f hf)
 exact z0.2 ⟨q,by omega,r2,r3⟩
theorem A2e {o:List Int} {k:Nat} {x:Int} (h:x∈o.take k):x∈o:=List.mem_of_mem_take h
theorem B7S {p:A6} {s:List (List Int)} {fr:List Int}:∀{o v:List Int},(Y4 p s fr v o).length=v.length:=by
 intro o
 induction o with
 | nil=>intro v;rfl
 | cons x l ih=>intro v;simp only[Y4,List.foldl_cons] at *;rw[ih];simp[o5]
theorem B9S {p:A6} {s:List (List Int)} {fr v0:List Int} {o:List Int} (h:GoodO p.2.2.1 o) (hl:v0.length=p.2.2.1.length):∀k,k≤o.length→Sol p s fr (Y4 p s fr v0 (o.take k)) (o.take k):=by
 intro k
 induction k with
 | zero=>intro _ x hx;simp at hx
 | succ k ih =>
   intro hk;have ih:=ih (by omega)
   obtain⟨i,h1,h2,h3,h4⟩:=h k (by omega)
   rw[A4X (by omega),h1]
   have hlen:(Y4 p s fr v0 (o.take k)).length=p.2.2.1.length:=by rw[B7S];exact hl
   generalize Y4 p s fr v0 (o.take k)=V at *
   have gd:∀x,x∈o.take k→(o5 p s fr V i).getD x.toNat 0=V.getD x.toNat 0:=fun x hx=>by
    obtain⟨i',rfl,h5⟩:=h.at (A2e hx)
    unfold o5;simp only[Int.toNat_natCast];rw[A1U (by omega),if_neg (by rintro rfl;exact h3 hx)]
   intro x hx
   rw[G7 (d:=0) (by omega),List.mem_append,List.mem_singleton,h1] at hx
   rcases hx with hx|rfl
   · rw[gd x hx,ih x hx];obtain⟨i',rfl,h5⟩:=h.at (A2e hx)
     simp only[Int.toNat_natCast];exact A9B fun f hf=>(gd f (h.waits hx f hf)).symm
   · have e:(o5 p s fr V i).getD i 0=B3E p s fr V i:=by
      unfold o5;simp only[Int.toNat_natCast];rw[A1U (by omega),if_pos rfl]
     simp only[Int.toNat_natCast];rw[e];exact A9B fun f hf=>(gd f (h4 f hf)).symm
theorem C1g {p:A6} {s:List (List Int)} {fr v0:List Int} {o:List Int} (h:GoodO p.2.2.1 o) (hl:v0.length=p.2.2.1.length):Sol p s fr (Y4 p s fr v0 o) o:=by
 have:=B9S (s:=s) (fr:=fr) h hl o.length (Nat.le_refl _)
 rwa [List.take_length] at this
theorem B8T {p:A6} {s:List (List Int)} {fr v:List Int}:(A3i p s fr v).length=p.2.2.1.length:=by simp[A3i]
theorem A80 {p:A6} {s:List (List Int)} {fr v:List Int} {i:Nat} (hi:i < p.2.2.1.length):(A3i p s fr v).getD i []=A6t p s fr v (v.getD i 0) i:=by simp[A3i,List.getD,hi]
theorem A9 {p:A6} (h:C7 p=true):C5 p=true∧(O4 p.2.2.1).length=p.2.2.1.length:=by
 simp only[C7,Bool.and_eq_true,decide_eq_true_eq] at h;exact h
theorem B4F {p:A6} {s:List (List Int)} {fr v0:List Int} (h:C5 p=true) (hs:A3g p s) (hf:S8 fr=true) (hv:A1x p v0):∀k,k≤(O4 p.2.2.1).length→A1x p (Y4 p s fr v0 ((O4 p.2.2.1).take k)):=by
 intro k
 induction k with
 | zero=>intro _;exact hv
 | succ k ih =>
   intro hk;rw[A4X (by omega)]
   obtain⟨i,h1,h2,_⟩:=A1q p.2.2.1 k (by omega)
   rw[h1];exact B5H h hs hf (ih (by omega)) (by simpa using h2)
theorem U9 (p:A6):A1x p (List.replicate p.2.2.1.length 0):=⟨by simp,V7.2 fun x hx=>by rw[(List.mem_replicate.1 hx).2];rfl⟩
theorem B0E {p:A6} {s:List (List Int)} {fr:List Int} (h:C5 p=true) (hs:A3g p s) (hf:S8 fr=true):A1x p (U8 p s fr):=by
 have:=B4F h hs hf (U9 p) _ (Nat.le_refl _)
 rwa [List.take_length] at this
theorem B99 {p:A6} {s:List (List Int)} {fr v:List Int} (h:C5 p=true) (hs:A3g p s) (hf:S8 fr=true) (hv:A1x p v):A3g p (A3i p s fr v):=by
 refine⟨B8T,fun i hi=>?_⟩
 rw[A80 hi];exact C1B (A7T h hs hf hv.2 hi) (b7 hv.2 i)
def A3h (n:A4) (tabs:List (List Int)) (i s:List Int):Prop:=(∃tb:Int,N5 n tb=true∧(n.1=13→tb=tabs.length∧y2 tabs=true))∧i.length=B7o n∧s.length=(O2 n).length∧S8 i=true∧S8 s=true
theorem stepOk.c {n:A4} {tabs:List (List Int)} {i s:List Int} (h:stepOk n tabs i s):A3h n tabs i s:=⟨⟨_,h.1,fun _=>⟨rfl,h.2.1⟩⟩,h.2.2.1,h.2.2.2.1,h.2.2.2.2.1,h.2.2.2.2.2⟩
theorem stepOk.c6 {n:A4} {tabs ts:List (List Int)} {i s:List Int} (h:stepOk n tabs i s) (h6:n.1=6):A3h n ts i s:=⟨⟨_,h.1,fun e=>by omega⟩,h.2.2.1,h.2.2.2.1,h.2.2.2.2.1,h.2.2.2.2.2⟩
theorem A6s {kd a b:Int} {fr:List Int} {tabs:List (List Int)} {i s:List Int} (h:A3h (kd,a,b,fr) tabs i s) :
 1≤kd∧kd≤17∧(kd=3∨kd=4∨kd=9∨kd=16→i.length=2)∧(kd=1∨kd=5∨kd=6∨kd=7∨kd=8∨kd=10∨kd=11∨kd=12∨kd=13∨kd=17→i.length=1)∧(kd=15→i.length=3) ∧
 (kd=6→s.length=a.toNat∧1≤a∧a≤16)∧(kd=17→s.length=b.toNat∧1≤b∧b≤16)∧(kd=7∨kd=8∨kd=16∨kd=12∨kd=14→s.length=1)∧(kd=10→0≤a∧a≤31)∧(kd=11→0≤a) ∧
 (kd=13→0≤a∧a≤3∧a < tabs.length∧1≤(tabs.getD a.toNat []).length∧(tabs.getD a.toNat []).length≤16)∧-2147483648≤a∧a≤2147483647:=by
 obtain⟨⟨tb,h1,h2⟩,h3,h4,h5,h6⟩:=h
 obtain⟨q1,q2,q3,q4,q5,q6,q7,q8,q9,q10,q11⟩:=f0 h1
 obtain⟨r1,r2,_⟩:=a5 h1
 rw[A4L] at h4;simp only at h2 h4 r1 r2
 have hi:i.length=if kd=1 then 1 else fr.length:=by
  rw[h3];unfold B7o;simp only
  by_cases hk:kd=1
  · rw[decide_eq_true hk,if_pos hk]
  · rw[decide_eq_false hk,if_neg hk]
 rw[n7] at q1;refine⟨r1,r2,fun e=>?_,fun e=>?_,fun e=>?_,fun e=>?_,fun e=>?_,fun e=>?_,q4,q5,fun e=>?_,q1.1,q1.2⟩
 · rw[hi,if_neg (by omega)];exact q8 e
 · rw[hi];split;· rfl
   · exact q9 (by omega)
 · rw[hi,if_neg (by omega)];exact q10 e
 · rw[if_pos e] at h4;exact⟨h4,q3 e⟩
 · rw[if_neg (by omega),if_pos e] at h4;exact⟨h4,q7 e⟩
 · rw[if_neg (by omega),if_neg (by omega),if_pos (by omega)] at h4;exact h4
 · obtain⟨e1,e2⟩:=h2 e
   obtain⟨a1,a2,a3⟩:=q6 e
   have hlt:a.toNat < tabs.length:=by omega
   have:=((a7 e2).2 _ (B9 (d:=[]) hlt)).1
   exact⟨a1,a2,by omega,by omega,by omega⟩
theorem A3Z {kd a b:Int} {fr:List Int} {tabs:List (List Int)} {i s:List Int} (h:A3h (kd,a,b,fr) tabs i s) (j:Nat):(-2147483648≤i.getD j 0∧i.getD j 0≤2147483647)∧-2147483648≤s.getD j 0∧s.getD j 0≤2147483647 :=
 ⟨n7.1 (b7 h.2.2.2.1 j),n7.1 (b7 h.2.2.2.2 j)⟩
def B6s (n:A4):Prop:=∃tb:Int,N5 n tb=true
theorem B3t {kd a b:Int} {fr:List Int} (h:B6s (kd,a,b,fr)):1≤kd∧kd≤17∧(kd=6→1≤a∧a≤16)∧(kd=17→1≤b∧b≤16):=by
 obtain⟨tb,h⟩:=h;obtain⟨q1,q2,q3,q4,q5,q6,q7,_⟩:=f0 h
 obtain⟨r1,r2,_⟩:=a5 h
 exact⟨r1,r2,q3,q7⟩
theorem A52 (n:Int):wrap32 (IntKind.i64.wrap n)=wrap32 n:=by
 rw[show IntKind.i64.wrap n=wrap64 n by simp[IntKind.wrap,wrap64,IntKind.bits,IntKind.signed]<;>omega,B8X]
theorem B58 (n:Int):0≤uns n∧uns n≤4294967295:=by unfold uns;omega
theorem C5X (n:Int):IntKind.i64.wrap ((BitVec.ofInt IntKind.i64.bits n &&& BitVec.ofInt IntKind.i64.bits 4294967295).toNat:Int)=uns n:=C36 n
theorem O3 {kd:Int} {i s:List Int} {o:Int} (h1:kd≠6) (h2:kd≠7) (h3:kd≠8) (h4:kd≠12) (h5:kd≠14) (h6:kd≠16) (h7:kd≠17):A6y kd i s o=[]:=by
 unfold A6y;rw[if_neg h1,if_neg h2,if_neg h3,if_neg h4,if_neg h5,if_neg h6,if_neg h7]
theorem H8 {kd a b:Int} {fr:List Int} (h1:kd≠6) (h2:kd≠7) (h3:kd≠8) (h4:kd≠12) (h5:kd≠14) (h6:kd≠16) (h7:kd≠17):O2 (kd,a,b,fr)=[]:=by
 unfold O2;simp[h1,h2,h3,h4,h5,h6,h7]
theorem C42 (n:Int):n.fdiv (2 ^ (min (Int.toNat 32) IntKind.i64.bits))=n / 4294967296:=by
 rw[show (2:Int) ^ (min (Int.toNat 32) IntKind.i64.bits)=4294967296 from rfl,Int.fdiv_eq_ediv_of_nonneg _ (by omega)]
theorem C2L (n:Int):n.fdiv (2 ^ (min 32 64))=n / 4294967296:=C42 n
theorem C1K {t:List Int} {x:Int} (h:1≤t.length) (h2:t.length≤16):0≤(t.length:Int) * uns x∧(t.length:Int) * uns x≤68719476720∧0≤((t.length:Int) * uns x) / 4294967296∧((t.length:Int) * uns x) / 4294967296 < t.length:=by
 obtain⟨a1,a2⟩:=B58 x
 generalize uns x=u at *
 have b1:=Int.mul_nonneg (show (0:Int)≤t.length by omega) a1
 have b2:(t.length:Int) * u≤t.length * 4294967295:=Int.mul_le_mul_of_nonneg_left a2 (by omega)
 refine⟨b1,by omega,Int.ediv_nonneg b1 (by omega),?_⟩
 exact Int.ediv_lt_of_lt_mul (by omega) (by omega)
theorem C5M (n:Int):IntKind.i64.wrap ((BitVec.ofInt IntKind.i64.bits n &&& BitVec.ofInt IntKind.i64.bits 1).toNat:Int)=n % 2:=by
 have e:BitVec.ofInt IntKind.i64.bits 1=BitVec.ofNat 64 (2 ^ 1 - 1):=rfl
 have h:((BitVec.ofInt 64 n &&& BitVec.ofNat 64 (2 ^ 1 - 1)).toNat:Int)=n % 2:=by
  rw[BitVec.toNat_and,BitVec.toNat_ofNat,show (2 ^ 1 - 1) % 2 ^ 64=2 ^ 1 - 1 from rfl,Nat.and_two_pow_sub_one_eq_mod,BitVec.toNat_ofInt]
  omega
 rw[show ((BitVec.ofInt IntKind.i64.bits n &&& BitVec.ofInt IntKind.i64.bits 1).toNat:Int)=n % 2 from h]
 exact G9 (by omega)
theorem C15 {s:Int} (h:s % 2=1):A11 s=wrap32 (C22 (uns s / 2)):=by unfold A11;rw[decide_eq_true h]
theorem C1A {s:Int} (h:¬s % 2=1):A11 s=wrap32 (uns s / 2):=by unfold A11;rw[decide_eq_false h]
theorem A6B {α β:Type} {f:α→β} {xs:List α} {k:Nat} (d:α) (h:k < xs.length):(xs.take k).map f++[f (xs.getD k d)]=(xs.take (k+1)).map f:=by
 rw[G7 (d:=d) h,List.map_append,List.map_cons,List.map_nil]
theorem C2q {n:Int} (h:0≤n∧n≤9223372036854775807):IntKind.u64.wrap n=n:=by
 simp[IntKind.wrap,IntKind.bits,IntKind.signed];omega
theorem A1p {a:Int} {tb:List (List Int)} {i s:List Int} (h:0≤i.getD 0 0):A2f 15 a tb i s=i.getD 1 0:=by
 show (match decide (0≤i.getD 0 0) with|true=>i.getD 1 0|false=>i.getD 2 0)=_
 rw[decide_eq_true h]
theorem A1i {a:Int} {tb:List (List Int)} {i s:List Int} (h:¬0≤i.getD 0 0):A2f 15 a tb i s=i.getD 2 0:=by
 show (match decide (0≤i.getD 0 0) with|true=>i.getD 1 0|false=>i.getD 2 0)=_
 rw[decide_eq_false h]
theorem A1Z {a:Int} {tb:List (List Int)} {i s:List Int} (h:0 < i.getD 1 0):A2f 16 a tb i s=i.getD 0 0:=by
 show (match decide (0 < i.getD 1 0) with|true=>i.getD 0 0|false=>s.getD 0 0)=_
 rw[decide_eq_true h]
theorem A1O {a:Int} {tb:List (List Int)} {i s:List Int} (h:¬0 < i.getD 1 0):A2f 16 a tb i s=s.getD 0 0:=by
 show (match decide (0 < i.getD 1 0) with|true=>i.getD 0 0|false=>s.getD 0 0)=_
 rw[decide_eq_false h]
theorem C0q (n:Int):IntKind.i64.wrap ((@BitVec.toNat 64 (@HAnd.hAnd (BitVec 64) (BitVec 64) (BitVec 64) (@instHAndOfAndOp (BitVec IntKind.i64.bits) (@BitVec.instAndOp IntKind.i64.bits)) (BitVec.ofInt 64 n) (BitVec.ofInt 64 4294967295)):Nat):Int)=uns n:=C5X n
theorem C4D (n:Int):IntKind.i64.wrap ((@BitVec.toNat 64 (@HAnd.hAnd (BitVec 64) (BitVec 64) (BitVec 64) (@instHAndOfAndOp (BitVec IntKind.i64.bits) (@BitVec.instAndOp IntKind.i64.bits)) (BitVec.ofInt 64 n) (BitVec.ofInt 64 1)):Nat):Int)=n % 2:=C5M n
theorem C4m (n:Int):IntKind.i64.wrap ((@BitVec.toNat 64 (@HXor.hXor (BitVec 64) (BitVec 64) (BitVec 64) (@instHXorOfXorOp (BitVec IntKind.i64.bits) (@BitVec.instXorOp IntKind.i64.bits)) (BitVec.ofInt 64 n) (BitVec.ofInt 64 2734686208)):Nat):Int)=C22 n:=rfl
theorem C0u (n:Int):n.fdiv (2 ^ (min 1 64))=n / 2:=by
 rw[show (2:Int) ^ (min 1 64)=2 from rfl,Int.fdiv_eq_ediv_of_nonneg _ (by omega)]
theorem C5f (x y:Int):wrap32 (IntKind.i64.wrap (wrap32 x+wrap32 y))=wrap32 (x+y):=by rw[A52,A4T]
theorem C5O (x y:Int):wrap32 (IntKind.i64.wrap (wrap32 x - wrap32 y))=wrap32 (x - y):=by rw[A52,B5F]
theorem C5Y (x y:Int):wrap32 (IntKind.i64.wrap (wrap32 x * wrap32 y))=wrap32 (x * y):=by rw[A52,B5U]
theorem wAM (x a s:Int):wrap32 (x+wrap32 (a * s))=wrap32 (x+a * s):=by
 rw[←A4T x (wrap32 (a * s)),B3l,A4T]
theorem A8y {a x:Int} (h:0≤a∧a≤2147483647):A0I (IntKind.i64.wrap (0 - a)) (A2c x a)=B6M a x:=by
 rw[G9 (by omega)];unfold B6M A0I A2c;rw[show (0:Int) - a=-a by omega]
theorem B2h {x:Int} (h:2147483647 < uns x):uns x - 4294967296=wrap32 x:=by unfold uns wrap32 at *;omega
theorem B2z {x:Int} (h:uns x≤2147483647):uns x=wrap32 x:=by unfold uns wrap32 at *;omega
theorem B2o {s:Int} (h:uns s % 2=1):A11 s=wrap32 (C22 (uns s / 2)):=C15 (by unfold uns at h;omega)
theorem B2y {s:Int} (h:¬uns s % 2=1):A11 s=wrap32 (uns s / 2):=C1A (by unfold uns at h;omega)
def C0d (n:A4) (frame vals:List Int):Prop:=(n.1=1→0≤n.2.1∧n.2.1 < frame.length)∧J4 vals.length n.2.2.2=true∧n.2.2.2.length≤1000
theorem B6H {p:A6} {fr v:List Int} (h:C5 p=true) (hf:(fr.length:Int)=p.1) (hv:v.length=p.2.2.1.length) {i:Nat} (hi:i < p.2.2.1.length):C0d (p.2.2.1.getD i n0) fr v:=by
 obtain⟨h1,h2,h3⟩:=G1 (A4e h hi)
 generalize p.2.2.1.getD i n0=n at *
 obtain⟨kd,a,b,ff⟩:=n;obtain⟨q1,q2,q3,q4,q5,q6,q7,q8,q9,q10,q11⟩:=f0 h1
 obtain⟨r1,r2,_⟩:=a5 h1
 simp only at h2 h3 r1 r2
 refine⟨fun e=>?_,by rw[hv];exact h2,?_⟩
 · have e:kd=1:=e
   have:=q2 e
   exact⟨this.1,by show a < _;omega⟩
 · show ff.length≤1000
   have c:kd=3∨kd=4∨kd=9∨kd=16∨(kd=5∨kd=6∨kd=7∨kd=8∨kd=10∨kd=11∨kd=12∨kd=13∨kd=17)∨kd=15∨kd=1∨kd=2∨kd=14:=by omega
   have:=@C2p kd
   have h5:=(a5 h1).2.2.2.2.1
   simp only at h5
   omega
theorem C0h {kd a b:Int} {ff fr v:List Int} (h:kd=1):j6 (kd,a,b,ff) fr v=[fr.getD a.toNat 0]:=by unfold j6;simp only[decide_eq_true h]
theorem B9B {kd a b:Int} {ff fr v:List Int} (h:¬kd=1):j6 (kd,a,b,ff) fr v=ff.map fun q=>v.getD q.toNat 0:=by unfold j6;simp only[decide_eq_false h]
theorem C3n {ns:List A4} (h:(O4 ns).length=ns.length):B4I ns=(O4 ns,true):=by unfold B4I;rw[decide_eq_true h]
open Go.RowKit
end Go.Proofs.YtflobmmbhaofbaaGreat
