/-
  Texts of this claim, joined (part 5). No condition beyond those of the theorems.
-/
import Derived.Test.YtgaogcnfijbahaaGreatQ04
set_option linter.unusedSimpArgs false
set_option linter.unusedVariables false
namespace Go.Proofs.YtgaogcnfijbahaaGreat
open Go.RowKit
theorem A8y {xs:List Int} {i:Nat} (h:xs.length≤i):xs.getD i 0=0:=by
 rw[List.getD_eq_getElem?_getD,List.getElem?_eq_none h];rfl
def C7 (ins:List (List Int)) (i:Int):List Int:=ins.map fun a=>a.getD i.toNat 0
def W3 (outs:List (List Int)) (xs:List Int):List (List Int):=List.zipWith (fun l x=>l++[x]) outs xs
def C2 (p:A3) (ins:List (List Int)) (frm:Int):Nat→List (List Int) × List (List Int)→List (List Int) × List (List Int)
 | 0,st=>st
 | k + 1, st => (S6 p (C2 p ins frm k st).1 (C7 ins (frm + k)) (E8 p (C2 p ins frm k st).1 (C7 ins (frm + k))),
     W3 (C2 p ins frm k st).2 (J4 p (E8 p (C2 p ins frm k st).1 (C7 ins (frm+k)))))
def A7d (p:A3) (ins:List (List Int)):Bool:=decide ((ins.length:Int)=p.1) && ins.all A36
def J9 (p:A3) (ins:List (List Int)):Prop:=(ins.length:Int)=p.1∧∀a∈ins,a.length≤4000∧D9 a=true
theorem B0m {p:A3} {ins:List (List Int)}:A7d p ins=true↔J9 p ins:=by
 simp only[A7d,J9,Bool.and_eq_true,decide_eq_true_eq,List.all_eq_true,A36]
theorem A1B {p:A3} {ins:List (List Int)} (h:J9 p ins) (i:Int):((C7 ins i).length:Int)=p.1∧D9 (C7 ins i)=true:=by
 refine⟨by simp only[C7,List.length_map];exact h.1,G4.2 fun x hx=>?_⟩
 obtain⟨a,ha,rfl⟩:=List.mem_map.1 hx
 exact Y8 (h.2 a ha).2 _
theorem A5X {outs:List (List Int)} {xs:List Int} (h:outs.length=xs.length):(W3 outs xs).length=xs.length:=by simp[W3,h]
theorem U8 (p:A3) (v:List Int):(J4 p v).length=p.2.2.2.length:=by simp[J4]
theorem A0y {p:A3} {ins:List (List Int)} {frm:Int} {s o:List (List Int)} (h:C0 p=true) (hs:U3 p s) (hi:J9 p ins) (ho:o.length=p.2.2.2.length):∀k,U3 p (C2 p ins frm k (s,o)).1∧(C2 p ins frm k (s,o)).2.length=p.2.2.2.length:=by
 intro k
 induction k with
 | zero=>exact⟨hs,ho⟩
 | succ k ih =>
   obtain⟨a1,a2⟩:=ih;obtain⟨_,f2⟩:=A1B hi (frm+k)
   exact⟨B08 h a1 f2 (a6 h a1 f2),by simp only[C2];rw[A5X (by rw[U8];exact a2),U8]⟩
theorem A4H {outs:List (List Int)} {xs:List Int} {i:Nat} (h:i < outs.length) (h2:i < xs.length):(W3 outs xs).getD i []=outs.getD i []++[xs.getD i 0]:=by
 have e:(List.zipWith (fun (l:List Int) (x:Int)=>l++[x]) outs xs)[i]?=some (outs[i]++[xs[i]]):=by
  rw[List.getElem?_eq_getElem (by simp;omega),List.getElem_zipWith]
 have e1:outs.getD i []=outs[i]:=by simp[List.getD,h]
 have e2:xs.getD i 0=xs[i]:=by simp[List.getD,h2]
 rw[e1,e2,W3,List.getD_eq_getElem?_getD,e];rfl
theorem A4S {p:A3} {ins:List (List Int)} {frm:Int} {s o:List (List Int)} {m:Nat} (h:C0 p=true) (hs:U3 p s) (hi:J9 p ins) (ho:o.length=p.2.2.2.length) (hm:∀i,i < o.length→(o.getD i []).length=m) :
 ∀k i,i < p.2.2.2.length→((C2 p ins frm k (s,o)).2.getD i []).length=m+k:=by
 intro k
 induction k with
 | zero=>intro i hi';exact hm i (by omega)
 | succ k ih =>
   intro i hi'
   simp only[C2];have hb:=(A0y (frm:=frm) h hs hi ho k).2
   rw[A4H (by omega) (by rw[U8];omega),List.length_append,ih i hi']
   simp;omega
def B5v (p:A3) (ins:List (List Int)) (frm:Int) (vals:List Int) (st:List (List Int) × List (List Int)):Nat→List Int
 | 0=>vals
 | k+1=>E8 p (C2 p ins frm k st).1 (C7 ins (frm+k))
def A6L (p:A3) (ins:List (List Int)) (frm:Int):Nat→List Int
 | 0=>List.replicate p.1.toNat 0
 | k+1=>C7 ins (frm+k)
theorem C3h {p:A3} {ins:List (List Int)} {frm:Int} {vals:List Int} {s o:List (List Int)} (h:C0 p=true) (hs:U3 p s) (hi:J9 p ins) (ho:o.length=p.2.2.2.length) (hv:R6 p vals) (k:Nat):R6 p (B5v p ins frm vals (s,o) k):=by
 cases k with
 | zero=>exact hv
 | succ k =>
   obtain⟨_,f2⟩:=A1B hi (frm+k)
   exact a6 h (A0y (frm:=frm) h hs hi ho k).1 f2
theorem C19 {p:A3} {ins:List (List Int)} {frm:Int} (hi:J9 p ins) (k:Nat):(A6L p ins frm k).length=ins.length:=by
 cases k with
 | zero=>have:=hi.1;simp only[A6L,List.length_replicate];omega
 | succ k=>simp[A6L,C7]
def V0 {α:Type} (A B:List α) (m:Nat):List α:=A.take m++B.drop m
section
variable {α:Type} {A B:List α} {m:Nat}
theorem A7N (h:A.length=B.length) (hm:m≤A.length):(V0 A B m).length=A.length:=by
 simp only[V0,List.length_append,List.length_take,List.length_drop];omega
theorem B5h (d:α) (h:A.length=B.length) (hm:m < A.length):(V0 A B m).getD m d=B.getD m d:=by
 unfold V0;rw[List.getD_eq_getElem?_getD,List.getD_eq_getElem?_getD,List.getElem?_append_right (by rw[List.length_take];omega),List.getElem?_drop,List.length_take]
 congr 2;omega
theorem A78 (d:α) (h:A.length=B.length) (hm:m < A.length):(V0 A B m).set m (A.getD m d)=V0 A B (m+1):=by
 unfold V0;rw[E7 (d:=d) hm,List.set_append_right _ _ (by rw[List.length_take];omega),List.length_take,(by omega:m - min m A.length=0),List.drop_eq_getElem_cons (show m < B.length by omega),List.set_cons_zero,List.append_assoc]
 rfl
theorem A54:V0 A B 0=B:=by simp[V0]
theorem A72 (h:A.length=B.length) (hm:A.length≤m):V0 A B m=A:=by
 unfold V0;rw[List.take_of_length_le hm,List.drop_of_length_le (by omega),List.append_nil]
end
theorem A2l {ins:List (List Int)} {i:Int} {m:Nat} (h:m < ins.length):(C7 ins i).getD m 0=(ins.getD m []).getD i.toNat 0:=by simp[C7,List.getD,h]
def H9 (p:A3) (ins:List (List Int)) (n:Nat):List (List Int):=(C2 p ins 0 n (W9 p,List.replicate p.2.2.2.length [])).2
def A0A (p:A3) (ins:List (List Int)) (n:Int):List (List Int) × Int:=match B9 p with
 | false=>([],1)
 | true => match A7d p ins && J3 n 0 4000 with
   | false=>([],2)
   | true=>(H9 p ins n.toNat,0)
theorem B1G {p:A3} {ins:List (List Int)} {n:Int} (h:B9 p=false):A0A p ins n=([],1):=by unfold A0A;rw[h]
theorem B1V {p:A3} {ins:List (List Int)} {n:Int} (h:B9 p=true) (k:(A7d p ins && J3 n 0 4000)=false):A0A p ins n=([],2):=by unfold A0A;rw[h,k]
theorem A4c {p:A3} {ins:List (List Int)} {n:Int} (h:B9 p=true) (k:(A7d p ins && J3 n 0 4000)=true):A0A p ins n=(H9 p ins n.toNat,0):=by unfold A0A;rw[h,k]
open Go.RowKit
def A6V (pi i:Int):List (List Int):=(List.replicate pi.toNat ([]:List Int)).set i.toNat [1]
theorem C1W {p:A3} {i:Int} (h:0≤p.1):J9 p (A6V p.1 i):=by
 refine⟨by unfold A6V;rw[List.length_set,List.length_replicate];omega,fun a ha=>?_⟩
 rcases List.mem_or_eq_of_mem_set ha with h1|h1
 · rw[(List.mem_replicate.1 h1).2];exact⟨by simp,rfl⟩
 · subst h1;exact⟨by simp,by decide⟩
theorem T1 {p:A3} {ins:List (List Int)} (hF:C0 p=true) (hi:J9 p ins) (n:Nat):(H9 p ins n).length=p.2.2.2.length:=(A0y (o:=List.replicate p.2.2.2.length []) hF (n8 hF) hi (by simp) n).2
def B4m (p:A3) (i o n:Int):List Int × Int:=match B9 p with
 | false=>([],1)
 | true => match J3 i 0 (p.1 - 1) && (J3 o 0 ((p.2.2.2.length : Int) - 1) && J3 n 0 4000) with
   | false=>([],2)
   | true=>((H9 p (A6V p.1 i) n.toNat).getD o.toNat [],0)
theorem C2E {p:A3} {i o n:Int} (h:B9 p=false):B4m p i o n=([],1):=by unfold B4m;rw[h]
theorem C3U {p:A3} {i o n:Int} (h:B9 p=true) (k:(J3 i 0 (p.1 - 1) && (J3 o 0 ((p.2.2.2.length:Int) - 1) && J3 n 0 4000))=false):B4m p i o n=([],2):=by unfold B4m;rw[h,k]
theorem B7M {p:A3} {i o n:Int} (h:B9 p=true) (k:(J3 i 0 (p.1 - 1) && (J3 o 0 ((p.2.2.2.length:Int) - 1) && J3 n 0 4000))=true):B4m p i o n=((H9 p (A6V p.1 i) n.toNat).getD o.toNat [],0):=by unfold B4m;rw[h,k]
abbrev W5:=List Int × Int × Int
abbrev DM (α:Type):=W5→α × W5
def srcOk (n:Nat) (s:W5):Prop:=(∀b∈s.1,0≤b∧b≤255)∧0≤s.2.1∧s.2.1+n≤4611686018427387904
theorem srcOk.le {n m:Nat} {s:W5} (h:srcOk n s) (k:m≤n):srcOk m s:=⟨h.1,h.2.1,by have:=h.2.2;omega⟩
theorem H2 {n m:Nat} {s:W5} (h:srcOk n s:=by assumption) (k:m≤n:=by omega):srcOk m s:=h.le k
section
variable {α β:Type}
def bnd (m:DM α) (f:α→DM β):DM β:=fun s=>f (m s).1 (m s).2
theorem L7 {m:DM α} {f:α→DM β} {s s':W5} {x:α} (h:m s=(x,s')):bnd m f s=f x s':=by unfold bnd;rw[h]
def R7 (f:α→DM α):Nat→α→DM α
 | 0,x=>fun s=>(x,s)
 | k+1,x=>bnd (R7 f k x) f
theorem X8 {f:α→DM α} {k:Nat} {x y:α} {s s':W5} (h:R7 f k x s=(y,s')):R7 f (k+1) x s=f y s':=L7 h
def Cost (c:Nat) (m:DM α):Prop:=∀n s,srcOk (n+c) s→srcOk n (m s).2
theorem Cost.at {c:Nat} {m:DM α} (h:Cost c m) {n:Nat} {s s':W5} {x:α} (hs:srcOk n s) (hc:c≤n) (e:m s=(x,s')):srcOk (n - c) s':=by
 have:=h (n - c) s (by rw[Nat.sub_add_cancel hc];exact hs)
 rw[e] at this;exact this
theorem Cost.le {c d:Nat} {m:DM α} (h:Cost c m) (k:c≤d):Cost d m:=fun n s hs=>h n s (hs.le (by omega))
theorem Cost.pure (x:α):Cost 0 (fun s=>(x,s):DM α):=fun n s hs=>hs
theorem Cost.bnd {a b:Nat} {m:DM α} {f:α→DM β} (h:Cost a m) (k:∀x,Cost b (f x)):Cost (a+b) (bnd m f):=fun n s hs =>
 k _ n _ (h (n+b) s (hs.le (by omega)))
theorem Cost.it {c:Nat} {f:α→DM α} (h:∀x,Cost c (f x)) (k:Nat) (x:α):Cost (c * k) (R7 f k x):=by
 induction k with
 | zero=>exact Cost.pure x
 | succ k ih=>rw[Nat.mul_succ];exact ih.bnd h
end
def A3u (s:W5):Int:=match decide (s.2.1 < s.1.length) with
 | true=>IntKind.i64.wrap (s.1.getD s.2.1.toNat 0)
 | false=>0
def A2y (s:W5):Int:=IntKind.u64.wrap (IntKind.u64.wrap (IntKind.u64.wrap (s.2.2 * 6364136223846793005)+IntKind.u64.wrap (A3u s))+1442695040888963407)
def B14 (x:Int):Int:=IntKind.i64.wrap (IntKind.u64.wrap (BitVec.ofInt 64 (x.fdiv (2 ^ 40)) &&& BitVec.ofInt 64 255).toNat)
def O2:DM Int:=fun s=>(match decide (s.2.1+1≤s.1.length) with|true=>A3u s|false=>B14 (A2y s),s.1,s.2.1+1,A2y s)
theorem C0M {n:Nat} {s:W5} (h:srcOk n s):0≤A3u s∧A3u s≤255:=by
 unfold A3u
 split
 · rename_i hk
   have hk:=of_decide_eq_true hk
   have hm:s.1.getD s.2.1.toNat 0∈s.1:=D6 (by have:=h.2.1;omega)
   have:=h.1 _ hm
   rw[F3 (by omega)];exact this
 · omega
theorem C29 (x:Int):0≤B14 x∧B14 x≤255:=by
 unfold B14
 have h:(BitVec.ofInt 64 (x.fdiv (2 ^ 40)) &&& BitVec.ofInt 64 255).toNat≤255:=by
  rw[BitVec.toNat_and];exact Nat.le_trans Nat.and_le_right (by decide)
 rw[C1Y (by omega),F3 (by omega)];omega
theorem A7f {n:Nat} {s:W5} (h:srcOk n s):0≤(O2 s).1∧(O2 s).1≤255:=by
 unfold O2;simp only
 split
 · exact C0M h
 · exact C29 _
theorem n4:Cost 1 O2:=fun n s hs=>⟨hs.1,by have:=hs.2.1;show 0≤s.2.1+1;omega,by have:=hs.2.2;show s.2.1+1+n≤_;omega⟩
def E5 (n:Int):DM Int:=fun s=>match decide (n≤1) with
 | true=>(0,s)
 | false => bnd O2 (fun x s => match decide (200 < n) with
   | true=>bnd O2 (fun y s=>((x * 256+y).tmod n,s)) s
   | false=>(x.tmod n,s)) s
theorem Cost.ite {α:Type} {c:Nat} {b:Bool} {m k:DM α} (h1:Cost c m) (h2:Cost c k):Cost c (fun s=>match b with|true=>m s|false=>k s):=by
 cases b
 · exact h2
 · exact h1
theorem H0 (n:Int):Cost 2 (E5 n):=by
 unfold E5;refine Cost.ite ((Cost.pure (0:Int)).le (by omega)) ?_
 exact n4.bnd fun x=>Cost.ite (n4.bnd fun y=>Cost.pure _) ((Cost.pure _).le (by omega))
theorem A4X {n:Nat} {s:W5} {m:Int} (h:srcOk (n+2) s):0≤(E5 m s).1∧(1≤m→(E5 m s).1 < m)∧(m≤1→(E5 m s).1=0):=by
 unfold E5
 split
 · rename_i hk;have:=of_decide_eq_true hk;exact⟨by simp,fun h=>by simp;omega,fun _=>rfl⟩
 · rename_i hk
   have hm:=of_decide_eq_false hk
   have hx:=A7f h
   have h1:srcOk (n+1) (O2 s).2:=n4 _ _ h
   unfold bnd
   split
   · have hy:=A7f h1
     simp only
     have e:=Int.tmod_nonneg (a:=(O2 s).1 * 256+(O2 (O2 s).2).1) m (by omega)
     have e2:=Int.tmod_lt_of_pos ((O2 s).1 * 256+(O2 (O2 s).2).1) (show 0 < m by omega)
     exact⟨e,fun _=>e2,fun h=>by omega⟩
   · simp only
     have e:=Int.tmod_nonneg (a:=(O2 s).1) m (by omega)
     have e2:=Int.tmod_lt_of_pos (O2 s).1 (show 0 < m by omega)
     exact⟨e,fun _=>e2,fun h=>by omega⟩
theorem I2 {n:Nat} {s s':W5} {m x:Int} (h:srcOk n s) (hn:2≤n) (e:E5 m s=(x,s')):srcOk (n - 2) s'∧0≤x∧(1≤m→x < m)∧(m≤1→x=0):=by
 have h2:=A4X (n:=n - 2) (m:=m) (by rw[Nat.sub_add_cancel hn];exact h)
 rw[e] at h2;exact⟨(H0 m).at h hn e,h2⟩
def A1H (n:Int):DM Bool:=bnd (E5 n) fun x s=>(decide (x=0),s)
theorem A0b (n:Int):Cost 2 (A1H n):=(H0 n).bnd fun _=>Cost.pure _
def J0 (xs:List Int):DM Int:=bnd (E5 xs.length) fun k s=>(xs.getD k.toNat 0,s)
theorem N4 (xs:List Int):Cost 2 (J0 xs):=(H0 _).bnd fun _=>Cost.pure _
theorem O0 {n:Nat} {s s':W5} {xs:List Int} {x:Int} (h:srcOk n s) (hn:2≤n) (hl:0 < xs.length) (e:J0 xs s=(x,s')):srcOk (n - 2) s'∧x∈xs:=by
 refine⟨(N4 xs).at h hn e,?_⟩
 have h2:=A4X (n:=n - 2) (m:=xs.length) (by rw[Nat.sub_add_cancel hn];exact h)
 have h3:x=xs.getD (E5 xs.length s).1.toNat 0:=(congrArg Prod.fst e).symm
 rw[h3];have:=h2.2.1 (by omega)
 exact D6 (by omega)
theorem A4V {n:Nat} {s s':W5} {m:Int} {x:Bool} (h:srcOk n s) (hn:2≤n) (e:A1H m s=(x,s')):srcOk (n - 2) s':=(A0b m).at h hn e
theorem A6g {n:Nat} {s s':W5} {x:Int} (h:srcOk n s) (hn:1≤n) (e:O2 s=(x,s')):srcOk (n - 1) s'∧0≤x∧x≤255:=by
 have h2:=A7f h
 rw[e] at h2;exact⟨n4.at h hn e,h2⟩
def A7u (n:Int):DM Int:=bnd O2 fun y s=>(IntKind.i64.wrap (IntKind.i64.wrap (256 * n)+y),s)
def Y9:DM Int:=bnd (E5 8) fun x s=>match decide (x=0) with
 | true=>J0 [-2147483648,2147483647,-2147483647,65536,-65536,1073741824] s
 | false => match decide (x = 1) with
   | true=>bnd O2 (fun n s=>bnd (R7 A7u 3 n) (fun n s=>(wrap32 n,s)) s) s
   | false => match decide (x = 2) with
     | true=>(0,s)
     | false=>bnd (E5 41) (fun y s=>(y - 20,s)) s
theorem A8n (n:Int):Cost 1 (A7u n):=n4.bnd fun _=>Cost.pure _
theorem Y3:Cost 6 Y9 :=
 (H0 8).bnd (b:=4) fun x=>Cost.ite ((N4 _).le (by omega)) (Cost.ite (n4.bnd (b:=3) fun n=>(Cost.it A8n 3 n).bnd (b:=0) fun _=>Cost.pure _)
  (Cost.ite ((Cost.pure (0:Int)).le (by omega)) (((H0 41).bnd fun _=>Cost.pure _).le (by omega))))
def I8 (m:DM Int) (xs:List Int):DM (List Int):=bnd m fun x s=>(xs++[x],s)
theorem Q5 {m:DM Int} {c:Nat} (h:Cost c m) (xs:List Int):Cost c (I8 m xs):=h.bnd fun _=>Cost.pure _
theorem A08 {m:DM Int} {k:Nat} {s:W5} {xs:List Int}:((R7 (I8 m) k xs s).1).length=xs.length+k:=by
 induction k with
 | zero=>rfl
 | succ k ih=>simp only[R7,bnd,I8,List.length_append,ih];rfl
theorem A3F {α:Type} {m:Int} {b:Nat} {f:Int→DM α} (k:∀x,0≤x→(1≤m→x < m)→(m≤1→x=0)→Cost b (f x)):Cost (2+b) (bnd (E5 m) f):=fun n s hs=>by
 have h1:=A4X (n:=n+b) (m:=m) (s:=s) (hs.le (by omega))
 exact k _ h1.1 h1.2.1 h1.2.2 n _ (H0 m (n+b) s (hs.le (by omega)))
theorem B1M {α:Type} {xs:List Int} {b:Nat} {f:Int→DM α} (hl:0 < xs.length) (k:∀x,x∈xs→Cost b (f x)):Cost (2+b) (bnd (J0 xs) f):=fun n s hs=>by
 have h1:=O0 (n:=n+b+2) (s:=s) (x:=(J0 xs s).1) (s':=(J0 xs s).2) (hs.le (by omega)) (by omega) hl rfl
 exact k _ h1.2 n _ (h1.1.le (by omega))
def A1M (kd tb:Int):DM Int:=fun s=>match decide (kd=1) with
 | true=>E5 2 s
 | false => match decide (kd = 6) with
   | true=>bnd (E5 4) (fun x s=>(1+x,s)) s
   | false => match decide (kd = 10) with
     | true=>J0 [1,2,0,16,31] s
     | false => match decide (kd = 11) with
       | true=>J0 [10,0,100,2147483647] s
       | false => match decide (kd = 13) with
         | true=>E5 tb s
         | false => match B8J.contains kd with
           | true=>Y9 s
           | false=>(0,s)
theorem B0E (kd tb:Int):Cost 6 (A1M kd tb) :=
 Cost.ite ((H0 2).le (by omega)) (Cost.ite (((H0 4).bnd (b:=0) fun _=>Cost.pure _).le (by omega)) (Cost.ite ((N4 _).le (by omega)) (Cost.ite ((N4 _).le (by omega))
  (Cost.ite ((H0 tb).le (by omega)) (Cost.ite Y3 ((Cost.pure (0:Int)).le (by omega)))))))
theorem A9N (k:Nat):-1≤arL.getD k 0∧arL.getD k 0≤3:=by
 by_cases h:k < 18
 · have key:∀k:_root_.Fin 18,-1≤arL.getD k.1 0∧arL.getD k.1 0≤3:=by decide
   exact key ⟨k,h⟩
 · rw[A8y (by simp[arL];omega)];omega
def z6 (kd tb bl:Int):DM A6:=bnd (A1M kd tb) fun a s=>bnd (R7 (I8 (E5 bl)) (arL.getD kd.toNat 0).toNat []) (fun fr s=>match decide (kd=17) with
 | true=>bnd (E5 3) (fun x s=>((kd,a,1+x,fr),s)) s
 | false=>((kd,a,0,fr),s)) s
theorem A0H (kd tb bl:Int):Cost 20 (z6 kd tb bl):=by
 have hk:=A9N kd.toNat
 have h1:Cost 6 (R7 (I8 (E5 bl)) (arL.getD kd.toNat 0).toNat []):=(Cost.it (Q5 (H0 bl)) (arL.getD kd.toNat 0).toNat []).le (by omega)
 exact((B0E kd tb).bnd (b:=8) fun a=>(h1.bnd (b:=2) fun fr=>Cost.ite ((H0 3).bnd (b:=0) fun _=>Cost.pure _) ((Cost.pure _).le (by omega)))).le (by omega)
theorem A5z {kd tb bl:Int} {s s':W5} {nd:A6} (e:z6 kd tb bl s=(nd,s')):nd.2.2.2.length=(arL.getD kd.toNat 0).toNat∧nd.1=kd:=by
 have e1:(z6 kd tb bl s).1=nd:=congrArg Prod.fst e
 rw[←e1];unfold z6 bnd;simp only
 split
 · exact⟨by simp only;rw[A08];simp,rfl⟩
 · exact⟨by simp only;rw[A08];simp,rfl⟩
def A5i (tb:Int):DM A6:=bnd (E5 17) fun x s=>bnd (z6 (1+x) tb 6) (fun nd s=>bnd (E5 16) (fun y s=>match decide (y=0) with
 | true=>bnd (J0 [0,18,-1]) (fun v s=>((v,nd.2.1,nd.2.2.1,nd.2.2.2),s)) s
 | false => match decide (y = 1) with
   | true=>bnd (J0 [2147483648,17,32,-1,4]) (fun v s=>((nd.1,v,nd.2.2.1,nd.2.2.2),s)) s
   | false => match decide (y = 2) with
     | true=>bnd (J0 [0,1,16,17]) (fun v s=>((nd.1,nd.2.1,v,nd.2.2.2),s)) s
     | false => match decide (y = 3) with
       | true=>bnd (J0 [0,23,24,-1]) (fun v s=>((nd.1,nd.2.1,nd.2.2.1,nd.2.2.2++[v]),s)) s
       | false=>(nd,s)) s) s
theorem B1d (tb:Int):Cost 26 (A5i tb) :=
 (H0 17).bnd (b:=24) fun x=>((A0H _ _ _).bnd (b:=4) fun nd=>(H0 16).bnd (b:=2) fun y=>Cost.ite ((N4 _).bnd (b:=0) fun _=>Cost.pure _) (Cost.ite ((N4 _).bnd (b:=0) fun _=>Cost.pure _)
  (Cost.ite ((N4 _).bnd (b:=0) fun _=>Cost.pure _) (Cost.ite ((N4 _).bnd (b:=0) fun _=>Cost.pure _) ((Cost.pure _).le (by omega))))))
def C7A:DM (List Int):=bnd (J0 [2,4,8,4]) fun m s=>R7 (I8 Y9) m.toNat [] s
def A8L (ts:List (List Int)):DM (List (List Int)):=bnd C7A fun t s=>(ts++[t],s)
def B3a:DM (List (List Int)):=bnd (E5 2) fun x s=>R7 A8L (1+x).toNat [] s
theorem C0o:Cost 50 C7A:=B1M (b:=48) (by simp) fun x hx=>(Cost.it (Q5 Y3) x.toNat []).le (by simp at hx;omega)
theorem B1c (ts:List (List Int)):Cost 50 (A8L ts):=C0o.bnd fun _=>Cost.pure _
theorem C0g:Cost 102 B3a:=A3F (b:=100) fun x h0 h1 _=>(Cost.it B1c (1+x).toNat []).le (by have:=h1 (by omega);omega)
theorem B5d {k:Nat} {s:W5} {ts:List (List Int)}:((R7 A8L k ts s).1).length=ts.length+k:=by
 induction k with
 | zero=>rfl
 | succ k ih=>simp only[R7,bnd,A8L,List.length_append,ih];rfl
def z0 (li:Bool):List Int:=match li with
 | true=>[1,3,4,5,6,7,8,17,1,5,6]
 | false=>[1,2,3,4,5,6,7,8,9,10,11,12,13,14,15,16,17,1,3,6]
end Go.Proofs.YtgaogcnfijbahaaGreat
