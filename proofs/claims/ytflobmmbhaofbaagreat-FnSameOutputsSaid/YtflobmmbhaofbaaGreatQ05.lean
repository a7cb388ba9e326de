/-
  Texts of this claim, joined (part 5). No condition beyond those of the theorems.
-/
import Derived.Test.YtflobmmbhaofbaaGreatQ04
set_option linter.unusedSimpArgs false
set_option linter.unusedVariables false
namespace Go.Proofs.YtflobmmbhaofbaaGreat
open Go.RowKit
theorem B3Z {xs:List Int} {i:Nat} (h:xs.length≤i):xs.getD i 0=0:=by
 rw[List.getD_eq_getElem?_getD,List.getElem?_eq_none h];rfl
def H6 (ins:List (List Int)) (i:Int):List Int:=ins.map fun a=>a.getD i.toNat 0
def A0Z (outs:List (List Int)) (xs:List Int):List (List Int):=List.zipWith (fun l x=>l++[x]) outs xs
def E7 (p:A6) (ins:List (List Int)) (frm:Int):Nat→List (List Int) × List (List Int)→List (List Int) × List (List Int)
 | 0,st=>st
 | k + 1, st => (A3i p (E7 p ins frm k st).1 (H6 ins (frm + k)) (U8 p (E7 p ins frm k st).1 (H6 ins (frm + k))),
     A0Z (E7 p ins frm k st).2 (Y6 p (U8 p (E7 p ins frm k st).1 (H6 ins (frm+k)))))
def A6g (p:A6) (ins:List (List Int)):Bool:=decide ((ins.length:Int)=p.1) && ins.all A85
def d9 (p:A6) (ins:List (List Int)):Prop:=(ins.length:Int)=p.1∧∀a∈ins,a.length≤4000∧S8 a=true
theorem A94 {p:A6} {ins:List (List Int)}:A6g p ins=true↔d9 p ins:=by
 simp only[A6g,d9,Bool.and_eq_true,decide_eq_true_eq,List.all_eq_true,A85]
theorem A7s {p:A6} {ins:List (List Int)} (h:d9 p ins) (i:Int):((H6 ins i).length:Int)=p.1∧S8 (H6 ins i)=true:=by
 refine⟨by simp only[H6,List.length_map];exact h.1,V7.2 fun x hx=>?_⟩
 obtain⟨a,ha,rfl⟩:=List.mem_map.1 hx
 exact b7 (h.2 a ha).2 _
theorem A7q {outs:List (List Int)} {xs:List Int} (h:outs.length=xs.length):(A0Z outs xs).length=xs.length:=by simp[A0Z,h]
theorem Z9 (p:A6) (v:List Int):(Y6 p v).length=p.2.2.2.length:=by simp[Y6]
theorem A5R {p:A6} {ins:List (List Int)} {frm:Int} {s o:List (List Int)} (h:C5 p=true) (hs:A3g p s) (hi:d9 p ins) (ho:o.length=p.2.2.2.length):∀k,A3g p (E7 p ins frm k (s,o)).1∧(E7 p ins frm k (s,o)).2.length=p.2.2.2.length:=by
 intro k
 induction k with
 | zero=>exact⟨hs,ho⟩
 | succ k ih =>
   obtain⟨a1,a2⟩:=ih;obtain⟨_,f2⟩:=A7s hi (frm+k)
   exact⟨B99 h a1 f2 (B0E h a1 f2),by simp only[E7];rw[A7q (by rw[Z9];exact a2),Z9]⟩
theorem A61 {outs:List (List Int)} {xs:List Int} {i:Nat} (h:i < outs.length) (h2:i < xs.length):(A0Z outs xs).getD i []=outs.getD i []++[xs.getD i 0]:=by
 have e:(List.zipWith (fun (l:List Int) (x:Int)=>l++[x]) outs xs)[i]?=some (outs[i]++[xs[i]]):=by
  rw[List.getElem?_eq_getElem (by simp;omega),List.getElem_zipWith]
 have e1:outs.getD i []=outs[i]:=by simp[List.getD,h]
 have e2:xs.getD i 0=xs[i]:=by simp[List.getD,h2]
 rw[e1,e2,A0Z,List.getD_eq_getElem?_getD,e];rfl
theorem A6E {p:A6} {ins:List (List Int)} {frm:Int} {s o:List (List Int)} {m:Nat} (h:C5 p=true) (hs:A3g p s) (hi:d9 p ins) (ho:o.length=p.2.2.2.length) (hm:∀i,i < o.length→(o.getD i []).length=m) :
 ∀k i,i < p.2.2.2.length→((E7 p ins frm k (s,o)).2.getD i []).length=m+k:=by
 intro k
 induction k with
 | zero=>intro i hi';exact hm i (by omega)
 | succ k ih =>
   intro i hi'
   simp only[E7];have hb:=(A5R (frm:=frm) h hs hi ho k).2
   rw[A61 (by omega) (by rw[Z9];omega),List.length_append,ih i hi']
   simp;omega
def y1 {α:Type} (A B:List α) (m:Nat):List α:=A.take m++B.drop m
section
variable {α:Type} {A B:List α} {m:Nat}
theorem B7w (h:A.length=B.length) (hm:m≤A.length):(y1 A B m).length=A.length:=by
 simp only[y1,List.length_append,List.length_take,List.length_drop];omega
theorem B9t (d:α) (h:A.length=B.length) (hm:m < A.length):(y1 A B m).getD m d=B.getD m d:=by
 unfold y1;rw[List.getD_eq_getElem?_getD,List.getD_eq_getElem?_getD,List.getElem?_append_right (by rw[List.length_take];omega),List.getElem?_drop,List.length_take]
 congr 2;omega
theorem B8Y (d:α) (h:A.length=B.length) (hm:m < A.length):(y1 A B m).set m (A.getD m d)=y1 A B (m+1):=by
 unfold y1;rw[G7 (d:=d) hm,List.set_append_right _ _ (by rw[List.length_take];omega),List.length_take,(by omega:m - min m A.length=0),List.drop_eq_getElem_cons (show m < B.length by omega),List.set_cons_zero,List.append_assoc]
 rfl
theorem B4m:y1 A B 0=B:=by simp[y1]
theorem B7a (h:A.length=B.length) (hm:A.length≤m):y1 A B m=A:=by
 unfold y1;rw[List.take_of_length_le hm,List.drop_of_length_le (by omega),List.append_nil]
end
theorem B4v {ins:List (List Int)} {i:Int} {m:Nat} (h:m < ins.length):(H6 ins i).getD m 0=(ins.getD m []).getD i.toNat 0:=by simp[H6,List.getD,h]
def P7 (p:A6) (ins:List (List Int)) (n:Nat):List (List Int):=(E7 p ins 0 n (m8 p,List.replicate p.2.2.2.length [])).2
def y8 (p:A6) (ins:List (List Int)) (n:Int):List (List Int) × Int:=match C7 p with
 | false=>([],1)
 | true => match A6g p ins && O7 n 0 4000 with
   | false=>([],2)
   | true=>(P7 p ins n.toNat,0)
theorem A9v {p:A6} {ins:List (List Int)} {n:Int} (h:C7 p=false):y8 p ins n=([],1):=by unfold y8;rw[h]
theorem A9s {p:A6} {ins:List (List Int)} {n:Int} (h:C7 p=true) (k:(A6g p ins && O7 n 0 4000)=false):y8 p ins n=([],2):=by unfold y8;rw[h,k]
theorem A3N {p:A6} {ins:List (List Int)} {n:Int} (h:C7 p=true) (k:(A6g p ins && O7 n 0 4000)=true):y8 p ins n=(P7 p ins n.toNat,0):=by unfold y8;rw[h,k]
open Go.RowKit
theorem A30 {p:A6} {ins:List (List Int)} (hF:C5 p=true) (hi:d9 p ins) (n:Nat):(P7 p ins n).length=p.2.2.2.length:=(A5R (o:=List.replicate p.2.2.2.length []) hF (A1T hF) hi (by simp) n).2
abbrev T4:=List Int × Int × Int
abbrev DM (α:Type):=T4→α × T4
def srcOk (n:Nat) (s:T4):Prop:=(∀b∈s.1,0≤b∧b≤255)∧0≤s.2.1∧s.2.1+n≤4611686018427387904
theorem srcOk.le {n m:Nat} {s:T4} (h:srcOk n s) (k:m≤n):srcOk m s:=⟨h.1,h.2.1,by have:=h.2.2;omega⟩
theorem G4 {n m:Nat} {s:T4} (h:srcOk n s:=by assumption) (k:m≤n:=by omega):srcOk m s:=h.le k
section
variable {α β:Type}
def bnd (m:DM α) (f:α→DM β):DM β:=fun s=>f (m s).1 (m s).2
theorem M5 {m:DM α} {f:α→DM β} {s s':T4} {x:α} (h:m s=(x,s')):bnd m f s=f x s':=by unfold bnd;rw[h]
def X8 (f:α→DM α):Nat→α→DM α
 | 0,x=>fun s=>(x,s)
 | k+1,x=>bnd (X8 f k x) f
theorem A0V {f:α→DM α} {k:Nat} {x y:α} {s s':T4} (h:X8 f k x s=(y,s')):X8 f (k+1) x s=f y s':=M5 h
def Cost (c:Nat) (m:DM α):Prop:=∀n s,srcOk (n+c) s→srcOk n (m s).2
theorem Cost.at {c:Nat} {m:DM α} (h:Cost c m) {n:Nat} {s s':T4} {x:α} (hs:srcOk n s) (hc:c≤n) (e:m s=(x,s')):srcOk (n - c) s':=by
 have:=h (n - c) s (by rw[Nat.sub_add_cancel hc];exact hs)
 rw[e] at this;exact this
theorem Cost.le {c d:Nat} {m:DM α} (h:Cost c m) (k:c≤d):Cost d m:=fun n s hs=>h n s (hs.le (by omega))
theorem Cost.pure (x:α):Cost 0 (fun s=>(x,s):DM α):=fun n s hs=>hs
theorem Cost.bnd {a b:Nat} {m:DM α} {f:α→DM β} (h:Cost a m) (k:∀x,Cost b (f x)):Cost (a+b) (bnd m f):=fun n s hs =>
 k _ n _ (h (n+b) s (hs.le (by omega)))
theorem Cost.it {c:Nat} {f:α→DM α} (h:∀x,Cost c (f x)) (k:Nat) (x:α):Cost (c * k) (X8 f k x):=by
 induction k with
 | zero=>exact Cost.pure x
 | succ k ih=>rw[Nat.mul_succ];exact ih.bnd h
end
def A2Z (s:T4):Int:=match decide (s.2.1 < s.1.length) with
 | true=>IntKind.i64.wrap (s.1.getD s.2.1.toNat 0)
 | false=>0
def A2K (s:T4):Int:=IntKind.u64.wrap (IntKind.u64.wrap (IntKind.u64.wrap (s.2.2 * 6364136223846793005)+IntKind.u64.wrap (A2Z s))+1442695040888963407)
def A9b (x:Int):Int:=IntKind.i64.wrap (IntKind.u64.wrap (BitVec.ofInt 64 (x.fdiv (2 ^ 40)) &&& BitVec.ofInt 64 255).toNat)
def N7:DM Int:=fun s=>(match decide (s.2.1+1≤s.1.length) with|true=>A2Z s|false=>A9b (A2K s),s.1,s.2.1+1,A2K s)
theorem B7R {n:Nat} {s:T4} (h:srcOk n s):0≤A2Z s∧A2Z s≤255:=by
 unfold A2Z
 split
 · rename_i hk
   have hk:=of_decide_eq_true hk
   have hm:s.1.getD s.2.1.toNat 0∈s.1:=B9 (by have:=h.2.1;omega)
   have:=h.1 _ hm
   rw[G9 (by omega)];exact this
 · omega
theorem C0I (x:Int):0≤A9b x∧A9b x≤255:=by
 unfold A9b
 have h:(BitVec.ofInt 64 (x.fdiv (2 ^ 40)) &&& BitVec.ofInt 64 255).toNat≤255:=by
  rw[BitVec.toNat_and];exact Nat.le_trans Nat.and_le_right (by decide)
 rw[C2q (by omega),G9 (by omega)];omega
theorem A6h {n:Nat} {s:T4} (h:srcOk n s):0≤(N7 s).1∧(N7 s).1≤255:=by
 unfold N7;simp only
 split
 · exact B7R h
 · exact C0I _
theorem m7:Cost 1 N7:=fun n s hs=>⟨hs.1,by have:=hs.2.1;show 0≤s.2.1+1;omega,by have:=hs.2.2;show s.2.1+1+n≤_;omega⟩
def F6 (n:Int):DM Int:=fun s=>match decide (n≤1) with
 | true=>(0,s)
 | false => bnd N7 (fun x s => match decide (200 < n) with
   | true=>bnd N7 (fun y s=>((x * 256+y).tmod n,s)) s
   | false=>(x.tmod n,s)) s
theorem Cost.ite {α:Type} {c:Nat} {b:Bool} {m k:DM α} (h1:Cost c m) (h2:Cost c k):Cost c (fun s=>match b with|true=>m s|false=>k s):=by
 cases b
 · exact h2
 · exact h1
theorem H4 (n:Int):Cost 2 (F6 n):=by
 unfold F6;refine Cost.ite ((Cost.pure (0:Int)).le (by omega)) ?_
 exact m7.bnd fun x=>Cost.ite (m7.bnd fun y=>Cost.pure _) ((Cost.pure _).le (by omega))
theorem A3a {n:Nat} {s:T4} {m:Int} (h:srcOk (n+2) s):0≤(F6 m s).1∧(1≤m→(F6 m s).1 < m)∧(m≤1→(F6 m s).1=0):=by
 unfold F6
 split
 · rename_i hk;have:=of_decide_eq_true hk;exact⟨by simp,fun h=>by simp;omega,fun _=>rfl⟩
 · rename_i hk
   have hm:=of_decide_eq_false hk
   have hx:=A6h h
   have h1:srcOk (n+1) (N7 s).2:=m7 _ _ h
   unfold bnd
   split
   · have hy:=A6h h1
     simp only
     have e:=Int.tmod_nonneg (a:=(N7 s).1 * 256+(N7 (N7 s).2).1) m (by omega)
     have e2:=Int.tmod_lt_of_pos ((N7 s).1 * 256+(N7 (N7 s).2).1) (show 0 < m by omega)
     exact⟨e,fun _=>e2,fun h=>by omega⟩
   · simp only
     have e:=Int.tmod_nonneg (a:=(N7 s).1) m (by omega)
     have e2:=Int.tmod_lt_of_pos (N7 s).1 (show 0 < m by omega)
     exact⟨e,fun _=>e2,fun h=>by omega⟩
theorem L4 {n:Nat} {s s':T4} {m x:Int} (h:srcOk n s) (hn:2≤n) (e:F6 m s=(x,s')):srcOk (n - 2) s'∧0≤x∧(1≤m→x < m)∧(m≤1→x=0):=by
 have h2:=A3a (n:=n - 2) (m:=m) (by rw[Nat.sub_add_cancel hn];exact h)
 rw[e] at h2;exact⟨(H4 m).at h hn e,h2⟩
def U4 (n:Int):DM Bool:=bnd (F6 n) fun x s=>(decide (x=0),s)
theorem a6 (n:Int):Cost 2 (U4 n):=(H4 n).bnd fun _=>Cost.pure _
def I9 (xs:List Int):DM Int:=bnd (F6 xs.length) fun k s=>(xs.getD k.toNat 0,s)
theorem N4 (xs:List Int):Cost 2 (I9 xs):=(H4 _).bnd fun _=>Cost.pure _
theorem P1 {n:Nat} {s s':T4} {xs:List Int} {x:Int} (h:srcOk n s) (hn:2≤n) (hl:0 < xs.length) (e:I9 xs s=(x,s')):srcOk (n - 2) s'∧x∈xs:=by
 refine⟨(N4 xs).at h hn e,?_⟩
 have h2:=A3a (n:=n - 2) (m:=xs.length) (by rw[Nat.sub_add_cancel hn];exact h)
 have h3:x=xs.getD (F6 xs.length s).1.toNat 0:=(congrArg Prod.fst e).symm
 rw[h3];have:=h2.2.1 (by omega)
 exact B9 (by omega)
theorem n8 {n:Nat} {s s':T4} {m:Int} {x:Bool} (h:srcOk n s) (hn:2≤n) (e:U4 m s=(x,s')):srcOk (n - 2) s':=(a6 m).at h hn e
theorem A5C {n:Nat} {s s':T4} {x:Int} (h:srcOk n s) (hn:1≤n) (e:N7 s=(x,s')):srcOk (n - 1) s'∧0≤x∧x≤255:=by
 have h2:=A6h h
 rw[e] at h2;exact⟨m7.at h hn e,h2⟩
def A6p (n:Int):DM Int:=bnd N7 fun y s=>(IntKind.i64.wrap (IntKind.i64.wrap (256 * n)+y),s)
def A1h:DM Int:=bnd (F6 8) fun x s=>match decide (x=0) with
 | true=>I9 [-2147483648,2147483647,-2147483647,65536,-65536,1073741824] s
 | false => match decide (x = 1) with
   | true=>bnd N7 (fun n s=>bnd (X8 A6p 3 n) (fun n s=>(wrap32 n,s)) s) s
   | false => match decide (x = 2) with
     | true=>(0,s)
     | false=>bnd (F6 41) (fun y s=>(y - 20,s)) s
theorem A8Y (n:Int):Cost 1 (A6p n):=m7.bnd fun _=>Cost.pure _
theorem A1P:Cost 6 A1h :=
 (H4 8).bnd (b:=4) fun x=>Cost.ite ((N4 _).le (by omega)) (Cost.ite (m7.bnd (b:=3) fun n=>(Cost.it A8Y 3 n).bnd (b:=0) fun _=>Cost.pure _)
  (Cost.ite ((Cost.pure (0:Int)).le (by omega)) (((H4 41).bnd fun _=>Cost.pure _).le (by omega))))
def M6 (m:DM Int) (xs:List Int):DM (List Int):=bnd m fun x s=>(xs++[x],s)
theorem W4 {m:DM Int} {c:Nat} (h:Cost c m) (xs:List Int):Cost c (M6 m xs):=h.bnd fun _=>Cost.pure _
theorem A0x {m:DM Int} {k:Nat} {s:T4} {xs:List Int}:((X8 (M6 m) k xs s).1).length=xs.length+k:=by
 induction k with
 | zero=>rfl
 | succ k ih=>simp only[X8,bnd,M6,List.length_append,ih];rfl
theorem A7w {α:Type} {m:Int} {b:Nat} {f:Int→DM α} (k:∀x,0≤x→(1≤m→x < m)→(m≤1→x=0)→Cost b (f x)):Cost (2+b) (bnd (F6 m) f):=fun n s hs=>by
 have h1:=A3a (n:=n+b) (m:=m) (s:=s) (hs.le (by omega))
 exact k _ h1.1 h1.2.1 h1.2.2 n _ (H4 m (n+b) s (hs.le (by omega)))
theorem B0M {α:Type} {xs:List Int} {b:Nat} {f:Int→DM α} (hl:0 < xs.length) (k:∀x,x∈xs→Cost b (f x)):Cost (2+b) (bnd (I9 xs) f):=fun n s hs=>by
 have h1:=P1 (n:=n+b+2) (s:=s) (x:=(I9 xs s).1) (s':=(I9 xs s).2) (hs.le (by omega)) (by omega) hl rfl
 exact k _ h1.2 n _ (h1.1.le (by omega))
def A0n (kd tb:Int):DM Int:=fun s=>match decide (kd=1) with
 | true=>F6 2 s
 | false => match decide (kd = 6) with
   | true=>bnd (F6 4) (fun x s=>(1+x,s)) s
   | false => match decide (kd = 10) with
     | true=>I9 [1,2,0,16,31] s
     | false => match decide (kd = 11) with
       | true=>I9 [10,0,100,2147483647] s
       | false => match decide (kd = 13) with
         | true=>F6 tb s
         | false => match B6f.contains kd with
           | true=>A1h s
           | false=>(0,s)
theorem A8U (kd tb:Int):Cost 6 (A0n kd tb) :=
 Cost.ite ((H4 2).le (by omega)) (Cost.ite (((H4 4).bnd (b:=0) fun _=>Cost.pure _).le (by omega)) (Cost.ite ((N4 _).le (by omega)) (Cost.ite ((N4 _).le (by omega))
  (Cost.ite ((H4 tb).le (by omega)) (Cost.ite A1P ((Cost.pure (0:Int)).le (by omega)))))))
theorem A95 (k:Nat):-1≤arL.getD k 0∧arL.getD k 0≤3:=by
 by_cases h:k < 18
 · have key:∀k:_root_.Fin 18,-1≤arL.getD k.1 0∧arL.getD k.1 0≤3:=by decide
   exact key ⟨k,h⟩
 · rw[B3Z (by simp[arL];omega)];omega
def x8 (kd tb bl:Int):DM A4:=bnd (A0n kd tb) fun a s=>bnd (X8 (M6 (F6 bl)) (arL.getD kd.toNat 0).toNat []) (fun fr s=>match decide (kd=17) with
 | true=>bnd (F6 3) (fun x s=>((kd,a,1+x,fr),s)) s
 | false=>((kd,a,0,fr),s)) s
theorem A09 (kd tb bl:Int):Cost 20 (x8 kd tb bl):=by
 have hk:=A95 kd.toNat
 have h1:Cost 6 (X8 (M6 (F6 bl)) (arL.getD kd.toNat 0).toNat []):=(Cost.it (W4 (H4 bl)) (arL.getD kd.toNat 0).toNat []).le (by omega)
 exact((A8U kd tb).bnd (b:=8) fun a=>(h1.bnd (b:=2) fun fr=>Cost.ite ((H4 3).bnd (b:=0) fun _=>Cost.pure _) ((Cost.pure _).le (by omega)))).le (by omega)
theorem A4t {kd tb bl:Int} {s s':T4} {nd:A4} (e:x8 kd tb bl s=(nd,s')):nd.2.2.2.length=(arL.getD kd.toNat 0).toNat∧nd.1=kd:=by
 have e1:(x8 kd tb bl s).1=nd:=congrArg Prod.fst e
 rw[←e1];unfold x8 bnd;simp only
 split
 · exact⟨by simp only;rw[A0x];simp,rfl⟩
 · exact⟨by simp only;rw[A0x];simp,rfl⟩
def A4P (tb:Int):DM A4:=bnd (F6 17) fun x s=>bnd (x8 (1+x) tb 6) (fun nd s=>bnd (F6 16) (fun y s=>match decide (y=0) with
 | true=>bnd (I9 [0,18,-1]) (fun v s=>((v,nd.2.1,nd.2.2.1,nd.2.2.2),s)) s
 | false => match decide (y = 1) with
   | true=>bnd (I9 [2147483648,17,32,-1,4]) (fun v s=>((nd.1,v,nd.2.2.1,nd.2.2.2),s)) s
   | false => match decide (y = 2) with
     | true=>bnd (I9 [0,1,16,17]) (fun v s=>((nd.1,nd.2.1,v,nd.2.2.2),s)) s
     | false => match decide (y = 3) with
       | true=>bnd (I9 [0,23,24,-1]) (fun v s=>((nd.1,nd.2.1,nd.2.2.1,nd.2.2.2++[v]),s)) s
       | false=>(nd,s)) s) s
theorem B0P (tb:Int):Cost 26 (A4P tb) :=
 (H4 17).bnd (b:=24) fun x=>((A09 _ _ _).bnd (b:=4) fun nd=>(H4 16).bnd (b:=2) fun y=>Cost.ite ((N4 _).bnd (b:=0) fun _=>Cost.pure _) (Cost.ite ((N4 _).bnd (b:=0) fun _=>Cost.pure _)
  (Cost.ite ((N4 _).bnd (b:=0) fun _=>Cost.pure _) (Cost.ite ((N4 _).bnd (b:=0) fun _=>Cost.pure _) ((Cost.pure _).le (by omega))))))
def C3l:DM (List Int):=bnd (I9 [2,4,8,4]) fun m s=>X8 (M6 A1h) m.toNat [] s
def A7B (ts:List (List Int)):DM (List (List Int)):=bnd C3l fun t s=>(ts++[t],s)
def B12:DM (List (List Int)):=bnd (F6 2) fun x s=>X8 A7B (1+x).toNat [] s
theorem B7k:Cost 50 C3l:=B0M (b:=48) (by simp) fun x hx=>(Cost.it (W4 A1P) x.toNat []).le (by simp at hx;omega)
theorem A9q (ts:List (List Int)):Cost 50 (A7B ts):=B7k.bnd fun _=>Cost.pure _
theorem B7p:Cost 102 B12:=A7w (b:=100) fun x h0 h1 _=>(Cost.it A9q (1+x).toNat []).le (by have:=h1 (by omega);omega)
theorem B4K {k:Nat} {s:T4} {ts:List (List Int)}:((X8 A7B k ts s).1).length=ts.length+k:=by
 induction k with
 | zero=>rfl
 | succ k ih=>simp only[X8,bnd,A7B,List.length_append,ih];rfl
def x7 (li:Bool):List Int:=match li with
 | true=>[1,3,4,5,6,7,8,17,1,5,6]
 | false=>[1,2,3,4,5,6,7,8,9,10,11,12,13,14,15,16,17,1,3,6]
end Go.Proofs.YtflobmmbhaofbaaGreat
