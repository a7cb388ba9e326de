/-
  Texts of this claim, joined (part 16). No condition beyond those of the theorems.
-/
import Derived.Test.YtenjbehedcegdaaGreatQ11
namespace Go.Proofs.YtenjbehedcegdaaGreat
open Go.RowKit
set_option linter.unusedSimpArgs false
set_option linter.unusedVariables false
abbrev S4:=List Int × Int × Int
abbrev DM (α:Type):=S4→α × S4
def srcOk (n:Nat) (s:S4):Prop:=(∀b∈s.1,0≤b∧b≤255)∧0≤s.2.1∧s.2.1+n≤4611686018427387904
theorem srcOk.le {n m:Nat} {s:S4} (h:srcOk n s) (k:m≤n):srcOk m s:=⟨h.1,h.2.1,by have:=h.2.2;omega⟩
theorem F5 {n m:Nat} {s:S4} (h:srcOk n s:=by assumption) (k:m≤n:=by omega):srcOk m s:=h.le k
section
variable {α β:Type}
def bnd (m:DM α) (f:α→DM β):DM β:=fun s=>f (m s).1 (m s).2
theorem S9 {m:DM α} {f:α→DM β} {s s':S4} {x:α} (h:m s=(x,s')):bnd m f s=f x s':=by unfold bnd;rw[h]
def P3 (f:α→DM α):Nat→α→DM α
 | 0,x=>fun s=>(x,s)
 | k+1,x=>bnd (P3 f k x) f
theorem X0 {f:α→DM α} {k:Nat} {x y:α} {s s':S4} (h:P3 f k x s=(y,s')):P3 f (k+1) x s=f y s':=S9 h
def Cost (c:Nat) (m:DM α):Prop:=∀n s,srcOk (n+c) s→srcOk n (m s).2
theorem Cost.at {c:Nat} {m:DM α} (h:Cost c m) {n:Nat} {s s':S4} {x:α} (hs:srcOk n s) (hc:c≤n) (e:m s=(x,s')):srcOk (n - c) s':=by
 have:=h (n - c) s (by rw[Nat.sub_add_cancel hc];exact hs)
 rw[e] at this;exact this
theorem Cost.le {c d:Nat} {m:DM α} (h:Cost c m) (k:c≤d):Cost d m:=fun n s hs=>h n s (hs.le (by omega))
theorem Cost.pure (x:α):Cost 0 (fun s=>(x,s):DM α):=fun n s hs=>hs
theorem Cost.bnd {a b:Nat} {m:DM α} {f:α→DM β} (h:Cost a m) (k:∀x,Cost b (f x)):Cost (a+b) (bnd m f):=fun n s hs =>
 k _ n _ (h (n+b) s (hs.le (by omega)))
theorem Cost.it {c:Nat} {f:α→DM α} (h:∀x,Cost c (f x)) (k:Nat) (x:α):Cost (c * k) (P3 f k x):=by
 induction k with
 | zero=>exact Cost.pure x
 | succ k ih=>rw[Nat.mul_succ];exact ih.bnd h
end
def A1c (s:S4):Int:=match decide (s.2.1 < s.1.length) with
 | true=>IntKind.i64.wrap (s.1.getD s.2.1.toNat 0)
 | false=>0
def A15 (s:S4):Int:=IntKind.u64.wrap (IntKind.u64.wrap (IntKind.u64.wrap (s.2.2 * 6364136223846793005)+IntKind.u64.wrap (A1c s))+1442695040888963407)
def A7E (x:Int):Int:=IntKind.i64.wrap (IntKind.u64.wrap (BitVec.ofInt 64 (x.fdiv (2 ^ 40)) &&& BitVec.ofInt 64 255).toNat)
def L9:DM Int:=fun s=>(match decide (s.2.1+1≤s.1.length) with|true=>A1c s|false=>A7E (A15 s),s.1,s.2.1+1,A15 s)
theorem B4H {n:Nat} {s:S4} (h:srcOk n s):0≤A1c s∧A1c s≤255:=by
 unfold A1c
 split
 · rename_i hk
   have hk:=of_decide_eq_true hk
   have hm:s.1.getD s.2.1.toNat 0∈s.1:=C6 (by have:=h.2.1;omega)
   have:=h.1 _ hm
   rw[H4 (by omega)];exact this
 · omega
theorem B6m (x:Int):0≤A7E x∧A7E x≤255:=by
 unfold A7E
 have h:(BitVec.ofInt 64 (x.fdiv (2 ^ 40)) &&& BitVec.ofInt 64 255).toNat≤255:=by
  rw[BitVec.toNat_and];exact Nat.le_trans Nat.and_le_right (by decide)
 rw[B5v (by omega),H4 (by omega)];omega
theorem A4F {n:Nat} {s:S4} (h:srcOk n s):0≤(L9 s).1∧(L9 s).1≤255:=by
 unfold L9;simp only
 split
 · exact B4H h
 · exact B6m _
theorem Z5:Cost 1 L9:=fun n s hs=>⟨hs.1,by have:=hs.2.1;show 0≤s.2.1+1;omega,by have:=hs.2.2;show s.2.1+1+n≤_;omega⟩
def D8 (n:Int):DM Int:=fun s=>match decide (n≤1) with
 | true=>(0,s)
 | false => bnd L9 (fun x s => match decide (200 < n) with
   | true=>bnd L9 (fun y s=>((x * 256+y).tmod n,s)) s
   | false=>(x.tmod n,s)) s
theorem Cost.ite {α:Type} {c:Nat} {b:Bool} {m k:DM α} (h1:Cost c m) (h2:Cost c k):Cost c (fun s=>match b with|true=>m s|false=>k s):=by
 cases b
 · exact h2
 · exact h1
theorem E9 (n:Int):Cost 2 (D8 n):=by
 unfold D8;refine Cost.ite ((Cost.pure (0:Int)).le (by omega)) ?_
 exact Z5.bnd fun x=>Cost.ite (Z5.bnd fun y=>Cost.pure _) ((Cost.pure _).le (by omega))
theorem o5 {n:Nat} {s:S4} {m:Int} (h:srcOk (n+2) s):0≤(D8 m s).1∧(1≤m→(D8 m s).1 < m)∧(m≤1→(D8 m s).1=0):=by
 unfold D8
 split
 · rename_i hk;have:=of_decide_eq_true hk;exact⟨by simp,fun h=>by simp;omega,fun _=>rfl⟩
 · rename_i hk
   have hm:=of_decide_eq_false hk
   have hx:=A4F h
   have h1:srcOk (n+1) (L9 s).2:=Z5 _ _ h
   unfold bnd
   split
   · have hy:=A4F h1
     simp only
     have e:=Int.tmod_nonneg (a:=(L9 s).1 * 256+(L9 (L9 s).2).1) m (by omega)
     have e2:=Int.tmod_lt_of_pos ((L9 s).1 * 256+(L9 (L9 s).2).1) (show 0 < m by omega)
     exact⟨e,fun _=>e2,fun h=>by omega⟩
   · simp only
     have e:=Int.tmod_nonneg (a:=(L9 s).1) m (by omega)
     have e2:=Int.tmod_lt_of_pos (L9 s).1 (show 0 < m by omega)
     exact⟨e,fun _=>e2,fun h=>by omega⟩
theorem H3 {n:Nat} {s s':S4} {m x:Int} (h:srcOk n s) (hn:2≤n) (e:D8 m s=(x,s')):srcOk (n - 2) s'∧0≤x∧(1≤m→x < m)∧(m≤1→x=0):=by
 have h2:=o5 (n:=n - 2) (m:=m) (by rw[Nat.sub_add_cancel hn];exact h)
 rw[e] at h2;exact⟨(E9 m).at h hn e,h2⟩
def A0L (n:Int):DM Bool:=bnd (D8 n) fun x s=>(decide (x=0),s)
theorem o8 (n:Int):Cost 2 (A0L n):=(E9 n).bnd fun _=>Cost.pure _
def H5 (xs:List Int):DM Int:=bnd (D8 xs.length) fun k s=>(xs.getD k.toNat 0,s)
theorem I8 (xs:List Int):Cost 2 (H5 xs):=(E9 _).bnd fun _=>Cost.pure _
theorem J9 {n:Nat} {s s':S4} {xs:List Int} {x:Int} (h:srcOk n s) (hn:2≤n) (hl:0 < xs.length) (e:H5 xs s=(x,s')):srcOk (n - 2) s'∧x∈xs:=by
 refine⟨(I8 xs).at h hn e,?_⟩
 have h2:=o5 (n:=n - 2) (m:=xs.length) (by rw[Nat.sub_add_cancel hn];exact h)
 have h3:x=xs.getD (D8 xs.length s).1.toNat 0:=(congrArg Prod.fst e).symm
 rw[h3];have:=h2.2.1 (by omega)
 exact C6 (by omega)
theorem A3M {n:Nat} {s s':S4} {m:Int} {x:Bool} (h:srcOk n s) (hn:2≤n) (e:A0L m s=(x,s')):srcOk (n - 2) s':=(o8 m).at h hn e
theorem A3d {n:Nat} {s s':S4} {x:Int} (h:srcOk n s) (hn:1≤n) (e:L9 s=(x,s')):srcOk (n - 1) s'∧0≤x∧x≤255:=by
 have h2:=A4F h
 rw[e] at h2;exact⟨Z5.at h hn e,h2⟩
def A4f (n:Int):DM Int:=bnd L9 fun y s=>(IntKind.i64.wrap (IntKind.i64.wrap (256 * n)+y),s)
def W7:DM Int:=bnd (D8 8) fun x s=>match decide (x=0) with
 | true=>H5 [-2147483648,2147483647,-2147483647,65536,-65536,1073741824] s
 | false => match decide (x = 1) with
   | true=>bnd L9 (fun n s=>bnd (P3 A4f 3 n) (fun n s=>(wrap32 n,s)) s) s
   | false => match decide (x = 2) with
     | true=>(0,s)
     | false=>bnd (D8 41) (fun y s=>(y - 20,s)) s
theorem A5W (n:Int):Cost 1 (A4f n):=Z5.bnd fun _=>Cost.pure _
theorem V8:Cost 6 W7 :=
 (E9 8).bnd (b:=4) fun x=>Cost.ite ((I8 _).le (by omega)) (Cost.ite (Z5.bnd (b:=3) fun n=>(Cost.it A5W 3 n).bnd (b:=0) fun _=>Cost.pure _)
  (Cost.ite ((Cost.pure (0:Int)).le (by omega)) (((E9 41).bnd fun _=>Cost.pure _).le (by omega))))
def I2 (m:DM Int) (xs:List Int):DM (List Int):=bnd m fun x s=>(xs++[x],s)
theorem P0 {m:DM Int} {c:Nat} (h:Cost c m) (xs:List Int):Cost c (I2 m xs):=h.bnd fun _=>Cost.pure _
def A6l (most:Int):DM (List Int):=bnd (D8 (most+1)) fun k s=>P3 (I2 W7) k.toNat [] s
theorem a8 {m:DM Int} {k:Nat} {s:S4} {xs:List Int}:((P3 (I2 m) k xs s).1).length=xs.length+k:=by
 induction k with
 | zero=>rfl
 | succ k ih=>simp only[P3,bnd,I2,List.length_append,ih];rfl
theorem A26 {m:Int} (h0:0≤m) (hm:m≤20):Cost 122 (A6l m):=fun n s hs=>by
 have h1:=o5 (n:=n+120) (m:=m+1) (s:=s) (hs.le (by omega))
 have h2:srcOk (n+120) (D8 (m+1) s).2:=E9 _ _ _ (hs.le (by omega))
 have h3:=h1.2.1 (by omega)
 have h4:6 * (D8 (m+1) s).1.toNat≤120:=by omega
 exact Cost.it (P0 V8) _ _ _ _ (h2.le (by omega))
theorem A9l {n:Nat} {s s':S4} {m:Int} {xs:List Int} (hs:srcOk n s) (hn:2≤n) (h0:0≤m) (hm:m≤20) (e:A6l m s=(xs,s')):xs.length≤20:=by
 have h1:=o5 (n:=n - 2) (m:=m+1) (s:=s) (by rw[Nat.sub_add_cancel hn];exact hs)
 have h3:=h1.2.1 (by omega)
 have h5:xs=(P3 (I2 W7) (D8 (m+1) s).1.toNat [] (D8 (m+1) s).2).1:=(congrArg Prod.fst e).symm
 rw[h5,a8];simp only[List.length_nil];omega
def A76:DM (List Int):=bnd (A6l 12) fun t s=>bnd (D8 24) (fun x s=>match decide (x=0) with
 | true=>bnd (H5 [2147483648,-2147483649,-9223372036854775808]) (fun v s=>(t++[v],s)) s
 | false => match decide (x = 1) with
   | true=>bnd (D8 3) (fun y s=>(List.replicate (3999+y).toNat 0,s)) s
   | false=>(t,s)) s
theorem A7Q:Cost 130 A76 :=
 ((A26 (m:=12) (by omega) (by omega)).bnd (b:=4) fun t=>((E9 24).bnd (b:=2) fun x=>Cost.ite ((I8 _).bnd (b:=0) fun _=>Cost.pure _) (Cost.ite ((E9 3).bnd (b:=0) fun _=>Cost.pure _) ((Cost.pure t).le (by omega))))).le (by omega)
theorem A6B {α:Type} {m:Int} {b:Nat} {f:Int→DM α} (k:∀x,0≤x→(1≤m→x < m)→(m≤1→x=0)→Cost b (f x)):Cost (2+b) (bnd (D8 m) f):=fun n s hs=>by
 have h1:=o5 (n:=n+b) (m:=m) (s:=s) (hs.le (by omega))
 exact k _ h1.1 h1.2.1 h1.2.2 n _ (E9 m (n+b) s (hs.le (by omega)))
theorem A7l {α:Type} {xs:List Int} {b:Nat} {f:Int→DM α} (hl:0 < xs.length) (k:∀x,x∈xs→Cost b (f x)):Cost (2+b) (bnd (H5 xs) f):=fun n s hs=>by
 have h1:=J9 (n:=n+b+2) (s:=s) (x:=(H5 xs s).1) (s':=(H5 xs s).2) (hs.le (by omega)) (by omega) hl rfl
 exact k _ h1.2 n _ (h1.1.le (by omega))
def y3 (kd tb:Int):DM Int:=fun s=>match decide (kd=1) with
 | true=>D8 2 s
 | false => match decide (kd = 6) with
   | true=>bnd (D8 4) (fun x s=>(1+x,s)) s
   | false => match decide (kd = 10) with
     | true=>H5 [1,2,0,16,31] s
     | false => match decide (kd = 11) with
       | true=>H5 [10,0,100,2147483647] s
       | false => match decide (kd = 13) with
         | true=>D8 tb s
         | false => match B3K.contains kd with
           | true=>W7 s
           | false=>(0,s)
theorem A5Z (kd tb:Int):Cost 6 (y3 kd tb) :=
 Cost.ite ((E9 2).le (by omega)) (Cost.ite (((E9 4).bnd (b:=0) fun _=>Cost.pure _).le (by omega)) (Cost.ite ((I8 _).le (by omega)) (Cost.ite ((I8 _).le (by omega))
  (Cost.ite ((E9 tb).le (by omega)) (Cost.ite V8 ((Cost.pure (0:Int)).le (by omega)))))))
theorem A6c (k:Nat):-1≤arL.getD k 0∧arL.getD k 0≤3:=by
 by_cases h:k < 18
 · have key:∀k:_root_.Fin 18,-1≤arL.getD k.1 0∧arL.getD k.1 0≤3:=by decide
   exact key ⟨k,h⟩
 · rw[A5P (by simp[arL];omega)];omega
def j8 (kd tb bl:Int):DM B1:=bnd (y3 kd tb) fun a s=>bnd (P3 (I2 (D8 bl)) (arL.getD kd.toNat 0).toNat []) (fun fr s=>match decide (kd=17) with
 | true=>bnd (D8 3) (fun x s=>((kd,a,1+x,fr),s)) s
 | false=>((kd,a,0,fr),s)) s
theorem o9 (kd tb bl:Int):Cost 20 (j8 kd tb bl):=by
 have hk:=A6c kd.toNat
 have h1:Cost 6 (P3 (I2 (D8 bl)) (arL.getD kd.toNat 0).toNat []):=(Cost.it (P0 (E9 bl)) (arL.getD kd.toNat 0).toNat []).le (by omega)
 exact((A5Z kd tb).bnd (b:=8) fun a=>(h1.bnd (b:=2) fun fr=>Cost.ite ((E9 3).bnd (b:=0) fun _=>Cost.pure _) ((Cost.pure _).le (by omega)))).le (by omega)
theorem A3G {kd tb bl:Int} {s s':S4} {nd:B1} (e:j8 kd tb bl s=(nd,s')):nd.2.2.2.length=(arL.getD kd.toNat 0).toNat∧nd.1=kd:=by
 have e1:(j8 kd tb bl s).1=nd:=congrArg Prod.fst e
 rw[←e1];unfold j8 bnd;simp only
 split
 · exact⟨by simp only;rw[a8];simp,rfl⟩
 · exact⟨by simp only;rw[a8];simp,rfl⟩
def A2g (tb:Int):DM B1:=bnd (D8 17) fun x s=>bnd (j8 (1+x) tb 6) (fun nd s=>bnd (D8 16) (fun y s=>match decide (y=0) with
 | true=>bnd (H5 [0,18,-1]) (fun v s=>((v,nd.2.1,nd.2.2.1,nd.2.2.2),s)) s
 | false => match decide (y = 1) with
   | true=>bnd (H5 [2147483648,17,32,-1,4]) (fun v s=>((nd.1,v,nd.2.2.1,nd.2.2.2),s)) s
   | false => match decide (y = 2) with
     | true=>bnd (H5 [0,1,16,17]) (fun v s=>((nd.1,nd.2.1,v,nd.2.2.2),s)) s
     | false => match decide (y = 3) with
       | true=>bnd (H5 [0,23,24,-1]) (fun v s=>((nd.1,nd.2.1,nd.2.2.1,nd.2.2.2++[v]),s)) s
       | false=>(nd,s)) s) s
theorem A7j (tb:Int):Cost 26 (A2g tb) :=
 (E9 17).bnd (b:=24) fun x=>((o9 _ _ _).bnd (b:=4) fun nd=>(E9 16).bnd (b:=2) fun y=>Cost.ite ((I8 _).bnd (b:=0) fun _=>Cost.pure _) (Cost.ite ((I8 _).bnd (b:=0) fun _=>Cost.pure _)
  (Cost.ite ((I8 _).bnd (b:=0) fun _=>Cost.pure _) (Cost.ite ((I8 _).bnd (b:=0) fun _=>Cost.pure _) ((Cost.pure _).le (by omega))))))
def B9B:DM (List Int):=bnd (H5 [2,4,8,4]) fun m s=>P3 (I2 W7) m.toNat [] s
def A54 (ts:List (List Int)):DM (List (List Int)):=bnd B9B fun t s=>(ts++[t],s)
def A86:DM (List (List Int)):=bnd (D8 2) fun x s=>P3 A54 (1+x).toNat [] s
theorem B4i:Cost 50 B9B:=A7l (b:=48) (by simp) fun x hx=>(Cost.it (P0 V8) x.toNat []).le (by simp at hx;omega)
theorem A7M (ts:List (List Int)):Cost 50 (A54 ts):=B4i.bnd fun _=>Cost.pure _
theorem B3y:Cost 102 A86:=A6B (b:=100) fun x h0 h1 _=>(Cost.it A7M (1+x).toNat []).le (by have:=h1 (by omega);omega)
theorem B0z {k:Nat} {s:S4} {ts:List (List Int)}:((P3 A54 k ts s).1).length=ts.length+k:=by
 induction k with
 | zero=>rfl
 | succ k ih=>simp only[P3,bnd,A54,List.length_append,ih];rfl
def l3 (li:Bool):List Int:=match li with
 | true=>[1,3,4,5,6,7,8,17,1,5,6]
 | false=>[1,2,3,4,5,6,7,8,9,10,11,12,13,14,15,16,17,1,3,6]
end Go.Proofs.YtenjbehedcegdaaGreat
