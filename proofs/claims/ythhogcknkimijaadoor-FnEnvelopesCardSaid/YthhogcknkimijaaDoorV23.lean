/-
  Texts of this claim, joined (part 23). No condition beyond those of the theorems.
-/
import Derived.Test.YthhogcknkimijaaDoorV22
namespace Go.Proofs.YthhogcknkimijaaDoor
open Go.RowKit
set_option linter.unusedSimpArgs false
set_option linter.unusedVariables false
abbrev SrcD:=List Int × Int × Int
abbrev DM (α:Type):=SrcD→α × SrcD
def srcOk (n:Nat) (s:SrcD):Prop:=(∀b∈s.1,0≤b∧b≤255)∧0≤s.2.1∧s.2.1+n≤4611686018427387904
theorem srcOk.le {n m:Nat} {s:SrcD} (h:srcOk n s) (k:m≤n):srcOk m s:=⟨h.1,h.2.1,by have:=h.2.2;omega⟩
theorem sLe {n m:Nat} {s:SrcD} (h:srcOk n s:=by assumption) (k:m≤n:=by omega):srcOk m s:=h.le k
section
variable {α β:Type}
def bnd (m:DM α) (f:α→DM β):DM β:=fun s=>f (m s).1 (m s).2
theorem bnd_of {m:DM α} {f:α→DM β} {s s':SrcD} {x:α} (h:m s=(x,s')):bnd m f s=f x s':=by unfold bnd;rw[h]
def itD (f:α→DM α):Nat→α→DM α
 | 0,x=>fun s=>(x,s)
 | k+1,x=>bnd (itD f k x) f
theorem itD_succ {f:α→DM α} {k:Nat} {x y:α} {s s':SrcD} (h:itD f k x s=(y,s')):itD f (k+1) x s=f y s':=bnd_of h
def Cost (c:Nat) (m:DM α):Prop:=∀n s,srcOk (n+c) s→srcOk n (m s).2
theorem Cost.at {c:Nat} {m:DM α} (h:Cost c m) {n:Nat} {s s':SrcD} {x:α} (hs:srcOk n s) (hc:c≤n) (e:m s=(x,s')):srcOk (n - c) s':=by
 have:=h (n - c) s (by rw[Nat.sub_add_cancel hc];exact hs)
 rw[e] at this;exact this
theorem Cost.le {c d:Nat} {m:DM α} (h:Cost c m) (k:c≤d):Cost d m:=fun n s hs=>h n s (hs.le (by omega))
theorem Cost.pure (x:α):Cost 0 (fun s=>(x,s):DM α):=fun n s hs=>hs
theorem Cost.bnd {a b:Nat} {m:DM α} {f:α→DM β} (h:Cost a m) (k:∀x,Cost b (f x)):Cost (a+b) (bnd m f):=fun n s hs =>
 k _ n _ (h (n+b) s (hs.le (by omega)))
theorem Cost.it {c:Nat} {f:α→DM α} (h:∀x,Cost c (f x)) (k:Nat) (x:α):Cost (c * k) (itD f k x):=by
 induction k with
 | zero=>exact Cost.pure x
 | succ k ih=>rw[Nat.mul_succ];exact ih.bnd h
end
def byteD (s:SrcD):Int:=match decide (s.2.1 < s.1.length) with
 | true=>IntKind.i64.wrap (s.1.getD s.2.1.toNat 0)
 | false=>0
def seedD (s:SrcD):Int:=IntKind.u64.wrap (IntKind.u64.wrap (IntKind.u64.wrap (s.2.2 * 6364136223846793005)+IntKind.u64.wrap (byteD s))+1442695040888963407)
def lowD (x:Int):Int:=IntKind.i64.wrap (IntKind.u64.wrap (BitVec.ofInt 64 (x.fdiv (2 ^ 40)) &&& BitVec.ofInt 64 255).toNat)
def nextD:DM Int:=fun s=>(match decide (s.2.1+1≤s.1.length) with|true=>byteD s|false=>lowD (seedD s),s.1,s.2.1+1,seedD s)
theorem byteD_rng {n:Nat} {s:SrcD} (h:srcOk n s):0≤byteD s∧byteD s≤255:=by
 unfold byteD
 split
 · rename_i hk
   have hk:=of_decide_eq_true hk
   have hm:s.1.getD s.2.1.toNat 0∈s.1:=getD_mem (by have:=h.2.1;omega)
   have:=h.1 _ hm
   rw[wrapI (by omega)];exact this
 · omega
theorem lowD_rng (x:Int):0≤lowD x∧lowD x≤255:=by
 unfold lowD
 have h:(BitVec.ofInt 64 (x.fdiv (2 ^ 40)) &&& BitVec.ofInt 64 255).toNat≤255:=by
  rw[BitVec.toNat_and]
  exact Nat.le_trans Nat.and_le_right (by decide)
 rw[wrapU (by omega),wrapI (by omega)];omega
theorem nextD_rng {n:Nat} {s:SrcD} (h:srcOk n s):0≤(nextD s).1∧(nextD s).1≤255:=by
 unfold nextD
 simp only
 split
 · exact byteD_rng h
 · exact lowD_rng _
theorem nextD_cost:Cost 1 nextD:=fun n s hs=>⟨hs.1,by have:=hs.2.1;show 0≤s.2.1+1;omega,by have:=hs.2.2;show s.2.1+1+n≤_;omega⟩
def pickD (n:Int):DM Int:=fun s=>match decide (n≤1) with
 | true=>(0,s)
 | false => bnd nextD (fun x s => match decide (200 < n) with
   | true=>bnd nextD (fun y s=>((x * 256+y).tmod n,s)) s
   | false=>(x.tmod n,s)) s
theorem Cost.ite {α:Type} {c:Nat} {b:Bool} {m k:DM α} (h1:Cost c m) (h2:Cost c k):Cost c (fun s=>match b with|true=>m s|false=>k s):=by
 cases b
 · exact h2
 · exact h1
theorem pickD_cost (n:Int):Cost 2 (pickD n):=by
 unfold pickD
 refine Cost.ite ((Cost.pure (0:Int)).le (by omega)) ?_
 exact nextD_cost.bnd fun x=>Cost.ite (nextD_cost.bnd fun y=>Cost.pure _) ((Cost.pure _).le (by omega))
theorem pickD_rng {n:Nat} {s:SrcD} {m:Int} (h:srcOk (n+2) s):0≤(pickD m s).1∧(1≤m→(pickD m s).1 < m)∧(m≤1→(pickD m s).1=0):=by
 unfold pickD
 split
 · rename_i hk;have:=of_decide_eq_true hk;exact⟨by simp,fun h=>by simp;omega,fun _=>rfl⟩
 · rename_i hk
   have hm:=of_decide_eq_false hk
   have hx:=nextD_rng h
   have h1:srcOk (n+1) (nextD s).2:=nextD_cost _ _ h
   unfold bnd
   split
   · have hy:=nextD_rng h1
     simp only
     have e:=Int.tmod_nonneg (a:=(nextD s).1 * 256+(nextD (nextD s).2).1) m (by omega)
     have e2:=Int.tmod_lt_of_pos ((nextD s).1 * 256+(nextD (nextD s).2).1) (show 0 < m by omega)
     exact⟨e,fun _=>e2,fun h=>by omega⟩
   · simp only
     have e:=Int.tmod_nonneg (a:=(nextD s).1) m (by omega)
     have e2:=Int.tmod_lt_of_pos (nextD s).1 (show 0 < m by omega)
     exact⟨e,fun _=>e2,fun h=>by omega⟩
theorem pickD_at {n:Nat} {s s':SrcD} {m x:Int} (h:srcOk n s) (hn:2≤n) (e:pickD m s=(x,s')):srcOk (n - 2) s'∧0≤x∧(1≤m→x < m)∧(m≤1→x=0):=by
 have h2:=pickD_rng (n:=n - 2) (m:=m) (by rw[Nat.sub_add_cancel hn];exact h)
 rw[e] at h2
 exact⟨(pickD_cost m).at h hn e,h2⟩
def amongD (xs:List Int):DM Int:=bnd (pickD xs.length) fun k s=>(xs.getD k.toNat 0,s)
theorem amongD_cost (xs:List Int):Cost 2 (amongD xs):=(pickD_cost _).bnd fun _=>Cost.pure _
theorem amongD_at {n:Nat} {s s':SrcD} {xs:List Int} {x:Int} (h:srcOk n s) (hn:2≤n) (hl:0 < xs.length) (e:amongD xs s=(x,s')):srcOk (n - 2) s'∧x∈xs:=by
 refine⟨(amongD_cost xs).at h hn e,?_⟩
 have h2:=pickD_rng (n:=n - 2) (m:=xs.length) (by rw[Nat.sub_add_cancel hn];exact h)
 have h3:x=xs.getD (pickD xs.length s).1.toNat 0:=(congrArg Prod.fst e).symm
 rw[h3]
 have:=h2.2.1 (by omega)
 exact getD_mem (by omega)
theorem nextD_at {n:Nat} {s s':SrcD} {x:Int} (h:srcOk n s) (hn:1≤n) (e:nextD s=(x,s')):srcOk (n - 1) s'∧0≤x∧x≤255:=by
 have h2:=nextD_rng h
 rw[e] at h2
 exact⟨nextD_cost.at h hn e,h2⟩
end Go.Proofs.YthhogcknkimijaaDoor
