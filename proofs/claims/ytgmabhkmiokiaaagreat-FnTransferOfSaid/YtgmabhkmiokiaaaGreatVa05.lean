/-
  Texts of this claim, joined (part 5). No condition beyond those of the theorems.
-/
import Derived.Test.YtgmabhkmiokiaaaGreatVa04
set_option linter.unusedSimpArgs false
set_option linter.unusedVariables false
namespace Go.Proofs.YtgmabhkmiokiaaaGreat
open Go.RowKit
theorem getD_out {xs:List Int} {i:Nat} (h:xs.length≤i):xs.getD i 0=0:=by
 rw [List.getD_eq_getElem?_getD,List.getElem?_eq_none h]; rfl
def frameAt (ins:List (List Int)) (i:Int):List Int:=ins.map fun a=>a.getD i.toNat 0
def addOut (outs:List (List Int)) (xs:List Int):List (List Int):=List.zipWith (fun l x=>l++[x]) outs xs
def blockSt (p:PatchD) (ins:List (List Int)) (frm:Int):Nat→List (List Int) × List (List Int)→List (List Int) × List (List Int)
 | 0,st=>st
 | k+1,st=>(nextL p (blockSt p ins frm k st).1 (frameAt ins (frm+k)) (valsL p (blockSt p ins frm k st).1 (frameAt ins (frm+k))),
     addOut (blockSt p ins frm k st).2 (outsL p (valsL p (blockSt p ins frm k st).1 (frameAt ins (frm+k)))))
def insOk (p:PatchD) (ins:List (List Int)):Prop:=(ins.length:Int)=p.1∧∀ a∈ins,a.length≤4000∧smps a=true
theorem frameAt_ok {p:PatchD} {ins:List (List Int)} (h:insOk p ins) (i:Int):((frameAt ins i).length:Int)=p.1∧smps (frameAt ins i)=true:=by
 refine ⟨by simp only[frameAt,List.length_map]; exact h.1,smps_iff.2 fun x hx=>?_⟩
 obtain ⟨a,ha,rfl⟩:=List.mem_map.1 hx
 exact smps_at (h.2 a ha).2 _
theorem addOut_len {outs:List (List Int)} {xs:List Int} (h:outs.length=xs.length):(addOut outs xs).length=xs.length:=by simp [addOut,h]
theorem outsL_len (p:PatchD) (v:List Int):(outsL p v).length=p.2.2.2.length:=by simp [outsL]
theorem block_ok {p:PatchD} {ins:List (List Int)} {frm:Int} {s o:List (List Int)} (h:formedB p=true) (hs:StOk p s) (hi:insOk p ins) (ho:o.length=p.2.2.2.length) :∀k,StOk p (blockSt p ins frm k (s,o)).1∧(blockSt p ins frm k (s,o)).2.length=p.2.2.2.length:=by
 intro k
 induction k with
 | zero=>exact ⟨hs,ho⟩
 | succ k ih =>
   obtain ⟨a1,a2⟩:=ih;obtain ⟨_,f2⟩:=frameAt_ok hi (frm+k)
   exact ⟨nextL_ok h a1 f2 (valsL_ok' h a1 f2),by simp only[blockSt]; rw [addOut_len (by rw [outsL_len]; exact a2),outsL_len]⟩
theorem addOut_at {outs:List (List Int)} {xs:List Int} {i:Nat} (h:i < outs.length) (h2:i < xs.length):(addOut outs xs).getD i []=outs.getD i []++[xs.getD i 0]:=by
 have e:(List.zipWith (fun (l:List Int) (x:Int)=>l++[x]) outs xs)[i]?=some (outs[i]++[xs[i]]):=by
  rw [List.getElem?_eq_getElem (by simp; omega),List.getElem_zipWith]
 have e1:outs.getD i []=outs[i]:=by simp [List.getD,h]
 have e2:xs.getD i 0=xs[i]:=by simp [List.getD,h2]
 rw [e1,e2,addOut,List.getD_eq_getElem?_getD,e]; rfl
theorem block_len {p:PatchD} {ins:List (List Int)} {frm:Int} {s o:List (List Int)} {m:Nat} (h:formedB p=true) (hs:StOk p s) (hi:insOk p ins) (ho:o.length=p.2.2.2.length) (hm :∀i,i < o.length→(o.getD i []).length=m) :
 ∀ k i,i < p.2.2.2.length→((blockSt p ins frm k (s,o)).2.getD i []).length=m+k:=by
 intro k
 induction k with
 | zero=>intro i hi'; exact hm i (by omega)
 | succ k ih =>
   intro i hi'
   simp only[blockSt];have hb:=(block_ok (frm:=frm) h hs hi ho k).2
   rw [addOut_at (by omega) (by rw [outsL_len]; omega),List.length_append,ih i hi']
   simp; omega
def lastV (p:PatchD) (ins:List (List Int)) (frm:Int) (vals:List Int) (st:List (List Int) × List (List Int)):Nat→List Int
 | 0=>vals
 | k+1=>valsL p (blockSt p ins frm k st).1 (frameAt ins (frm+k))
def lastF (p:PatchD) (ins:List (List Int)) (frm:Int):Nat→List Int
 | 0=>List.replicate p.1.toNat 0
 | k+1=>frameAt ins (frm+k)
theorem lastV_ok {p:PatchD} {ins:List (List Int)} {frm:Int} {vals:List Int} {s o:List (List Int)} (h:formedB p=true) (hs:StOk p s) (hi:insOk p ins) (ho:o.length=p.2.2.2.length) (hv:valsOk p vals) (k:Nat):valsOk p (lastV p ins frm vals (s,o) k):=by
 cases k with
 | zero=>exact hv
 | succ k =>
   obtain ⟨_,f2⟩:=frameAt_ok hi (frm+k)
   exact valsL_ok' h (block_ok (frm:=frm) h hs hi ho k).1 f2
theorem lastF_len {p:PatchD} {ins:List (List Int)} {frm:Int} (hi:insOk p ins) (k:Nat):(lastF p ins frm k).length=ins.length:=by
 cases k with
 | zero=>have:=hi.1; simp only[lastF,List.length_replicate]; omega
 | succ k=>simp [lastF,frameAt]
def blend {α:Type} (A B:List α) (m:Nat):List α:=A.take m++B.drop m
section
variable {α:Type} {A B:List α} {m:Nat}
theorem blend_len (h:A.length=B.length) (hm:m≤A.length):(blend A B m).length=A.length:=by
 simp only[blend,List.length_append,List.length_take,List.length_drop]; omega
theorem blend_at (d:α) (h:A.length=B.length) (hm:m < A.length):(blend A B m).getD m d=B.getD m d:=by
 unfold blend;rw [List.getD_eq_getElem?_getD,List.getD_eq_getElem?_getD,List.getElem?_append_right (by rw [List.length_take]; omega),List.getElem?_drop,List.length_take]
 congr 2; omega
theorem blend_set (d:α) (h:A.length=B.length) (hm:m < A.length):(blend A B m).set m (A.getD m d)=blend A B (m+1):=by
 unfold blend;rw [take_next (d:=d) hm,List.set_append_right _ _ (by rw [List.length_take]; omega),List.length_take,(by omega:m - min m A.length=0),List.drop_eq_getElem_cons (show m < B.length by omega),List.set_cons_zero,List.append_assoc]
 rfl
theorem blend_zero:blend A B 0=B:=by simp [blend]
theorem blend_all (h:A.length=B.length) (hm:A.length≤m):blend A B m=A:=by
 unfold blend; rw [List.take_of_length_le hm,List.drop_of_length_le (by omega),List.append_nil]
end
theorem frameAt_at {ins:List (List Int)} {i:Int} {m:Nat} (h:m < ins.length):(frameAt ins i).getD m 0=(ins.getD m []).getD i.toNat 0:=by simp [frameAt,List.getD,h]
def renderL (p:PatchD) (ins:List (List Int)) (n:Nat):List (List Int):=(blockSt p ins 0 n (startL p,List.replicate p.2.2.2.length [])).2
open Go.RowKit
def impIn (pi i:Int):List (List Int):=(List.replicate pi.toNat ([]:List Int)).set i.toNat [1]
theorem impIn_ok {p:PatchD} {i:Int} (h:0≤p.1):insOk p (impIn p.1 i):=by
 refine ⟨by unfold impIn; rw [List.length_set,List.length_replicate]; omega,fun a ha=>?_⟩
 rcases List.mem_or_eq_of_mem_set ha with h1 | h1
 · rw [(List.mem_replicate.1 h1).2]; exact ⟨by simp,rfl⟩
 · subst h1; exact ⟨by simp,by decide⟩
theorem renderL_len {p:PatchD} {ins:List (List Int)} (hF:formedB p=true) (hi:insOk p ins) (n:Nat):(renderL p ins n).length=p.2.2.2.length:=(block_ok (o:=List.replicate p.2.2.2.length []) hF (startL_ok hF) hi (by simp) n).2
def impR (p:PatchD) (i o n:Int):List Int × Int:=match patchB p with
 | false=>([],1)
 | true=>match inR i 0 (p.1 - 1) && (inR o 0 ((p.2.2.2.length:Int) - 1) && inR n 0 4000) with
   | false=>([],2)
   | true=>((renderL p (impIn p.1 i) n.toNat).getD o.toNat [],0)
theorem impR_1 {p:PatchD} {i o n:Int} (h:patchB p=false):impR p i o n=([],1):=by unfold impR; rw [h]
theorem impR_2 {p:PatchD} {i o n:Int} (h:patchB p=true) (k:(inR i 0 (p.1 - 1) && (inR o 0 ((p.2.2.2.length:Int) - 1) && inR n 0 4000))=false):impR p i o n=([],2):=by unfold impR; rw [h,k]
theorem impR_0 {p:PatchD} {i o n:Int} (h:patchB p=true) (k:(inR i 0 (p.1 - 1) && (inR o 0 ((p.2.2.2.length:Int) - 1) && inR n 0 4000))=true):impR p i o n=((renderL p (impIn p.1 i) n.toNat).getD o.toNat [],0):=by unfold impR; rw [h,k]
abbrev SrcD:=List Int × Int × Int
abbrev DM (α:Type):=SrcD→α × SrcD
def srcOk (n:Nat) (s:SrcD):Prop:=(∀ b∈s.1,0≤b∧b≤255)∧0≤s.2.1∧s.2.1+n≤4611686018427387904
theorem srcOk.le {n m:Nat} {s:SrcD} (h:srcOk n s) (k:m≤n):srcOk m s:=⟨h.1,h.2.1,by have:=h.2.2; omega⟩
theorem sLe {n m:Nat} {s:SrcD} (h:srcOk n s:=by assumption) (k:m≤n:=by omega):srcOk m s:=h.le k
section
variable {α β:Type}
def bnd (m:DM α) (f:α→DM β):DM β:=fun s=>f (m s).1 (m s).2
theorem bnd_of {m:DM α} {f:α→DM β} {s s':SrcD} {x:α} (h:m s=(x,s')):bnd m f s=f x s':=by unfold bnd; rw [h]
def itD (f:α→DM α):Nat→α→DM α
 | 0,x=>fun s=>(x,s)
 | k+1,x=>bnd (itD f k x) f
theorem itD_succ {f:α→DM α} {k:Nat} {x y:α} {s s':SrcD} (h:itD f k x s=(y,s')):itD f (k+1) x s=f y s':=bnd_of h
def Cost (c:Nat) (m:DM α):Prop:=∀ n s,srcOk (n+c) s→srcOk n (m s).2
theorem Cost.at {c:Nat} {m:DM α} (h:Cost c m) {n:Nat} {s s':SrcD} {x:α} (hs:srcOk n s) (hc:c≤n) (e:m s=(x,s')):srcOk (n - c) s':=by
 have:=h (n - c) s (by rw [Nat.sub_add_cancel hc]; exact hs)
 rw [e] at this; exact this
theorem Cost.le {c d:Nat} {m:DM α} (h:Cost c m) (k:c≤d):Cost d m:=fun n s hs=>h n s (hs.le (by omega))
theorem Cost.pure (x:α):Cost 0 (fun s=>(x,s):DM α):=fun n s hs=>hs
theorem Cost.bnd {a b:Nat} {m:DM α} {f:α→DM β} (h:Cost a m) (k :∀x,Cost b (f x)):Cost (a+b) (bnd m f):=fun n s hs =>
 k _ n _ (h (n+b) s (hs.le (by omega)))
theorem Cost.it {c:Nat} {f:α→DM α} (h :∀x,Cost c (f x)) (k:Nat) (x:α):Cost (c * k) (itD f k x):=by
 induction k with
 | zero=>exact Cost.pure x
 | succ k ih=>rw [Nat.mul_succ]; exact ih.bnd h
end
def byteD (s:SrcD):Int:=match decide (s.2.1 < s.1.length) with
 | true=>IntKind.i64.wrap (s.1.getD s.2.1.toNat 0)
 | false=>0
def seedD (s:SrcD):Int:=IntKind.u64.wrap (IntKind.u64.wrap (IntKind.u64.wrap (s.2.2 * 6364136223846793005)+IntKind.u64.wrap (byteD s))+1442695040888963407)
def lowD (x:Int):Int:=IntKind.i64.wrap (IntKind.u64.wrap (BitVec.ofInt 64 (x.fdiv (2 ^ 40)) &&& BitVec.ofInt 64 255).toNat)
def nextD:DM Int:=fun s=>(match decide (s.2.1+1≤s.1.length) with | true=>byteD s | false=>lowD (seedD s),s.1,s.2.1+1,seedD s)
theorem byteD_rng {n:Nat} {s:SrcD} (h:srcOk n s):0≤byteD s∧byteD s≤255:=by
 unfold byteD
 split
 · rename_i hk
   have hk:=of_decide_eq_true hk
   have hm:s.1.getD s.2.1.toNat 0∈s.1:=getD_mem (by have:=h.2.1; omega)
   have:=h.1 _ hm
   rw [wrapI (by omega)]; exact this
 · omega
theorem lowD_rng (x:Int):0≤lowD x∧lowD x≤255:=by
 unfold lowD
 have h:(BitVec.ofInt 64 (x.fdiv (2 ^ 40)) &&& BitVec.ofInt 64 255).toNat≤255:=by
  rw [BitVec.toNat_and];exact Nat.le_trans Nat.and_le_right (by decide)
 rw [wrapU (by omega),wrapI (by omega)]; omega
theorem nextD_rng {n:Nat} {s:SrcD} (h:srcOk n s):0≤(nextD s).1∧(nextD s).1≤255:=by
 unfold nextD;simp only
 split
 · exact byteD_rng h
 · exact lowD_rng _
theorem nextD_cost:Cost 1 nextD:=fun n s hs=>⟨hs.1,by have:=hs.2.1; show 0≤s.2.1+1; omega,by have:=hs.2.2; show s.2.1+1+n≤_; omega⟩
def pickD (n:Int):DM Int:=fun s=>match decide (n≤1) with
 | true=>(0,s)
 | false=>bnd nextD (fun x s=>match decide (200 < n) with
   | true=>bnd nextD (fun y s=>((x * 256+y).tmod n,s)) s
   | false=>(x.tmod n,s)) s
theorem Cost.ite {α:Type} {c:Nat} {b:Bool} {m k:DM α} (h1:Cost c m) (h2:Cost c k):Cost c (fun s=>match b with | true=>m s | false=>k s):=by
 cases b
 · exact h2
 · exact h1
theorem pickD_cost (n:Int):Cost 2 (pickD n):=by
 unfold pickD;refine Cost.ite ((Cost.pure (0:Int)).le (by omega)) ?_
 exact nextD_cost.bnd fun x=>Cost.ite (nextD_cost.bnd fun y=>Cost.pure _) ((Cost.pure _).le (by omega))
theorem pickD_rng {n:Nat} {s:SrcD} {m:Int} (h:srcOk (n+2) s):0≤(pickD m s).1∧(1≤m→(pickD m s).1 < m)∧(m≤1→(pickD m s).1=0):=by
 unfold pickD
 split
 · rename_i hk; have:=of_decide_eq_true hk; exact ⟨by simp,fun h=>by simp; omega,fun _=>rfl⟩
 · rename_i hk
   have hm:=of_decide_eq_false hk
   have hx:=nextD_rng h
   have h1:srcOk (n+1) (nextD s).2:=nextD_cost _ _ h
   unfold bnd
   split
   · have hy:=nextD_rng h1
     simp only
     have e:=Int.tmod_nonneg (a:=(nextD s).1 * 256+(nextD (nextD s).2).1) m (by omega)
     have e2:=Int.tmod_lt_of_pos ((nextD s).1 * 256+(nextD (nextD s).2).1) (show 0 < m by omega)
     exact ⟨e,fun _=>e2,fun h=>by omega⟩
   · simp only
     have e:=Int.tmod_nonneg (a:=(nextD s).1) m (by omega)
     have e2:=Int.tmod_lt_of_pos (nextD s).1 (show 0 < m by omega)
     exact ⟨e,fun _=>e2,fun h=>by omega⟩
theorem pickD_at {n:Nat} {s s':SrcD} {m x:Int} (h:srcOk n s) (hn:2≤n) (e:pickD m s=(x,s')):srcOk (n - 2) s'∧0≤x∧(1≤m→x < m)∧(m≤1→x=0):=by
 have h2:=pickD_rng (n:=n - 2) (m:=m) (by rw [Nat.sub_add_cancel hn]; exact h)
 rw [e] at h2;exact ⟨(pickD_cost m).at h hn e,h2⟩
def oneD (n:Int):DM Bool:=bnd (pickD n) fun x s=>(decide (x=0),s)
theorem oneD_cost (n:Int):Cost 2 (oneD n):=(pickD_cost n).bnd fun _=>Cost.pure _
def amongD (xs:List Int):DM Int:=bnd (pickD xs.length) fun k s=>(xs.getD k.toNat 0,s)
theorem amongD_cost (xs:List Int):Cost 2 (amongD xs):=(pickD_cost _).bnd fun _=>Cost.pure _
theorem amongD_at {n:Nat} {s s':SrcD} {xs:List Int} {x:Int} (h:srcOk n s) (hn:2≤n) (hl:0 < xs.length) (e:amongD xs s=(x,s')):srcOk (n - 2) s'∧x∈xs:=by
 refine ⟨(amongD_cost xs).at h hn e,?_⟩
 have h2:=pickD_rng (n:=n - 2) (m:=xs.length) (by rw [Nat.sub_add_cancel hn]; exact h)
 have h3:x=xs.getD (pickD xs.length s).1.toNat 0:=(congrArg Prod.fst e).symm
 rw [h3];have:=h2.2.1 (by omega)
 exact getD_mem (by omega)
theorem oneD_at {n:Nat} {s s':SrcD} {m:Int} {x:Bool} (h:srcOk n s) (hn:2≤n) (e:oneD m s=(x,s')):srcOk (n - 2) s':=(oneD_cost m).at h hn e
theorem nextD_at {n:Nat} {s s':SrcD} {x:Int} (h:srcOk n s) (hn:1≤n) (e:nextD s=(x,s')):srcOk (n - 1) s'∧0≤x∧x≤255:=by
 have h2:=nextD_rng h
 rw [e] at h2;exact ⟨nextD_cost.at h hn e,h2⟩
def wideF (n:Int):DM Int:=bnd nextD fun y s=>(IntKind.i64.wrap (IntKind.i64.wrap (256 * n)+y),s)
def l01D:DM Int:=bnd (pickD 8) fun x s=>match decide (x=0) with
 | true=>amongD [-2147483648,2147483647,-2147483647,65536,-65536,1073741824] s
 | false=>match decide (x=1) with
   | true=>bnd nextD (fun n s=>bnd (itD wideF 3 n) (fun n s=>(wrap32 n,s)) s) s
   | false=>match decide (x=2) with
     | true=>(0,s)
     | false=>bnd (pickD 41) (fun y s=>(y - 20,s)) s
theorem wideF_cost (n:Int):Cost 1 (wideF n):=nextD_cost.bnd fun _=>Cost.pure _
theorem l01D_cost:Cost 6 l01D :=
 (pickD_cost 8).bnd (b:=4) fun x=>Cost.ite ((amongD_cost _).le (by omega)) (Cost.ite (nextD_cost.bnd (b:=3) fun n=>(Cost.it wideF_cost 3 n).bnd (b:=0) fun _=>Cost.pure _)
  (Cost.ite ((Cost.pure (0:Int)).le (by omega)) (((pickD_cost 41).bnd fun _=>Cost.pure _).le (by omega))))
def snocD (m:DM Int) (xs:List Int):DM (List Int):=bnd m fun x s=>(xs++[x],s)
theorem snocD_cost {m:DM Int} {c:Nat} (h:Cost c m) (xs:List Int):Cost c (snocD m xs):=h.bnd fun _=>Cost.pure _
theorem itD_len {m:DM Int} {k:Nat} {s:SrcD} {xs:List Int}:((itD (snocD m) k xs s).1).length=xs.length+k:=by
 induction k with
 | zero=>rfl
 | succ k ih=>simp only[itD,bnd,snocD,List.length_append,ih]; rfl
theorem costPick {α:Type} {m:Int} {b:Nat} {f:Int→DM α} (k :∀x,0≤x→(1≤m→x < m)→(m≤1→x=0)→Cost b (f x)):Cost (2+b) (bnd (pickD m) f):=fun n s hs=>by
 have h1:=pickD_rng (n:=n+b) (m:=m) (s:=s) (hs.le (by omega))
 exact k _ h1.1 h1.2.1 h1.2.2 n _ (pickD_cost m (n+b) s (hs.le (by omega)))
theorem costAmong {α:Type} {xs:List Int} {b:Nat} {f:Int→DM α} (hl:0 < xs.length) (k :∀x,x∈xs→Cost b (f x)):Cost (2+b) (bnd (amongD xs) f):=fun n s hs=>by
 have h1:=amongD_at (n:=n+b+2) (s:=s) (x:=(amongD xs s).1) (s':=(amongD xs s).2) (hs.le (by omega)) (by omega) hl rfl
 exact k _ h1.2 n _ (h1.1.le (by omega))
def l06DA (kd tb:Int):DM Int:=fun s=>match decide (kd=1) with
 | true=>pickD 2 s
 | false=>match decide (kd=6) with
   | true=>bnd (pickD 4) (fun x s=>(1+x,s)) s
   | false=>match decide (kd=10) with
     | true=>amongD [1,2,0,16,31] s
     | false=>match decide (kd=11) with
       | true=>amongD [10,0,100,2147483647] s
       | false=>match decide (kd=13) with
         | true=>pickD tb s
         | false=>match hasAL.contains kd with
           | true=>l01D s
           | false=>(0,s)
theorem l06DA_cost (kd tb:Int):Cost 6 (l06DA kd tb) :=
 Cost.ite ((pickD_cost 2).le (by omega)) (Cost.ite (((pickD_cost 4).bnd (b:=0) fun _=>Cost.pure _).le (by omega)) (Cost.ite ((amongD_cost _).le (by omega)) (Cost.ite ((amongD_cost _).le (by omega))
  (Cost.ite ((pickD_cost tb).le (by omega)) (Cost.ite l01D_cost ((Cost.pure (0:Int)).le (by omega)))))))
theorem arL_bd (k:Nat):-1≤arL.getD k 0∧arL.getD k 0≤3:=by
 by_cases h:k < 18
 · have key :∀k:_root_.Fin 18,-1≤arL.getD k.1 0∧arL.getD k.1 0≤3:=by decide
   exact key ⟨k,h⟩
 · rw [getD_out (by simp [arL]; omega)]; omega
def l06D (kd tb bl:Int):DM NodeD:=bnd (l06DA kd tb) fun a s=>bnd (itD (snocD (pickD bl)) (arL.getD kd.toNat 0).toNat []) (fun fr s=>match decide (kd=17) with
 | true=>bnd (pickD 3) (fun x s=>((kd,a,1+x,fr),s)) s
 | false=>((kd,a,0,fr),s)) s
theorem l06D_cost (kd tb bl:Int):Cost 20 (l06D kd tb bl):=by
 have hk:=arL_bd kd.toNat
 have h1:Cost 6 (itD (snocD (pickD bl)) (arL.getD kd.toNat 0).toNat []):=(Cost.it (snocD_cost (pickD_cost bl)) (arL.getD kd.toNat 0).toNat []).le (by omega)
 exact ((l06DA_cost kd tb).bnd (b:=8) fun a=>(h1.bnd (b:=2) fun fr=>Cost.ite ((pickD_cost 3).bnd (b:=0) fun _=>Cost.pure _) ((Cost.pure _).le (by omega)))).le (by omega)
theorem l06D_len {kd tb bl:Int} {s s':SrcD} {nd:NodeD} (e:l06D kd tb bl s=(nd,s')):nd.2.2.2.length=(arL.getD kd.toNat 0).toNat∧nd.1=kd:=by
 have e1:(l06D kd tb bl s).1=nd:=congrArg Prod.fst e
 rw [← e1];unfold l06D bnd;simp only
 split
 · exact ⟨by simp only; rw [itD_len]; simp,rfl⟩
 · exact ⟨by simp only; rw [itD_len]; simp,rfl⟩
def tabD:DM (List Int):=bnd (amongD [2,4,8,4]) fun m s=>itD (snocD l01D) m.toNat [] s
def tabS (ts:List (List Int)):DM (List (List Int)):=bnd tabD fun t s=>(ts++[t],s)
def l06T:DM (List (List Int)):=bnd (pickD 2) fun x s=>itD tabS (1+x).toNat [] s
theorem tabD_cost:Cost 50 tabD:=costAmong (b:=48) (by simp) fun x hx=>(Cost.it (snocD_cost l01D_cost) x.toNat []).le (by simp at hx; omega)
theorem tabS_cost (ts:List (List Int)):Cost 50 (tabS ts):=tabD_cost.bnd fun _=>Cost.pure _
theorem l06T_cost:Cost 102 l06T:=costPick (b:=100) fun x h0 h1 _=>(Cost.it tabS_cost (1+x).toNat []).le (by have:=h1 (by omega); omega)
theorem tabS_len {k:Nat} {s:SrcD} {ts:List (List Int)}:((itD tabS k ts s).1).length=ts.length+k:=by
 induction k with
 | zero=>rfl
 | succ k ih=>simp only[itD,bnd,tabS,List.length_append,ih]; rfl
def kindsD (li:Bool):List Int:=match li with
 | true=>[1,3,4,5,6,7,8,17,1,5,6]
 | false=>[1,2,3,4,5,6,7,8,9,10,11,12,13,14,15,16,17,1,3,6]
end Go.Proofs.YtgmabhkmiokiaaaGreat
