/-
  Texts of this claim, joined (part 11). No condition beyond those of the theorems.
-/
import Derived.Test.YtenjbehedcegdaaGreatQ04
set_option linter.unusedSimpArgs false
set_option linter.unusedVariables false
namespace Go.Proofs.YtenjbehedcegdaaGreat
open Go.RowKit
theorem A5P {xs:List Int} {i:Nat} (h:xs.length≤i):xs.getD i 0=0:=by
 rw[List.getD_eq_getElem?_getD,List.getElem?_eq_none h];rfl
def D3 (ins:List (List Int)) (i:Int):List Int:=ins.map fun a=>a.getD i.toNat 0
def P8 (outs:List (List Int)) (xs:List Int):List (List Int):=List.zipWith (fun l x=>l++[x]) outs xs
def D0 (p:B7) (ins:List (List Int)) (frm:Int):Nat→List (List Int) × List (List Int)→List (List Int) × List (List Int)
 | 0,st=>st
 | k + 1, st => (A4q p (D0 p ins frm k st).1 (D3 ins (frm + k)) (T7 p (D0 p ins frm k st).1 (D3 ins (frm + k))),
     P8 (D0 p ins frm k st).2 (v8 p (T7 p (D0 p ins frm k st).1 (D3 ins (frm+k)))))
def A1G (p:B7) (ins:List (List Int)):Bool:=decide ((ins.length:Int)=p.1) && ins.all d9
def A2W (p:B7) (ins:List (List Int)):Prop:=(ins.length:Int)=p.1∧∀a∈ins,a.length≤4000∧I9 a=true
theorem A9c {p:B7} {ins:List (List Int)}:A1G p ins=true↔A2W p ins:=by
 simp only[A1G,A2W,Bool.and_eq_true,decide_eq_true_eq,List.all_eq_true,d9]
theorem A34 {p:B7} {ins:List (List Int)} (h:A2W p ins) (i:Int):((D3 ins i).length:Int)=p.1∧I9 (D3 ins i)=true:=by
 refine⟨by simp only[D3,List.length_map];exact h.1,M3.2 fun x hx=>?_⟩
 obtain⟨a,ha,rfl⟩:=List.mem_map.1 hx
 exact Q7 (h.2 a ha).2 _
theorem Y8 {outs:List (List Int)} {xs:List Int} (h:outs.length=xs.length):(P8 outs xs).length=xs.length:=by simp[P8,h]
theorem A2C (p:B7) (v:List Int):(v8 p v).length=p.2.2.2.length:=by simp[v8]
theorem A9w {p:B7} {ins:List (List Int)} {frm:Int} {s o:List (List Int)} (h:E4 p=true) (hs:A2L p s) (hi:A2W p ins) (ho:o.length=p.2.2.2.length):∀k,A2L p (D0 p ins frm k (s,o)).1∧(D0 p ins frm k (s,o)).2.length=p.2.2.2.length:=by
 intro k
 induction k with
 | zero=>exact⟨hs,ho⟩
 | succ k ih =>
   obtain⟨a1,a2⟩:=ih;obtain⟨_,f2⟩:=A34 hi (frm+k)
   exact⟨B4r h a1 f2 (A7g h a1 f2),by simp only[D0];rw[Y8 (by rw[A2C];exact a2),A2C]⟩
theorem A28 {outs:List (List Int)} {xs:List Int} {i:Nat} (h:i < outs.length) (h2:i < xs.length):(P8 outs xs).getD i []=outs.getD i []++[xs.getD i 0]:=by
 have e:(List.zipWith (fun (l:List Int) (x:Int)=>l++[x]) outs xs)[i]?=some (outs[i]++[xs[i]]):=by
  rw[List.getElem?_eq_getElem (by simp;omega),List.getElem_zipWith]
 have e1:outs.getD i []=outs[i]:=by simp[List.getD,h]
 have e2:xs.getD i 0=xs[i]:=by simp[List.getD,h2]
 rw[e1,e2,P8,List.getD_eq_getElem?_getD,e];rfl
theorem B3S {p:B7} {ins:List (List Int)} {frm:Int} {s o:List (List Int)} {m:Nat} (h:E4 p=true) (hs:A2L p s) (hi:A2W p ins) (ho:o.length=p.2.2.2.length) (hm:∀i,i < o.length→(o.getD i []).length=m) :
 ∀k i,i < p.2.2.2.length→((D0 p ins frm k (s,o)).2.getD i []).length=m+k:=by
 intro k
 induction k with
 | zero=>intro i hi';exact hm i (by omega)
 | succ k ih =>
   intro i hi'
   simp only[D0];have hb:=(A9w (frm:=frm) h hs hi ho k).2
   rw[A28 (by omega) (by rw[A2C];omega),List.length_append,ih i hi']
   simp;omega
def N7 {α:Type} (A B:List α) (m:Nat):List α:=A.take m++B.drop m
section
variable {α:Type} {A B:List α} {m:Nat}
theorem A2F (h:A.length=B.length) (hm:m≤A.length):(N7 A B m).length=A.length:=by
 simp only[N7,List.length_append,List.length_take,List.length_drop];omega
theorem B0G (d:α) (h:A.length=B.length) (hm:m < A.length):(N7 A B m).getD m d=B.getD m d:=by
 unfold N7;rw[List.getD_eq_getElem?_getD,List.getD_eq_getElem?_getD,List.getElem?_append_right (by rw[List.length_take];omega),List.getElem?_drop,List.length_take]
 congr 2;omega
theorem A2B (d:α) (h:A.length=B.length) (hm:m < A.length):(N7 A B m).set m (A.getD m d)=N7 A B (m+1):=by
 unfold N7;rw[J8 (d:=d) hm,List.set_append_right _ _ (by rw[List.length_take];omega),List.length_take,(by omega:m - min m A.length=0),List.drop_eq_getElem_cons (show m < B.length by omega),List.set_cons_zero,List.append_assoc]
 rfl
theorem A0i:N7 A B 0=B:=by simp[N7]
theorem A2G (h:A.length=B.length) (hm:A.length≤m):N7 A B m=A:=by
 unfold N7;rw[List.take_of_length_le hm,List.drop_of_length_le (by omega),List.append_nil]
end
theorem A6J {ins:List (List Int)} {i:Int} {m:Nat} (h:m < ins.length):(D3 ins i).getD m 0=(ins.getD m []).getD i.toNat 0:=by simp[D3,List.getD,h]
def A8T (p:B7) (ins:List (List Int)) (n:Nat):List (List Int):=(D0 p ins 0 n (V1 p,List.replicate p.2.2.2.length [])).2
def a6 (p:B7) (ins:List (List Int)) (n:Int):List (List Int) × Int:=match G3 p with
 | false=>([],1)
 | true => match A1G p ins && I6 n 0 4000 with
   | false=>([],2)
   | true=>(A8T p ins n.toNat,0)
theorem A7h {p:B7} {ins:List (List Int)} {n:Int} (h:G3 p=false):a6 p ins n=([],1):=by unfold a6;rw[h]
theorem A7o {p:B7} {ins:List (List Int)} {n:Int} (h:G3 p=true) (k:(A1G p ins && I6 n 0 4000)=false):a6 p ins n=([],2):=by unfold a6;rw[h,k]
theorem A7e {p:B7} {ins:List (List Int)} {n:Int} (h:G3 p=true) (k:(A1G p ins && I6 n 0 4000)=true):a6 p ins n=(A8T p ins n.toNat,0):=by unfold a6;rw[h,k]
open Go.RowKit
def B8w (a b:List (List Int)):List (List Int):=List.zipWith (·++·) a b
end Go.Proofs.YtenjbehedcegdaaGreat
