/-
  Texts of this claim, joined (part 33). No condition beyond those of the theorems.
-/
import Derived.Test.YtenjbehedcegdaaGreatQ24
import Derived.Test.YtenjbehedcegdaaGreatQ17
namespace Go.Proofs.YtenjbehedcegdaaGreat
open Go.RowKit
set_option linter.unusedSimpArgs false
set_option linter.unusedVariables false
def A0X (s:List Bool) (fs:List Int) (m:Nat):List Bool:=(fs.take m).foldl (fun s f=>s.set f.toNat true) s
theorem A3z (s:List Bool) (fs:List Int):A0X s fs 0=s:=by simp[A0X]
theorem A4U {s:List Bool} {fs:List Int} {m:Nat} (h:m < fs.length):A0X s fs (m+1)=(A0X s fs m).set (fs.getD m 0).toNat true:=by
 have e:fs.take (m+1)=fs.take m++[fs.getD m 0]:=by rw[List.take_succ_eq_append_getElem h];simp[List.getD,h]
 unfold A0X;rw[e,List.foldl_append]
 rfl
theorem B3q (fs:List Int):∀s:List Bool,(fs.foldl (fun s f=>s.set f.toNat true) s).length=s.length:=by
 induction fs with
 | nil=>intro s;rfl
 | cons f l ih=>intro s;rw[List.foldl_cons,ih,List.length_set]
theorem A1E (s:List Bool) (fs:List Int) (m:Nat):(A0X s fs m).length=s.length:=B3q _ _
def A1L (x:A1) (s:List Bool):List Bool:=match decide (x.1=18) with
 | true=>s
 | false=>s.set (xT x).toNat false
theorem B9L {x:A1} {s:List Bool} (h:x.1=18):A1L x s=s:=by unfold A1L;rw[decide_eq_true h]
theorem B9T {x:A1} {s:List Bool} (h:¬x.1=18):A1L x s=s.set (xT x).toNat false:=by unfold A1L;rw[decide_eq_false h]
theorem A6W (x:A1) (s:List Bool):(A1L x s).length=s.length:=by
 unfold A1L
 split
 · rfl
 · exact List.length_set
def X7 (g:G0):Nat→List Bool
 | 0=>A0X (List.replicate g.2.1.toNat false) g.2.2.2.2 g.2.2.2.2.length
 | j+1=>A0X (A1L (g.2.2.2.1.getD (g.2.2.2.1.length - 1 - j) x0) (X7 g j)) (xF (g.2.2.2.1.getD (g.2.2.2.1.length - 1 - j) x0)) (xF (g.2.2.2.1.getD (g.2.2.2.1.length - 1 - j) x0)).length
theorem B5M (g:G0):∀j,(X7 g j).length=g.2.1.toNat:=by
 intro j
 induction j with
 | zero=>simp[X7,A1E]
 | succ j ih=>simp only[X7,A1E,A6W,ih]
def V3 (s:List Bool):Nat→List Int
 | 0=>[]
 | m + 1 => match s.getD m false with
   | true=>V3 s m++[(m:Int)]
   | false=>V3 s m
theorem B37 {s:List Bool} {m:Nat} (h:s.getD m false=true):V3 s (m+1)=V3 s m++[(m:Int)]:=by
 show (match s.getD m false with|true=>V3 s m++[(m:Int)]|false=>V3 s m)=_
 rw[h]
theorem B2w {s:List Bool} {m:Nat} (h:s.getD m false=false):V3 s (m+1)=V3 s m:=by
 show (match s.getD m false with|true=>V3 s m++[(m:Int)]|false=>V3 s m)=_
 rw[h]
theorem A7d (s:List Bool):∀m,(V3 s m).length≤m:=by
 intro m
 induction m with
 | zero=>simp[V3]
 | succ m ih =>
   cases h:s.getD m false with
   | true=>rw[B37 h,List.length_append];simp only[List.length_cons,List.length_nil];omega
   | false=>rw[B2w h];omega
def A2P (g:G0) (k:Int):List Int × Int:=match O0 g with
 | false=>([],1)
 | true => match I6 k 0 ((g.2.2.2.1.length : Int) - 1) with
   | false=>([],2)
   | true=>(V3 (X7 g (g.2.2.2.1.length - 1 - k.toNat)) g.2.1.toNat,0)
theorem B7V {g:G0} {k:Int} (h:O0 g=false):A2P g k=([],1):=by unfold A2P;rw[h]
theorem B8K {g:G0} {k:Int} (h:O0 g=true) (h2:I6 k 0 ((g.2.2.2.1.length:Int) - 1)=false):A2P g k=([],2):=by unfold A2P;rw[h];simp only;rw[h2]
theorem B2i {g:G0} {k:Int} (h:O0 g=true) (h2:I6 k 0 ((g.2.2.2.1.length:Int) - 1)=true):A2P g k=(V3 (X7 g (g.2.2.2.1.length - 1 - k.toNat)) g.2.1.toNat,0):=by unfold A2P;rw[h];simp only;rw[h2]
theorem B6H {g:G0} (h:O0 g=true) {k:Nat} (hk:k < g.2.2.2.1.length):(A2P g (k:Int)).2=0∧((A2P g (k:Int)).1.length:Int)≤g.2.1:=by
 have hG:=A0R h
 have h0:=hG.r0
 rw[B2i h (L8 (by omega) (by omega))]
 refine⟨rfl,?_⟩
 have:=A7d (X7 g (g.2.2.2.1.length - 1 - (k:Int).toNat)) g.2.1.toNat
 show ((V3 _ _).length:Int)≤_
 omega
/-! What is drawn: a patch, signals, a number of frames. -/
def A9F:DM Int:=bnd (A0L 20) fun o s=>match o with
 | true=>H5 [-1,4001,0] s
 | false=>D8 20 s
theorem B3U:Cost 4 A9F:=(o8 20).bnd (b:=2) fun o=>by
 cases o
 · exact E9 20
 · exact I8 _
def B8C (cd:List Int):(B7 × List (List Int) × Int) × S4:=bnd A1C (fun p s=>bnd (A6b p.1) (fun xs s=>bnd A9F (fun n s=>((p,xs,n),s)) s) s) (cd,0,0)
theorem B6y {g:G0} (h:ProgOk g):O0 g=true:=by
 have h6:g.2.2.2.1.all (fun x=>A12 g.2.1 g.2.2.1.length x && !(decide (x.1=1) && decide (g.1≤x.2.1)))=true:=List.all_eq_true.2 fun x hx=>by
  obtain⟨k,hk,rfl⟩:=List.mem_iff_getElem.1 hx
  have e:g.2.2.2.1.getD k x0=g.2.2.2.1[k]:=by simp[List.getD,hk]
  have h1:=h.ins k hk
  rw[e] at h1;simp only[Bool.and_eq_true,Bool.not_eq_true',Bool.and_eq_false_iff,decide_eq_false_iff_not];refine⟨h1.1,?_⟩
  by_cases h2:g.2.2.2.1[k].1=1
  · right;have:=h1.2 h2;omega
  · left;exact h2
 simp only[O0,Bool.and_eq_true,decide_eq_true_eq];exact⟨B4.2 ⟨h.i0,h.i4⟩,B4.2 ⟨h.r0,h.r24⟩,h.ts,h.cl,h.ol,h6,h.pr,h.wr⟩
theorem B6k {p:B7} {g:G0} {z:Int} (e:A4l p=(g,z)) (hz:¬z=0):G3 p=false:=by
 cases h:G3 p with
 | false=>rfl
 | true=>rw[A5N h] at e;injection e with _ e2;exact absurd e2.symm hz
theorem B6h {p:B7} {g:G0} {z:Int} (e:A4l p=(g,z)) (hz:z=0):G3 p=true∧g=M4 p:=by
 cases h:G3 p with
 | false=>rw[A8y h] at e;injection e with _ e2;subst hz;cases e2
 | true=>rw[A5N h] at e;injection e with e1 _;exact⟨rfl,e1.symm⟩
end Go.Proofs.YtenjbehedcegdaaGreat
