/-
  Texts of this claim, joined (part 15). No condition beyond those of the theorems.
-/
import Derived.Test.YtgmabhkmiokiaaaGreatVa14
namespace Go.Proofs.YtgmabhkmiokiaaaGreat
open Go.RowKit
set_option linter.unusedSimpArgs false
set_option linter.unusedVariables false
def linK (k:Int):Prop:=k=1∨k=3∨k=4∨k=5∨k=6∨k=7∨k=8∨k=17
def linP (p:PatchD):Prop:=∀ nd∈p.2.2.1,linK nd.1
theorem w32_al (a b:Int):wrap32 (wrap32 a+b)=wrap32 (a+b):=by unfold wrap32; omega
theorem w32_ar (a b:Int):wrap32 (a+wrap32 b)=wrap32 (a+b):=by unfold wrap32; omega
theorem w32_sl (a b:Int):wrap32 (wrap32 a - b)=wrap32 (a - b):=by unfold wrap32; omega
theorem w32_sr (a b:Int):wrap32 (a - wrap32 b)=wrap32 (a - b):=by unfold wrap32; omega
theorem w32_ml (a b:Int):wrap32 (wrap32 a * b)=wrap32 (a * b):=by apply wrap32_congr; rw [Int.mul_emod,wrap32_mod,← Int.mul_emod]
theorem w32_mr (a b:Int):wrap32 (a * wrap32 b)=wrap32 (a * b):=by apply wrap32_congr; rw [Int.mul_emod,wrap32_mod,← Int.mul_emod]
theorem w32_aml (a b c:Int):wrap32 (a * wrap32 b+c)=wrap32 (a * b+c):=by rw [← w32_al (a * wrap32 b),w32_mr,w32_al]
theorem w32_amr (a b c:Int):wrap32 (c+a * wrap32 b)=wrap32 (c+a * b):=by rw [← w32_ar c (a * wrap32 b),w32_mr,w32_ar]
theorem w32_0:wrap32 0=0:=by unfold wrap32; omega
def CB (α β:Int) (a b c:List Int):Prop:=a.length=c.length∧b.length=c.length∧∀ j,c.getD j 0=wrap32 (α * a.getD j 0+β * b.getD j 0)
def SB (α β:Int) (s1 s2 s3:List (List Int)):Prop:=s1.length=s3.length∧s2.length=s3.length∧∀ i,CB α β (s1.getD i []) (s2.getD i []) (s3.getD i [])
section
variable {α β:Int}
theorem getD_ge {α:Type} {l:List α} {i:Nat} {d:α} (h:l.length≤i):l.getD i d=d:=by rw [List.getD_eq_getElem?_getD,List.getElem?_eq_none h]; rfl
theorem CB.nil:CB α β [] [] []:=⟨rfl,rfl,fun j=>by simp [w32_0]⟩
theorem CB.one {x y z:Int} (h:z=wrap32 (α * x+β * y)):CB α β [x] [y] [z]:=⟨rfl,rfl,fun j=>by
 cases j with
 | zero=>exact h
 | succ j=>simp [w32_0]⟩
theorem CB.set {a b c:List Int} (h:CB α β a b c) (i:Nat) {x y z:Int} (hz:z=wrap32 (α * x+β * y)):CB α β (a.set i x) (b.set i y) (c.set i z):=by
 obtain ⟨h1,h2,h3⟩:=h;refine ⟨by simpa using h1,by simpa using h2,fun j=>?_⟩
 by_cases hi:i < c.length
 · rw [getD_set hi,getD_set (by omega),getD_set (by omega)]
   split
   · exact hz
   · exact h3 j
 · rw [List.set_eq_of_length_le (by omega),List.set_eq_of_length_le (by omega),List.set_eq_of_length_le (by omega)]; exact h3 j
theorem getD_snoc {l:List Int} {x:Int} {j:Nat}:(l++[x]).getD j 0=if j < l.length then l.getD j 0 else if j=l.length then x else 0:=by
 rw [List.getD_eq_getElem?_getD]
 by_cases h:j < l.length
 · rw [List.getElem?_append_left h,if_pos h,List.getD_eq_getElem?_getD]
 · rw [List.getElem?_append_right (by omega),if_neg h]
   by_cases h2:j=l.length
   · subst h2; simp
   · rw [if_neg h2,List.getElem?_eq_none (by simp; omega)]; rfl
theorem CB.snoc {a b c:List Int} (h:CB α β a b c) {x y z:Int} (hz:z=wrap32 (α * x+β * y)):CB α β (a++[x]) (b++[y]) (c++[z]):=by
 obtain ⟨h1,h2,h3⟩:=h;refine ⟨by simp [h1],by simp [h2],fun j=>?_⟩
 rw [getD_snoc,getD_snoc,getD_snoc,h1,h2]
 split
 · exact h3 j
 · split
   · exact hz
   · simp [w32_0]
theorem CB.drop {a b c:List Int} (h:CB α β a b c) (n:Nat):CB α β (a.drop n) (b.drop n) (c.drop n):=by
 obtain ⟨h1,h2,h3⟩:=h;refine ⟨by simp [h1],by simp [h2],fun j=>?_⟩
 have e :∀l:List Int,(l.drop n).getD j 0=l.getD (n+j) 0:=fun l=>by rw [List.getD_eq_getElem?_getD,List.getElem?_drop,List.getD_eq_getElem?_getD]
 rw [e,e,e]; exact h3 _
theorem CB.map {a b c:List Int} (h:CB α β a b c) (l:List Int):CB α β (l.map fun i=>a.getD i.toNat 0) (l.map fun i=>b.getD i.toNat 0) (l.map fun i=>c.getD i.toNat 0):=by
 refine ⟨by simp,by simp,fun j=>?_⟩
 by_cases hj:j < l.length
 · have e :∀v:List Int,(l.map fun i=>v.getD i.toNat 0).getD j 0=v.getD (l.getD j 0).toNat 0:=fun v=>by simp [List.getD,hj]
   rw [e,e,e]; exact h.2.2 _
 · rw [getD_ge (by simp; omega),getD_ge (by simp; omega),getD_ge (by simp; omega)]; simp [w32_0]
theorem CB.rep (n:Nat):CB α β (List.replicate n 0) (List.replicate n 0) (List.replicate n 0):=by
 refine ⟨rfl,rfl,fun j=>?_⟩
 have e:(List.replicate n (0:Int)).getD j 0=0:=by
  by_cases hj:j < n
  · simp [List.getD,hj]
  · rw [getD_ge (by simp; omega)]
 rw [e]; simp [w32_0]
theorem outV_cb {k a:Int} {tabs:List (List Int)} {i1 i2 i3 s1 s2 s3:List Int} (hk:linK k) (hi:CB α β i1 i2 i3) (hs:CB α β s1 s2 s3) :
 outV k a tabs i3 s3=wrap32 (α * outV k a tabs i1 s1+β * outV k a tabs i2 s2):=by
 have h0:=hi.2.2 0
 have h1:=hi.2.2 1
 have g0:=hs.2.2 0
 rcases hk with rfl | rfl | rfl | rfl | rfl | rfl | rfl | rfl
 · exact h0
 · show wrap32 (i3.getD 0 0+i3.getD 1 0)=wrap32 (α * wrap32 (i1.getD 0 0+i1.getD 1 0)+β * wrap32 (i2.getD 0 0+i2.getD 1 0))
   rw [h0,h1]; simp only[w32_al,w32_ar,w32_aml,w32_amr]; congr 1; grind
 · show wrap32 (i3.getD 0 0 - i3.getD 1 0)=wrap32 (α * wrap32 (i1.getD 0 0 - i1.getD 1 0)+β * wrap32 (i2.getD 0 0 - i2.getD 1 0))
   rw [h0,h1]; simp only[w32_sl,w32_sr,w32_aml,w32_amr]; congr 1; grind
 · show wrap32 (a * i3.getD 0 0)=wrap32 (α * wrap32 (a * i1.getD 0 0)+β * wrap32 (a * i2.getD 0 0))
   rw [h0]; simp only[w32_mr,w32_aml,w32_amr]; congr 1; grind
 · exact g0
 · show wrap32 (s3.getD 0 0+i3.getD 0 0)=wrap32 (α * wrap32 (s1.getD 0 0+i1.getD 0 0)+β * wrap32 (s2.getD 0 0+i2.getD 0 0))
   rw [h0,g0]; simp only[w32_al,w32_ar,w32_aml,w32_amr]; congr 1; grind
 · show wrap32 (i3.getD 0 0 - s3.getD 0 0)=wrap32 (α * wrap32 (i1.getD 0 0 - s1.getD 0 0)+β * wrap32 (i2.getD 0 0 - s2.getD 0 0))
   rw [h0,g0]; simp only[w32_sl,w32_sr,w32_aml,w32_amr]; congr 1; grind
 · show wrap32 (i3.getD 0 0+a * s3.getD 0 0)=wrap32 (α * wrap32 (i1.getD 0 0+a * s1.getD 0 0)+β * wrap32 (i2.getD 0 0+a * s2.getD 0 0))
   rw [h0,g0]; simp only[w32_al,w32_ar,w32_aml,w32_amr]; congr 1; grind
theorem nextV_cb {k:Int} {i1 i2 i3 s1 s2 s3:List Int} {o1 o2 o3:Int} (hk:linK k) (hi:CB α β i1 i2 i3) (hs:CB α β s1 s2 s3) (ho:o3=wrap32 (α * o1+β * o2)) :
 CB α β (nextV k i1 s1 o1) (nextV k i2 s2 o2) (nextV k i3 s3 o3):=by
 have h0:=hi.2.2 0
 rcases hk with rfl | rfl | rfl | rfl | rfl | rfl | rfl | rfl
 · exact CB.nil
 · exact CB.nil
 · exact CB.nil
 · exact CB.nil
 · exact (hs.drop 1).snoc h0
 · exact CB.one ho
 · exact CB.one h0
 · exact (hs.drop 1).snoc ho
theorem insV_cb {n:NodeD} {f1 f2 f3 v1 v2 v3:List Int} (hf:CB α β f1 f2 f3) (hv:CB α β v1 v2 v3):CB α β (insV n f1 v1) (insV n f2 v2) (insV n f3 v3):=by
 unfold insV
 split
 · exact CB.one (hf.2.2 _)
 · exact hv.map _
section
variable {p:PatchD} {s1 s2 s3:List (List Int)} {f1 f2 f3:List Int}
theorem lin_at (hp:linP p) {i:Nat} (hi:i < p.2.2.1.length):linK (p.2.2.1.getD i n0).1:=hp _ (getD_mem hi)
theorem outP_cb (hp:linP p) (hs:SB α β s1 s2 s3) (hf:CB α β f1 f2 f3) {v1 v2 v3:List Int} (hv:CB α β v1 v2 v3) {i:Nat} (hi:i < p.2.2.1.length):outP p s3 f3 v3 i=wrap32 (α * outP p s1 f1 v1 i+β * outP p s2 f2 v2 i) :=
 outV_cb (lin_at hp hi) (insV_cb hf hv) (hs.2.2 i)
theorem valsL_cb (hp:linP p) (hs:SB α β s1 s2 s3) (hf:CB α β f1 f2 f3):CB α β (valsL p s1 f1) (valsL p s2 f2) (valsL p s3 f3):=by
 have key :∀k,k≤(ordL p.2.2.1).length→CB α β (valsG p s1 f1 (List.replicate p.2.2.1.length 0) ((ordL p.2.2.1).take k)) (valsG p s2 f2 (List.replicate p.2.2.1.length 0) ((ordL p.2.2.1).take k)) (valsG p s3 f3 (List.replicate p.2.2.1.length 0) ((ordL p.2.2.1).take k)):=by
  intro k
  induction k with
  | zero=>intro _; exact CB.rep _
  | succ k ih =>
    intro hk;have ih:=ih (by omega)
    rw [valsG_next (by omega),valsG_next (by omega),valsG_next (by omega)]
    obtain ⟨i,h1,h2,_⟩:=ordL_good p.2.2.1 k (by omega)
    rw [h1];simp only[valStep,Int.toNat_natCast];exact ih.set i (outP_cb hp hs hf ih h2)
 have:=key _ (Nat.le_refl _)
 rwa [List.take_length] at this
theorem nextL_cb (hp:linP p) (hs:SB α β s1 s2 s3) (hf:CB α β f1 f2 f3) {v1 v2 v3:List Int} (hv:CB α β v1 v2 v3):SB α β (nextL p s1 f1 v1) (nextL p s2 f2 v2) (nextL p s3 f3 v3):=by
 refine ⟨by rw [nextL_len,nextL_len],by rw [nextL_len,nextL_len],fun i=>?_⟩
 by_cases hi:i < p.2.2.1.length
 · rw [nextL_at hi,nextL_at hi,nextL_at hi];exact nextV_cb (lin_at hp hi) (insV_cb hf hv) (hs.2.2 i) (hv.2.2 i)
 · rw [getD_ge (by rw [nextL_len]; omega),getD_ge (by rw [nextL_len]; omega),getD_ge (by rw [nextL_len]; omega)]; exact CB.nil
theorem outsL_cb {v1 v2 v3:List Int} (hv:CB α β v1 v2 v3):CB α β (outsL p v1) (outsL p v2) (outsL p v3):=hv.map _
end
end
theorem CB.zero {a b c:List Int} (h:CB 0 0 a b c) (j:Nat):c.getD j 0=0:=by have:=h.2.2 j; rw [this]; simp [w32_0]
theorem list_zero {c:List Int} (h :∀j,c.getD j 0=0):c=List.replicate c.length 0:=by
 refine List.ext_getElem (by simp) fun i h1 h2=>?_
 have:=h i
 simp only[List.getD_eq_getElem?_getD,List.getElem?_eq_getElem h1,Option.getD_some] at this
 rw [this]; simp
theorem startV_zero {n:NodeD} (hk:linK n.1) (j:Nat):(startV n).getD j 0=0:=by
 have hr :∀m:Nat,(List.replicate m (0:Int)).getD j 0=0:=fun m=>by
  by_cases hj:j < m
  · simp [List.getD,hj]
  · rw [getD_ge (by simp; omega)]
 unfold startV;rcases hk with h | h | h | h | h | h | h | h<;>rw [h]<;>simp [-List.getD_eq_getElem?_getD]<;>first | exact hr _ | exact hr 1 | simp
theorem ext_getD {a b:List Int} (hl:a.length=b.length) (h :∀j,a.getD j 0=b.getD j 0):a=b:=by
 refine List.ext_getElem hl fun i h1 h2=>?_
 have:=h i
 simpa only [List.getD_eq_getElem?_getD,List.getElem?_eq_getElem h1,List.getElem?_eq_getElem h2,Option.getD_some] using this
end Go.Proofs.YtgmabhkmiokiaaaGreat
