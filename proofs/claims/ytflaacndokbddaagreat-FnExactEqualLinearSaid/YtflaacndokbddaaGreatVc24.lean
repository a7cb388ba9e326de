/-
  Texts of this claim, joined (part 24). No condition beyond those of the theorems.
-/
import Derived.Test.YtflaacndokbddaaGreatVc15
import Derived.Test.YtflaacndokbddaaGreatVc16
namespace Go.Proofs.YtflaacndokbddaaGreat
open Go.RowKit
set_option linter.unusedSimpArgs false
set_option linter.unusedVariables false
def linK (k:Int):Prop:=k=1∨k=3∨k=4∨k=5∨k=6∨k=7∨k=8∨k=17
def linP (p:PatchD):Prop:=∀ nd∈p.2.2.1,linK nd.1
theorem w32_al (a b:Int):wrap32 (wrap32 a+b)=wrap32 (a+b):=by unfold wrap32; omega
theorem w32_ar (a b:Int):wrap32 (a+wrap32 b)=wrap32 (a+b):=by unfold wrap32; omega
theorem w32_sl (a b:Int):wrap32 (wrap32 a - b)=wrap32 (a - b):=by unfold wrap32; omega
theorem w32_sr (a b:Int):wrap32 (a - wrap32 b)=wrap32 (a - b):=by unfold wrap32; omega
theorem w32_ml (a b:Int):wrap32 (wrap32 a * b)=wrap32 (a * b):=by apply wrap32_congr; rw [Int.mul_emod,wrap32_mod,← Int.mul_emod]
theorem w32_mr (a b:Int):wrap32 (a * wrap32 b)=wrap32 (a * b):=by apply wrap32_congr; rw [Int.mul_emod,wrap32_mod,← Int.mul_emod]
theorem w32_aml (a b c:Int):wrap32 (a * wrap32 b+c)=wrap32 (a * b+c):=by rw [← w32_al (a * wrap32 b),w32_mr,w32_al]
theorem w32_amr (a b c:Int):wrap32 (c+a * wrap32 b)=wrap32 (c+a * b):=by rw [← w32_ar c (a * wrap32 b),w32_mr,w32_ar]
theorem w32_0:wrap32 0=0:=by unfold wrap32; omega
def CB (α β:Int) (a b c:List Int):Prop:=a.length=c.length∧b.length=c.length∧∀ j,c.getD j 0=wrap32 (α * a.getD j 0+β * b.getD j 0)
def SB (α β:Int) (s1 s2 s3:List (List Int)):Prop:=s1.length=s3.length∧s2.length=s3.length∧∀ i,CB α β (s1.getD i []) (s2.getD i []) (s3.getD i [])
section
variable {α β:Int}
theorem getD_ge {α:Type} {l:List α} {i:Nat} {d:α} (h:l.length≤i):l.getD i d=d:=by rw [List.getD_eq_getElem?_getD,List.getElem?_eq_none h]; rfl
theorem CB.nil:CB α β [] [] []:=⟨rfl,rfl,fun j=>by simp [w32_0]⟩
theorem CB.one {x y z:Int} (h:z=wrap32 (α * x+β * y)):CB α β [x] [y] [z]:=⟨rfl,rfl,fun j=>by
 cases j with
 | zero=>exact h
 | succ j=>simp [w32_0]⟩
theorem CB.set {a b c:List Int} (h:CB α β a b c) (i:Nat) {x y z:Int} (hz:z=wrap32 (α * x+β * y)):CB α β (a.set i x) (b.set i y) (c.set i z):=by
 obtain ⟨h1,h2,h3⟩:=h
 refine ⟨by simpa using h1,by simpa using h2,fun j=>?_⟩
 by_cases hi:i < c.length
 · rw [getD_set hi,getD_set (by omega),getD_set (by omega)]
   split
   · exact hz
   · exact h3 j
 · rw [List.set_eq_of_length_le (by omega),List.set_eq_of_length_le (by omega),List.set_eq_of_length_le (by omega)]; exact h3 j
theorem getD_snoc {l:List Int} {x:Int} {j:Nat}:(l++[x]).getD j 0=if j < l.length then l.getD j 0 else if j=l.length then x else 0:=by
 rw [List.getD_eq_getElem?_getD]
 by_cases h:j < l.length
 · rw [List.getElem?_append_left h,if_pos h,List.getD_eq_getElem?_getD]
 · rw [List.getElem?_append_right (by omega),if_neg h]
   by_cases h2:j=l.length
   · subst h2; simp
   · rw [if_neg h2,List.getElem?_eq_none (by simp; omega)]; rfl
theorem CB.snoc {a b c:List Int} (h:CB α β a b c) {x y z:Int} (hz:z=wrap32 (α * x+β * y)):CB α β (a++[x]) (b++[y]) (c++[z]):=by
 obtain ⟨h1,h2,h3⟩:=h
 refine ⟨by simp [h1],by simp [h2],fun j=>?_⟩
 rw [getD_snoc,getD_snoc,getD_snoc,h1,h2]
 split
 · exact h3 j
 · split
   · exact hz
   · simp [w32_0]
theorem CB.drop {a b c:List Int} (h:CB α β a b c) (n:Nat):CB α β (a.drop n) (b.drop n) (c.drop n):=by
 obtain ⟨h1,h2,h3⟩:=h
 refine ⟨by simp [h1],by simp [h2],fun j=>?_⟩
 have e :∀l:List Int,(l.drop n).getD j 0=l.getD (n+j) 0:=fun l=>by rw [List.getD_eq_getElem?_getD,List.getElem?_drop,List.getD_eq_getElem?_getD]
 rw [e,e,e]; exact h3 _
theorem CB.map {a b c:List Int} (h:CB α β a b c) (l:List Int):CB α β (l.map fun i=>a.getD i.toNat 0) (l.map fun i=>b.getD i.toNat 0) (l.map fun i=>c.getD i.toNat 0):=by
 refine ⟨by simp,by simp,fun j=>?_⟩
 by_cases hj:j < l.length
 · have e :∀v:List Int,(l.map fun i=>v.getD i.toNat 0).getD j 0=v.getD (l.getD j 0).toNat 0:=fun v=>by simp [List.getD,hj]
   rw [e,e,e]; exact h.2.2 _
 · rw [getD_ge (by simp; omega),getD_ge (by simp; omega),getD_ge (by simp; omega)]; simp [w32_0]
theorem CB.rep (n:Nat):CB α β (List.replicate n 0) (List.replicate n 0) (List.replicate n 0):=by
 refine ⟨rfl,rfl,fun j=>?_⟩
 have e:(List.replicate n (0:Int)).getD j 0=0:=by
  by_cases hj:j < n
  · simp [List.getD,hj]
  · rw [getD_ge (by simp; omega)]
 rw [e]; simp [w32_0]
theorem outV_cb {k a:Int} {tabs:List (List Int)} {i1 i2 i3 s1 s2 s3:List Int} (hk:linK k) (hi:CB α β i1 i2 i3) (hs:CB α β s1 s2 s3) :
 outV k a tabs i3 s3=wrap32 (α * outV k a tabs i1 s1+β * outV k a tabs i2 s2):=by
 have h0:=hi.2.2 0
 have h1:=hi.2.2 1
 have g0:=hs.2.2 0
 rcases hk with rfl | rfl | rfl | rfl | rfl | rfl | rfl | rfl
 · exact h0
 · show wrap32 (i3.getD 0 0+i3.getD 1 0)=wrap32 (α * wrap32 (i1.getD 0 0+i1.getD 1 0)+β * wrap32 (i2.getD 0 0+i2.getD 1 0))
   rw [h0,h1]; simp only[w32_al,w32_ar,w32_aml,w32_amr]; congr 1; grind
 · show wrap32 (i3.getD 0 0 - i3.getD 1 0)=wrap32 (α * wrap32 (i1.getD 0 0 - i1.getD 1 0)+β * wrap32 (i2.getD 0 0 - i2.getD 1 0))
   rw [h0,h1]; simp only[w32_sl,w32_sr,w32_aml,w32_amr]; congr 1; grind
 · show wrap32 (a * i3.getD 0 0)=wrap32 (α * wrap32 (a * i1.getD 0 0)+β * wrap32 (a * i2.getD 0 0))
   rw [h0]; simp only[w32_mr,w32_aml,w32_amr]; congr 1; grind
 · exact g0
 · show wrap32 (s3.getD 0 0+i3.getD 0 0)=wrap32 (α * wrap32 (s1.getD 0 0+i1.getD 0 0)+β * wrap32 (s2.getD 0 0+i2.getD 0 0))
   rw [h0,g0]; simp only[w32_al,w32_ar,w32_aml,w32_amr]; congr 1; grind
 · show wrap32 (i3.getD 0 0 - s3.getD 0 0)=wrap32 (α * wrap32 (i1.getD 0 0 - s1.getD 0 0)+β * wrap32 (i2.getD 0 0 - s2.getD 0 0))
   rw [h0,g0]; simp only[w32_sl,w32_sr,w32_aml,w32_amr]; congr 1; grind
 · show wrap32 (i3.getD 0 0+a * s3.getD 0 0)=wrap32 (α * wrap32 (i1.getD 0 0+a * s1.getD 0 0)+β * wrap32 (i2.getD 0 0+a * s2.getD 0 0))
   rw [h0,g0]; simp only[w32_al,w32_ar,w32_aml,w32_amr]; congr 1; grind
theorem nextV_cb {k:Int} {i1 i2 i3 s1 s2 s3:List Int} {o1 o2 o3:Int} (hk:linK k) (hi:CB α β i1 i2 i3) (hs:CB α β s1 s2 s3) (ho:o3=wrap32 (α * o1+β * o2)) :
 CB α β (nextV k i1 s1 o1) (nextV k i2 s2 o2) (nextV k i3 s3 o3):=by
 have h0:=hi.2.2 0
 rcases hk with rfl | rfl | rfl | rfl | rfl | rfl | rfl | rfl
 · exact CB.nil
 · exact CB.nil
 · exact CB.nil
 · exact CB.nil
 · exact (hs.drop 1).snoc h0
 · exact CB.one ho
 · exact CB.one h0
 · exact (hs.drop 1).snoc ho
theorem insV_cb {n:NodeD} {f1 f2 f3 v1 v2 v3:List Int} (hf:CB α β f1 f2 f3) (hv:CB α β v1 v2 v3):CB α β (insV n f1 v1) (insV n f2 v2) (insV n f3 v3):=by
 unfold insV
 split
 · exact CB.one (hf.2.2 _)
 · exact hv.map _
section
variable {p:PatchD} {s1 s2 s3:List (List Int)} {f1 f2 f3:List Int}
theorem lin_at (hp:linP p) {i:Nat} (hi:i < p.2.2.1.length):linK (p.2.2.1.getD i n0).1:=hp _ (getD_mem hi)
theorem outP_cb (hp:linP p) (hs:SB α β s1 s2 s3) (hf:CB α β f1 f2 f3) {v1 v2 v3:List Int} (hv:CB α β v1 v2 v3) {i:Nat} (hi:i < p.2.2.1.length):outP p s3 f3 v3 i=wrap32 (α * outP p s1 f1 v1 i+β * outP p s2 f2 v2 i) :=
 outV_cb (lin_at hp hi) (insV_cb hf hv) (hs.2.2 i)
theorem valsL_cb (hp:linP p) (hs:SB α β s1 s2 s3) (hf:CB α β f1 f2 f3):CB α β (valsL p s1 f1) (valsL p s2 f2) (valsL p s3 f3):=by
 have key :∀k,k≤(ordL p.2.2.1).length→CB α β (valsG p s1 f1 (List.replicate p.2.2.1.length 0) ((ordL p.2.2.1).take k)) (valsG p s2 f2 (List.replicate p.2.2.1.length 0) ((ordL p.2.2.1).take k)) (valsG p s3 f3 (List.replicate p.2.2.1.length 0) ((ordL p.2.2.1).take k)):=by
  intro k
  induction k with
  | zero=>intro _; exact CB.rep _
  | succ k ih =>
    intro hk
    have ih:=ih (by omega)
    rw [valsG_next (by omega),valsG_next (by omega),valsG_next (by omega)]
    obtain ⟨i,h1,h2,_⟩:=ordL_good p.2.2.1 k (by omega)
    rw [h1]
    simp only[valStep,Int.toNat_natCast]
    exact ih.set i (outP_cb hp hs hf ih h2)
 have:=key _ (Nat.le_refl _)
 rwa [List.take_length] at this
theorem nextL_cb (hp:linP p) (hs:SB α β s1 s2 s3) (hf:CB α β f1 f2 f3) {v1 v2 v3:List Int} (hv:CB α β v1 v2 v3):SB α β (nextL p s1 f1 v1) (nextL p s2 f2 v2) (nextL p s3 f3 v3):=by
 refine ⟨by rw [nextL_len,nextL_len],by rw [nextL_len,nextL_len],fun i=>?_⟩
 by_cases hi:i < p.2.2.1.length
 · rw [nextL_at hi,nextL_at hi,nextL_at hi]
   exact nextV_cb (lin_at hp hi) (insV_cb hf hv) (hs.2.2 i) (hv.2.2 i)
 · rw [getD_ge (by rw [nextL_len]; omega),getD_ge (by rw [nextL_len]; omega),getD_ge (by rw [nextL_len]; omega)]; exact CB.nil
theorem outsL_cb {v1 v2 v3:List Int} (hv:CB α β v1 v2 v3):CB α β (outsL p v1) (outsL p v2) (outsL p v3):=hv.map _
end
end
theorem CB.zero {a b c:List Int} (h:CB 0 0 a b c) (j:Nat):c.getD j 0=0:=by have:=h.2.2 j; rw [this]; simp [w32_0]
theorem list_zero {c:List Int} (h :∀j,c.getD j 0=0):c=List.replicate c.length 0:=by
 refine List.ext_getElem (by simp) fun i h1 h2=>?_
 have:=h i
 simp only[List.getD_eq_getElem?_getD,List.getElem?_eq_getElem h1,Option.getD_some] at this
 rw [this]; simp
theorem startV_zero {n:NodeD} (hk:linK n.1) (j:Nat):(startV n).getD j 0=0:=by
 have hr :∀m:Nat,(List.replicate m (0:Int)).getD j 0=0:=fun m=>by
  by_cases hj:j < m
  · simp [List.getD,hj]
  · rw [getD_ge (by simp; omega)]
 unfold startV
 rcases hk with h | h | h | h | h | h | h | h<;>rw [h]<;>simp [-List.getD_eq_getElem?_getD]<;>first | exact hr _ | exact hr 1 | simp
theorem ext_getD {a b:List Int} (hl:a.length=b.length) (h :∀j,a.getD j 0=b.getD j 0):a=b:=by
 refine List.ext_getElem hl fun i h1 h2=>?_
 have:=h i
 simpa only [List.getD_eq_getElem?_getD,List.getElem?_eq_getElem h1,List.getElem?_eq_getElem h2,Option.getD_some] using this
def sg (f:Nat→Int):Nat→Int
 | 0=>0
 | n+1=>sg f n+f n
theorem sg_congr {f g:Nat→Int} :∀{n:Nat},(∀ i,i < n→f i=g i)→sg f n=sg g n:=by
 intro n
 induction n with
 | zero=>intro _; rfl
 | succ n ih=>intro h; simp only[sg]; rw [ih fun i hi=>h i (by omega),h n (by omega)]
def dotN (a b:List Int):Nat→Int
 | 0=>0
 | k+1=>wrap32 (dotN a b k+a.getD k 0 * b.getD k 0)
theorem dotN_eq (a b:List Int) :∀k,dotN a b k=wrap32 (sg (fun i=>a.getD i 0 * b.getD i 0) k):=by
 intro k
 induction k with
 | zero=>simp [dotN,sg,w32_0]
 | succ k ih=>simp only[dotN,sg]; rw [ih,w32_al]
def apM (R S:List (List Int)) (x y:List Int):List Int:=(List.range R.length).map fun i=>wrap32 (dotN (R.getD i []) x (R.getD i []).length+dotN (S.getD i []) y (S.getD i []).length)
theorem apM_len (R S:List (List Int)) (x y:List Int):(apM R S x y).length=R.length:=by simp [apM]
theorem apM_at {R S:List (List Int)} {x y:List Int} {i:Nat} (h:i < R.length):(apM R S x y).getD i 0=wrap32 (dotN (R.getD i []) x (R.getD i []).length+dotN (S.getD i []) y (S.getD i []).length):=by
 simp [apM,List.getD,h]
section
variable {α β:Int}
theorem CB.take {a b c:List Int} (h:CB α β a b c) (n:Nat):CB α β (a.take n) (b.take n) (c.take n):=by
 refine ⟨by simp [h.1],by simp [h.2.1],fun j=>?_⟩
 by_cases hj:j < n
 · have e :∀l:List Int,(l.take n).getD j 0=l.getD j 0:=fun l=>by simp [List.getD,hj]
   rw [e,e,e]; exact h.2.2 j
 · have e :∀l:List Int,(l.take n).getD j 0=0:=fun l=>getD_ge (by rw [List.length_take]; omega)
   rw [e,e,e]; simp [w32_0]
theorem CB.append {a b c a' b' c':List Int} (h:CB α β a b c) (h':CB α β a' b' c'):CB α β (a++a') (b++b') (c++c'):=by
 refine ⟨by simp [h.1,h'.1],by simp [h.2.1,h'.2.1],fun j=>?_⟩
 by_cases hj:j < c.length
 · have e :∀l l':List Int,l.length=c.length→(l++l').getD j 0=l.getD j 0:=fun l l' hl=>by rw [List.getD_eq_getElem?_getD,List.getElem?_append_left (by omega)]; rfl
   rw [e _ _ h.1,e _ _ h.2.1,e _ _ rfl]; exact h.2.2 j
 · have e :∀l l':List Int,l.length=c.length→(l++l').getD j 0=l'.getD (j - c.length) 0:=fun l l' hl=>by rw [List.getD_eq_getElem?_getD,List.getElem?_append_right (by omega),hl]; rfl
   rw [e _ _ h.1,e _ _ h.2.1,e _ _ rfl]; exact h'.2.2 _
theorem SB.flat :∀{s1 s2 s3:List (List Int)},SB α β s1 s2 s3→CB α β s1.flatten s2.flatten s3.flatten:=by
 intro s1
 induction s1 with
 | nil =>
   intro s2 s3 h
   have h3:s3=[]:=List.eq_nil_of_length_eq_zero (by simpa using h.1.symm)
   have h2:s2=[]:=List.eq_nil_of_length_eq_zero (by rw [h.2.1,h3]; rfl)
   subst h3; subst h2; exact CB.nil
 | cons x s1 ih =>
   intro s2 s3 h
   cases s3 with
   | nil=>have:=h.1; simp at this
   | cons z s3 =>
     cases s2 with
     | nil=>have:=h.2.1; simp at this
     | cons y s2 =>
       simp only[List.flatten_cons]
       exact CB.append (h.2.2 0) (ih ⟨by simpa using h.1,by simpa using h.2.1,fun i=>h.2.2 (i+1)⟩)
theorem setS_cb :∀(ns:List NodeD) {a b c:List Int},CB α β a b c→SB α β (setS ns a) (setS ns b) (setS ns c):=by
 intro ns
 induction ns with
 | nil=>intro a b c _; exact ⟨rfl,rfl,fun i=>by simp only[setS,List.getD_nil]; exact CB.nil⟩
 | cons n ns ih =>
   intro a b c h
   have hi:=ih (h.drop (startV n).length)
   refine ⟨by rw [setS_len,setS_len],by rw [setS_len,setS_len],fun i=>?_⟩
   cases i with
   | zero=>exact h.take _
   | succ i=>exact hi.2.2 i
theorem colM_cb {q:PatchD} (hp:linP q) {c1 c2 c3 f1 f2 f3:List Int} (hc:CB α β c1 c2 c3) (hf:CB α β f1 f2 f3) :
 CB α β (colM q c1 f1).1 (colM q c2 f2).1 (colM q c3 f3).1∧CB α β (colM q c1 f1).2 (colM q c2 f2).2 (colM q c3 f3).2:=by
 have hs:=setS_cb q.2.2.1 hc
 have hv:=valsL_cb hp hs hf
 exact ⟨SB.flat (nextL_cb hp hs hf hv),outsL_cb hv⟩
end
def preZ (c:List Int) (k:Nat):List Int:=(List.range c.length).map fun j=>if j < k then c.getD j 0 else 0
theorem preZ_len (c:List Int) (k:Nat):(preZ c k).length=c.length:=by simp [preZ]
theorem preZ_at (c:List Int) (k j:Nat):(preZ c k).getD j 0=if j < k then c.getD j 0 else 0:=by
 by_cases hj:j < c.length
 · simp [preZ,List.getD,hj]
 · rw [getD_ge (by rw [preZ_len]; omega),getD_ge (by omega)]; simp
theorem zerL_at (n j:Nat):(zerL n).getD j 0=0:=by
 by_cases hj:j < n
 · simp [zerL,List.getD,hj]
 · exact getD_ge (by simp [zerL]; omega)
theorem unitL_at {n i:Nat} (hi:i < n) (j:Nat):(unitL n i).getD j 0=if i=j then 1 else 0:=by
 unfold unitL
 rw [getD_set (by rw [(zerL_ok n).1]; exact hi),zerL_at]
theorem preZ_zero (c:List Int):preZ c 0=zerL c.length:=ext_getD (by rw [preZ_len,(zerL_ok _).1]) fun j=>by rw [preZ_at,zerL_at]; simp
theorem preZ_all (c:List Int):preZ c c.length=c:=ext_getD (preZ_len _ _) fun j=>by
 rw [preZ_at]
 split
 · rfl
 · rw [getD_ge (by omega)]
theorem smp_at {c:List Int} (h:smps c=true) (j:Nat):wrap32 (c.getD j 0)=c.getD j 0:=by
 by_cases hj:j < c.length
 · exact wrap32_of _ (smp_iff.1 (smps_iff.1 h _ (getD_mem hj)))
 · rw [getD_ge (by omega)]; exact w32_0
theorem preZ_next {c:List Int} (hs:smps c=true) {k:Nat} (hk:k < c.length):CB 1 (c.getD k 0) (preZ c k) (unitL c.length k) (preZ c (k+1)):=by
 refine ⟨by rw [preZ_len,preZ_len],by rw [preZ_len,(unitL_ok _ _).1],fun j=>?_⟩
 rw [preZ_at,preZ_at,unitL_at hk]
 by_cases h1:j < k
 · rw [if_pos (by omega),if_pos h1,if_neg (by omega)]
   simp only[Int.one_mul,Int.mul_zero,Int.add_zero]
   exact (smp_at hs j).symm
 · by_cases h2:k=j
   · subst h2
     rw [if_pos (by omega),if_neg (by omega),if_pos rfl]
     simp only[Int.mul_zero,Int.zero_add,Int.mul_one]
     exact (smp_at hs k).symm
   · rw [if_neg (by omega),if_neg h1,if_neg h2]; simp [w32_0]
theorem CB.zeros (n:Nat) (α β:Int):CB α β (zerL n) (zerL n) (zerL n):=CB.rep n
section
variable {q:PatchD} (hp:linP q)
include hp
theorem colM_zero (m n j:Nat):(colM q (zerL m) (zerL n)).1.getD j 0=0∧(colM q (zerL m) (zerL n)).2.getD j 0=0 :=
 ⟨(colM_cb hp (CB.zeros m 0 0) (CB.zeros n 0 0)).1.zero j,(colM_cb hp (CB.zeros m 0 0) (CB.zeros n 0 0)).2.zero j⟩
theorem colM_st {c:List Int} (hs:smps c=true) (n j:Nat) :∀k,k≤c.length →
 (colM q (preZ c k) (zerL n)).1.getD j 0=wrap32 (sg (fun i=>(colM q (unitL c.length i) (zerL n)).1.getD j 0 * c.getD i 0) k) ∧
 (colM q (preZ c k) (zerL n)).2.getD j 0=wrap32 (sg (fun i=>(colM q (unitL c.length i) (zerL n)).2.getD j 0 * c.getD i 0) k):=by
 intro k
 induction k with
 | zero=>intro _; rw [preZ_zero,(colM_zero hp _ _ _).1,(colM_zero hp _ _ _).2]; simp [sg,w32_0]
 | succ k ih =>
   intro hk
   obtain ⟨h1,h2⟩:=ih (by omega)
   obtain ⟨g1,g2⟩:=colM_cb hp (preZ_next hs (k:=k) (by omega)) (CB.zeros n 1 (c.getD k 0))
   rw [g1.2.2 j,g2.2.2 j,h1,h2]
   simp only[Int.one_mul,w32_al,sg]
   exact ⟨by rw [Int.mul_comm (c.getD k 0)],by rw [Int.mul_comm (c.getD k 0)]⟩
theorem colM_in {c:List Int} (hs:smps c=true) (m j:Nat) :∀k,k≤c.length →
 (colM q (zerL m) (preZ c k)).1.getD j 0=wrap32 (sg (fun i=>(colM q (zerL m) (unitL c.length i)).1.getD j 0 * c.getD i 0) k) ∧
 (colM q (zerL m) (preZ c k)).2.getD j 0=wrap32 (sg (fun i=>(colM q (zerL m) (unitL c.length i)).2.getD j 0 * c.getD i 0) k):=by
 intro k
 induction k with
 | zero=>intro _; rw [preZ_zero,(colM_zero hp _ _ _).1,(colM_zero hp _ _ _).2]; simp [sg,w32_0]
 | succ k ih =>
   intro hk
   obtain ⟨h1,h2⟩:=ih (by omega)
   obtain ⟨g1,g2⟩:=colM_cb hp (CB.zeros m 1 (c.getD k 0)) (preZ_next hs (k:=k) (by omega))
   rw [g1.2.2 j,g2.2.2 j,h1,h2]
   simp only[Int.one_mul,w32_al,sg]
   exact ⟨by rw [Int.mul_comm (c.getD k 0)],by rw [Int.mul_comm (c.getD k 0)]⟩
theorem colM_lin {c f:List Int} (hs:smps c=true) (hf:smps f=true) (j:Nat) :
 (colM q c f).1.getD j 0=wrap32 (wrap32 (sg (fun i=>(colM q (unitL c.length i) (zerL f.length)).1.getD j 0 * c.getD i 0) c.length)+wrap32 (sg (fun i=>(colM q (zerL c.length) (unitL f.length i)).1.getD j 0 * f.getD i 0) f.length)) ∧
 (colM q c f).2.getD j 0=wrap32 (wrap32 (sg (fun i=>(colM q (unitL c.length i) (zerL f.length)).2.getD j 0 * c.getD i 0) c.length)+wrap32 (sg (fun i=>(colM q (zerL c.length) (unitL f.length i)).2.getD j 0 * f.getD i 0) f.length)):=by
 have hc:CB 1 1 c (zerL c.length) c:=⟨rfl,(zerL_ok _).1,fun j=>by rw [zerL_at,Int.mul_zero,Int.add_zero,Int.one_mul,smp_at hs j]⟩
 have hg:CB 1 1 (zerL f.length) f f:=⟨(zerL_ok _).1,rfl,fun j=>by rw [zerL_at,Int.mul_zero,Int.zero_add,Int.one_mul,smp_at hf j]⟩
 obtain ⟨g1,g2⟩:=colM_cb hp hc hg
 have a:=colM_st hp hs f.length j c.length (Nat.le_refl _)
 have b:=colM_in hp hf c.length j f.length (Nat.le_refl _)
 rw [preZ_all] at a b
 rw [g1.2.2 j,g2.2.2 j,a.1,a.2,b.1,b.2]
 simp only[Int.one_mul,and_self]
end
theorem matC_dot {f:Nat→List Int} {rows wd i:Nat} (h:i < rows) (x:List Int):dotN ((matC f rows wd).getD i []) x ((matC f rows wd).getD i []).length=wrap32 (sg (fun j=>(f j).getD i 0 * x.getD j 0) wd):=by
 rw [dotN_eq,matC_at h]
 simp only[List.length_map,List.length_range]
 congr 1
 exact sg_congr fun j hj=>by simp [List.getD,hj]
theorem lin_step {q:PatchD} (hF:formedB q=true) (hp:linP q) {c f:List Int} (hc:c.length=cellN q.2.2.1) (hs:smps c=true) (hl:(f.length:Int)=q.1) (hf:smps f=true) :
 (colM q c f).1=apM (linM q).2.1 (linM q).2.2.1 c f∧(colM q c f).2=apM (linM q).2.2.2.1 (linM q).2.2.2.2 c f:=by
 obtain ⟨l1,l2⟩:=colM_len hF hc hs hf
 have hq:q.1.toNat=f.length:=by omega
 constructor
 · refine ext_getD (by rw [l1,apM_len]; simp [linM,matC]) fun j=>?_
   by_cases hj:j < cellN q.2.2.1
   · rw [(colM_lin hp hs hf j).1,apM_at (by simp [linM,matC,hj])]
     simp only[linM]
     rw [matC_dot hj,matC_dot hj]
     simp only[stC,inC,hq,hc]
   · rw [getD_ge (by omega),getD_ge (by rw [apM_len]; simp [linM,matC]; omega)]
 · refine ext_getD (by rw [l2,apM_len]; simp [linM,matC]) fun j=>?_
   by_cases hj:j < q.2.2.2.length
   · rw [(colM_lin hp hs hf j).2,apM_at (by simp [linM,matC,hj])]
     simp only[linM]
     rw [matC_dot hj,matC_dot hj]
     simp only[stC,inC,hq,hc]
   · rw [getD_ge (by omega),getD_ge (by rw [apM_len]; simp [linM,matC]; omega)]
end Go.Proofs.YtflaacndokbddaaGreat
