/-
  Texts of this claim, joined (part 20). No condition beyond those of the theorems.
-/
import Derived.Test.YtflaacndokbddaaGreatVd18
import Derived.Test.YtflaacndokbddaaGreatVd19
namespace Go.Proofs.YtflaacndokbddaaGreat
open Go.RowKit
set_option linter.unusedSimpArgs false
set_option linter.unusedVariables false
def sg (f:Nat→Int):Nat→Int
 | 0=>0
 | n+1=>sg f n+f n
theorem sg_congr {f g:Nat→Int} :∀{n:Nat},(∀ i,i < n→f i=g i)→sg f n=sg g n:=by
 intro n
 induction n with
 | zero=>intro _; rfl
 | succ n ih=>intro h; simp only[sg]; rw [ih fun i hi=>h i (by omega),h n (by omega)]
def dotN (a b:List Int):Nat→Int
 | 0=>0
 | k+1=>wrap32 (dotN a b k+a.getD k 0 * b.getD k 0)
theorem dotN_eq (a b:List Int) :∀k,dotN a b k=wrap32 (sg (fun i=>a.getD i 0 * b.getD i 0) k):=by
 intro k
 induction k with
 | zero=>simp [dotN,sg,w32_0]
 | succ k ih=>simp only[dotN,sg]; rw [ih,w32_al]
def apM (R S:List (List Int)) (x y:List Int):List Int:=(List.range R.length).map fun i=>wrap32 (dotN (R.getD i []) x (R.getD i []).length+dotN (S.getD i []) y (S.getD i []).length)
theorem apM_len (R S:List (List Int)) (x y:List Int):(apM R S x y).length=R.length:=by simp [apM]
theorem apM_at {R S:List (List Int)} {x y:List Int} {i:Nat} (h:i < R.length):(apM R S x y).getD i 0=wrap32 (dotN (R.getD i []) x (R.getD i []).length+dotN (S.getD i []) y (S.getD i []).length):=by
 simp [apM,List.getD,h]
section
variable {α β:Int}
theorem CB.take {a b c:List Int} (h:CB α β a b c) (n:Nat):CB α β (a.take n) (b.take n) (c.take n):=by
 refine ⟨by simp [h.1],by simp [h.2.1],fun j=>?_⟩
 by_cases hj:j < n
 · have e :∀l:List Int,(l.take n).getD j 0=l.getD j 0:=fun l=>by simp [List.getD,hj]
   rw [e,e,e]; exact h.2.2 j
 · have e :∀l:List Int,(l.take n).getD j 0=0:=fun l=>getD_ge (by rw [List.length_take]; omega)
   rw [e,e,e]; simp [w32_0]
theorem CB.append {a b c a' b' c':List Int} (h:CB α β a b c) (h':CB α β a' b' c'):CB α β (a++a') (b++b') (c++c'):=by
 refine ⟨by simp [h.1,h'.1],by simp [h.2.1,h'.2.1],fun j=>?_⟩
 by_cases hj:j < c.length
 · have e :∀l l':List Int,l.length=c.length→(l++l').getD j 0=l.getD j 0:=fun l l' hl=>by rw [List.getD_eq_getElem?_getD,List.getElem?_append_left (by omega)]; rfl
   rw [e _ _ h.1,e _ _ h.2.1,e _ _ rfl]; exact h.2.2 j
 · have e :∀l l':List Int,l.length=c.length→(l++l').getD j 0=l'.getD (j - c.length) 0:=fun l l' hl=>by rw [List.getD_eq_getElem?_getD,List.getElem?_append_right (by omega),hl]; rfl
   rw [e _ _ h.1,e _ _ h.2.1,e _ _ rfl]; exact h'.2.2 _
theorem SB.flat :∀{s1 s2 s3:List (List Int)},SB α β s1 s2 s3→CB α β s1.flatten s2.flatten s3.flatten:=by
 intro s1
 induction s1 with
 | nil =>
   intro s2 s3 h
   have h3:s3=[]:=List.eq_nil_of_length_eq_zero (by simpa using h.1.symm)
   have h2:s2=[]:=List.eq_nil_of_length_eq_zero (by rw [h.2.1,h3]; rfl)
   subst h3; subst h2; exact CB.nil
 | cons x s1 ih =>
   intro s2 s3 h
   cases s3 with
   | nil=>have:=h.1; simp at this
   | cons z s3 =>
     cases s2 with
     | nil=>have:=h.2.1; simp at this
     | cons y s2 =>
       simp only[List.flatten_cons]
       exact CB.append (h.2.2 0) (ih ⟨by simpa using h.1,by simpa using h.2.1,fun i=>h.2.2 (i+1)⟩)
theorem setS_cb :∀(ns:List NodeD) {a b c:List Int},CB α β a b c→SB α β (setS ns a) (setS ns b) (setS ns c):=by
 intro ns
 induction ns with
 | nil=>intro a b c _; exact ⟨rfl,rfl,fun i=>by simp only[setS,List.getD_nil]; exact CB.nil⟩
 | cons n ns ih =>
   intro a b c h
   have hi:=ih (h.drop (startV n).length)
   refine ⟨by rw [setS_len,setS_len],by rw [setS_len,setS_len],fun i=>?_⟩
   cases i with
   | zero=>exact h.take _
   | succ i=>exact hi.2.2 i
theorem colM_cb {q:PatchD} (hp:linP q) {c1 c2 c3 f1 f2 f3:List Int} (hc:CB α β c1 c2 c3) (hf:CB α β f1 f2 f3) :
 CB α β (colM q c1 f1).1 (colM q c2 f2).1 (colM q c3 f3).1∧CB α β (colM q c1 f1).2 (colM q c2 f2).2 (colM q c3 f3).2:=by
 have hs:=setS_cb q.2.2.1 hc
 have hv:=valsL_cb hp hs hf
 exact ⟨SB.flat (nextL_cb hp hs hf hv),outsL_cb hv⟩
end
def preZ (c:List Int) (k:Nat):List Int:=(List.range c.length).map fun j=>if j < k then c.getD j 0 else 0
theorem preZ_len (c:List Int) (k:Nat):(preZ c k).length=c.length:=by simp [preZ]
theorem preZ_at (c:List Int) (k j:Nat):(preZ c k).getD j 0=if j < k then c.getD j 0 else 0:=by
 by_cases hj:j < c.length
 · simp [preZ,List.getD,hj]
 · rw [getD_ge (by rw [preZ_len]; omega),getD_ge (by omega)]; simp
theorem zerL_at (n j:Nat):(zerL n).getD j 0=0:=by
 by_cases hj:j < n
 · simp [zerL,List.getD,hj]
 · exact getD_ge (by simp [zerL]; omega)
theorem unitL_at {n i:Nat} (hi:i < n) (j:Nat):(unitL n i).getD j 0=if i=j then 1 else 0:=by
 unfold unitL
 rw [getD_set (by rw [(zerL_ok n).1]; exact hi),zerL_at]
theorem preZ_zero (c:List Int):preZ c 0=zerL c.length:=ext_getD (by rw [preZ_len,(zerL_ok _).1]) fun j=>by rw [preZ_at,zerL_at]; simp
theorem preZ_all (c:List Int):preZ c c.length=c:=ext_getD (preZ_len _ _) fun j=>by
 rw [preZ_at]
 split
 · rfl
 · rw [getD_ge (by omega)]
theorem smp_at {c:List Int} (h:smps c=true) (j:Nat):wrap32 (c.getD j 0)=c.getD j 0:=by
 by_cases hj:j < c.length
 · exact wrap32_of _ (smp_iff.1 (smps_iff.1 h _ (getD_mem hj)))
 · rw [getD_ge (by omega)]; exact w32_0
theorem preZ_next {c:List Int} (hs:smps c=true) {k:Nat} (hk:k < c.length):CB 1 (c.getD k 0) (preZ c k) (unitL c.length k) (preZ c (k+1)):=by
 refine ⟨by rw [preZ_len,preZ_len],by rw [preZ_len,(unitL_ok _ _).1],fun j=>?_⟩
 rw [preZ_at,preZ_at,unitL_at hk]
 by_cases h1:j < k
 · rw [if_pos (by omega),if_pos h1,if_neg (by omega)]
   simp only[Int.one_mul,Int.mul_zero,Int.add_zero]
   exact (smp_at hs j).symm
 · by_cases h2:k=j
   · subst h2
     rw [if_pos (by omega),if_neg (by omega),if_pos rfl]
     simp only[Int.mul_zero,Int.zero_add,Int.mul_one]
     exact (smp_at hs k).symm
   · rw [if_neg (by omega),if_neg h1,if_neg h2]; simp [w32_0]
theorem CB.zeros (n:Nat) (α β:Int):CB α β (zerL n) (zerL n) (zerL n):=CB.rep n
section
variable {q:PatchD} (hp:linP q)
include hp
theorem colM_zero (m n j:Nat):(colM q (zerL m) (zerL n)).1.getD j 0=0∧(colM q (zerL m) (zerL n)).2.getD j 0=0 :=
 ⟨(colM_cb hp (CB.zeros m 0 0) (CB.zeros n 0 0)).1.zero j,(colM_cb hp (CB.zeros m 0 0) (CB.zeros n 0 0)).2.zero j⟩
theorem colM_st {c:List Int} (hs:smps c=true) (n j:Nat) :∀k,k≤c.length →
 (colM q (preZ c k) (zerL n)).1.getD j 0=wrap32 (sg (fun i=>(colM q (unitL c.length i) (zerL n)).1.getD j 0 * c.getD i 0) k) ∧
 (colM q (preZ c k) (zerL n)).2.getD j 0=wrap32 (sg (fun i=>(colM q (unitL c.length i) (zerL n)).2.getD j 0 * c.getD i 0) k):=by
 intro k
 induction k with
 | zero=>intro _; rw [preZ_zero,(colM_zero hp _ _ _).1,(colM_zero hp _ _ _).2]; simp [sg,w32_0]
 | succ k ih =>
   intro hk
   obtain ⟨h1,h2⟩:=ih (by omega)
   obtain ⟨g1,g2⟩:=colM_cb hp (preZ_next hs (k:=k) (by omega)) (CB.zeros n 1 (c.getD k 0))
   rw [g1.2.2 j,g2.2.2 j,h1,h2]
   simp only[Int.one_mul,w32_al,sg]
   exact ⟨by rw [Int.mul_comm (c.getD k 0)],by rw [Int.mul_comm (c.getD k 0)]⟩
theorem colM_in {c:List Int} (hs:smps c=true) (m j:Nat) :∀k,k≤c.length →
 (colM q (zerL m) (preZ c k)).1.getD j 0=wrap32 (sg (fun i=>(colM q (zerL m) (unitL c.length i)).1.getD j 0 * c.getD i 0) k) ∧
 (colM q (zerL m) (preZ c k)).2.getD j 0=wrap32 (sg (fun i=>(colM q (zerL m) (unitL c.length i)).2.getD j 0 * c.getD i 0) k):=by
 intro k
 induction k with
 | zero=>intro _; rw [preZ_zero,(colM_zero hp _ _ _).1,(colM_zero hp _ _ _).2]; simp [sg,w32_0]
 | succ k ih =>
   intro hk
   obtain ⟨h1,h2⟩:=ih (by omega)
   obtain ⟨g1,g2⟩:=colM_cb hp (CB.zeros m 1 (c.getD k 0)) (preZ_next hs (k:=k) (by omega))
   rw [g1.2.2 j,g2.2.2 j,h1,h2]
   simp only[Int.one_mul,w32_al,sg]
   exact ⟨by rw [Int.mul_comm (c.getD k 0)],by rw [Int.mul_comm (c.getD k 0)]⟩
theorem colM_lin {c f:List Int} (hs:smps c=true) (hf:smps f=true) (j:Nat) :
 (colM q c f).1.getD j 0=wrap32 (wrap32 (sg (fun i=>(colM q (unitL c.length i) (zerL f.length)).1.getD j 0 * c.getD i 0) c.length)+wrap32 (sg (fun i=>(colM q (zerL c.length) (unitL f.length i)).1.getD j 0 * f.getD i 0) f.length)) ∧
 (colM q c f).2.getD j 0=wrap32 (wrap32 (sg (fun i=>(colM q (unitL c.length i) (zerL f.length)).2.getD j 0 * c.getD i 0) c.length)+wrap32 (sg (fun i=>(colM q (zerL c.length) (unitL f.length i)).2.getD j 0 * f.getD i 0) f.length)):=by
 have hc:CB 1 1 c (zerL c.length) c:=⟨rfl,(zerL_ok _).1,fun j=>by rw [zerL_at,Int.mul_zero,Int.add_zero,Int.one_mul,smp_at hs j]⟩
 have hg:CB 1 1 (zerL f.length) f f:=⟨(zerL_ok _).1,rfl,fun j=>by rw [zerL_at,Int.mul_zero,Int.zero_add,Int.one_mul,smp_at hf j]⟩
 obtain ⟨g1,g2⟩:=colM_cb hp hc hg
 have a:=colM_st hp hs f.length j c.length (Nat.le_refl _)
 have b:=colM_in hp hf c.length j f.length (Nat.le_refl _)
 rw [preZ_all] at a b
 rw [g1.2.2 j,g2.2.2 j,a.1,a.2,b.1,b.2]
 simp only[Int.one_mul,and_self]
end
theorem matC_dot {f:Nat→List Int} {rows wd i:Nat} (h:i < rows) (x:List Int):dotN ((matC f rows wd).getD i []) x ((matC f rows wd).getD i []).length=wrap32 (sg (fun j=>(f j).getD i 0 * x.getD j 0) wd):=by
 rw [dotN_eq,matC_at h]
 simp only[List.length_map,List.length_range]
 congr 1
 exact sg_congr fun j hj=>by simp [List.getD,hj]
theorem lin_step {q:PatchD} (hF:formedB q=true) (hp:linP q) {c f:List Int} (hc:c.length=cellN q.2.2.1) (hs:smps c=true) (hl:(f.length:Int)=q.1) (hf:smps f=true) :
 (colM q c f).1=apM (linM q).2.1 (linM q).2.2.1 c f∧(colM q c f).2=apM (linM q).2.2.2.1 (linM q).2.2.2.2 c f:=by
 obtain ⟨l1,l2⟩:=colM_len hF hc hs hf
 have hq:q.1.toNat=f.length:=by omega
 constructor
 · refine ext_getD (by rw [l1,apM_len]; simp [linM,matC]) fun j=>?_
   by_cases hj:j < cellN q.2.2.1
   · rw [(colM_lin hp hs hf j).1,apM_at (by simp [linM,matC,hj])]
     simp only[linM]
     rw [matC_dot hj,matC_dot hj]
     simp only[stC,inC,hq,hc]
   · rw [getD_ge (by omega),getD_ge (by rw [apM_len]; simp [linM,matC]; omega)]
 · refine ext_getD (by rw [l2,apM_len]; simp [linM,matC]) fun j=>?_
   by_cases hj:j < q.2.2.2.length
   · rw [(colM_lin hp hs hf j).2,apM_at (by simp [linM,matC,hj])]
     simp only[linM]
     rw [matC_dot hj,matC_dot hj]
     simp only[stC,inC,hq,hc]
   · rw [getD_ge (by omega),getD_ge (by rw [apM_len]; simp [linM,matC]; omega)]
/-! Power series. -/
/-! Powers of a matrix applied to a vector: only the first n numbers count. -/
/-! Numbers i and i + 1 exchanged. -/
/-! The theorem. -/
def tl (l:List Int):Nat→Nat
 | 0=>0
 | n+1=>match decide (l.getD n 0=0) with
   | true=>tl l n
   | false=>n+1
/-! The characteristic polynomial. -/
theorem range_at (f:Nat→Int) {n i:Nat} (h:i < n):((List.range n).map f).getD i 0=f i:=by simp [List.getD,h]
def rowsOk (R:List (List Int)) (m n:Nat):Prop:=R.length=m∧∀ i,i < m→(R.getD i []).length=n∧smps (R.getD i [])=true
structure linW (x:LinD) (n:Nat):Prop where
 a:rowsOk x.2.1 n n
 b:rowsOk x.2.2.1 n x.1.toNat
 c:rowsOk x.2.2.2.1 x.2.2.2.1.length n
 d:rowsOk x.2.2.2.2 x.2.2.2.1.length x.1.toNat
 i0:0≤x.1
 i4:x.1≤4
theorem matC_ok {f:Nat→List Int} {m n:Nat} (h :∀j,j < n→(f j).length=m∧smps (f j)=true):rowsOk (matC f m n) m n:=by
 refine ⟨matC_len _ _ _,fun i hi=>?_⟩
 rw [matC_at hi]
 refine ⟨by simp,smps_iff.2 fun z hz=>?_⟩
 obtain ⟨j,hj,rfl⟩:=List.mem_map.1 hz
 have hj:=List.mem_range.1 hj
 obtain ⟨h1,h2⟩:=h j hj
 exact smps_iff.1 h2 _ (getD_mem (by omega))
theorem colM_smp {q:PatchD} (hF:formedB q=true) {c fr:List Int} (hc:c.length=cellN q.2.2.1) (hs:smps c=true) (hf:smps fr=true):smps (colM q c fr).1=true∧smps (colM q c fr).2=true:=by
 have hS:=setS_ok (q:=q) hc hs
 have hv:=valsL_ok' hF hS hf
 refine ⟨smps_iff.2 fun z hz=>?_,smps_iff.2 fun z hz=>?_⟩
 · obtain ⟨l,hl,hz⟩:=List.mem_flatten.1 hz
   have hn:=nextL_ok hF hS hf hv
   obtain ⟨i,hi,rfl⟩:=List.mem_iff_getElem.1 hl
   have hi':i < q.2.2.1.length:=by rw [← hn.1]; exact hi
   have h2:=(hn.2 i hi').2
   have e:(nextL q (setS q.2.2.1 c) fr (valsL q (setS q.2.2.1 c) fr)).getD i []=(nextL q (setS q.2.2.1 c) fr (valsL q (setS q.2.2.1 c) fr))[i]:=by simp [List.getD,hi]
   rw [e] at h2
   exact smps_iff.1 h2 _ hz
 · simp only[colM,outsL,List.mem_map] at hz
   obtain ⟨i,hi,rfl⟩:=hz
   exact smps_at hv.2 _
theorem linM_w {q:PatchD} (hF:formedB q=true):linW (linM q) (cellN q.2.2.1):=by
 have hi:=(formedB_parts hF).2.2.2
 have hu :∀n j,(unitL n j).length=n∧smps (unitL n j)=true:=unitL_ok
 have hz:=zerL_ok
 have s1 :∀j,(stC q j).1.length=cellN q.2.2.1∧(stC q j).2.length=q.2.2.2.length:=fun j=>colM_len hF (hu _ _).1 (hu _ _).2 (hz _).2
 have s2 :∀j,(inC q j).1.length=cellN q.2.2.1∧(inC q j).2.length=q.2.2.2.length:=fun j=>colM_len hF (hz _).1 (hz _).2 (hu _ _).2
 have t1 :∀j,smps (stC q j).1=true∧smps (stC q j).2=true:=fun j=>colM_smp hF (hu _ _).1 (hu _ _).2 (hz _).2
 have t2 :∀j,smps (inC q j).1=true∧smps (inC q j).2=true:=fun j=>colM_smp hF (hz _).1 (hz _).2 (hu _ _).2
 have ho:(linM q).2.2.2.1.length=q.2.2.2.length:=matC_len _ _ _
 refine ⟨matC_ok fun j _=>⟨(s1 j).1,(t1 j).1⟩,matC_ok fun j _=>⟨(s2 j).1,(t2 j).1⟩,?_,?_,hi.1,hi.2.1⟩
 · rw [ho]; exact matC_ok fun j _=>⟨(s1 j).2,(t1 j).2⟩
 · rw [ho]; exact matC_ok fun j _=>⟨(s2 j).2,(t2 j).2⟩
abbrev TrD:=List Int × List Int
/-! A patch's render is its system's. -/
theorem flat_set :∀{ns:List NodeD} {s:List (List Int)},s.length=ns.length→(∀ i,i < ns.length→(s.getD i []).length=(startV (ns.getD i n0)).length)→setS ns s.flatten=s:=by
 intro ns
 induction ns with
 | nil=>intro s h _; rw [List.eq_nil_of_length_eq_zero h]; rfl
 | cons n ns ih =>
   intro s h hl
   cases s with
   | nil=>simp at h
   | cons a s =>
     have h0:a.length=(startV n).length:=hl 0 (by simp)
     simp only[List.flatten_cons,setS]
     rw [← h0,List.take_left',List.drop_left']
     · rw [ih (by simpa using h) fun i hi=>hl (i+1) (by simpa using hi)]
     · rfl
     · rfl
theorem flat_setS {q:PatchD} {s:List (List Int)} (h:StOk q s):setS q.2.2.1 s.flatten=s:=flat_set h.1 fun i hi=>(h.2 i hi).1
theorem startV_len0 {n:NodeD} (hk:linK n.1):startV n=zerL (startV n).length:=list_zero (startV_zero hk)
theorem start_flat {q:PatchD} (hp:linP q):(startL q).flatten=zerL (cellN q.2.2.1):=by
 unfold startL cellN
 have :∀ns:List NodeD,(∀ nd∈ns,linK nd.1)→(ns.map startV).flatten=zerL (ns.map fun n=>(startV n).length).sum:=by
  intro ns
  induction ns with
  | nil=>intro _; rfl
  | cons n ns ih =>
    intro h
    simp only[List.map_cons,List.flatten_cons,List.sum_cons]
    rw [ih fun nd hd=>h nd (List.mem_cons_of_mem _ hd)]
    have h1:=startV_len0 (h n (List.mem_cons_self))
    rw [h1]
    simp only[zerL,List.length_replicate,List.replicate_append_replicate]
 exact this _ hp
section
variable {q:PatchD} (hF:formedB q=true) (hp:linP q) {ins:List (List Int)} (hin:insOk q ins)
include hF hp hin
theorem st_step (t:Nat):(stN q ins (t+1)).flatten=apM (linM q).2.1 (linM q).2.2.1 (stN q ins t).flatten (frameAt ins (t:Int))∧outsL q (valN q ins t)=apM (linM q).2.2.2.1 (linM q).2.2.2.2 (stN q ins t).flatten (frameAt ins (t:Int)):=by
 have hS:=stN_ok hF hin t
 obtain ⟨f1,f2⟩:=frameAt_ok (p:=q) hin (t:Int)
 have hsm:smps (stN q ins t).flatten=true:=smps_iff.2 fun z hz=>by
  obtain ⟨l,hl,hz⟩:=List.mem_flatten.1 hz
  obtain ⟨i,hi,rfl⟩:=List.mem_iff_getElem.1 hl
  have hi':i < q.2.2.1.length:=by rw [← hS.1]; exact hi
  have h2:=(hS.2 i hi').2
  have e:(stN q ins t).getD i []=(stN q ins t)[i]:=by simp [List.getD,hi]
  rw [e] at h2
  exact smps_iff.1 h2 _ hz
 have h:=lin_step hF hp (c:=(stN q ins t).flatten) (f:=frameAt ins (t:Int)) (flat_len hS) hsm f1 f2
 rw [← h.1,← h.2]
 unfold colM
 rw [flat_setS hS,stN_next]
 exact ⟨rfl,rfl⟩
end
theorem linP_of {p:PatchD} (h:(p.2.2.1.all fun n=>linKB n.1)=true):linP p:=fun nd hd=>by
 have:=List.all_eq_true.1 h nd hd
 have this:linKB nd.1=true:=this
 unfold linKB at this
 unfold linK
 simp only[List.contains_cons,List.contains_nil,Bool.or_eq_true,beq_iff_eq,Bool.or_false] at this
 omega
theorem trim_linP {p:PatchD} (h:linB p=true):linP (trimP p):=linP_of (by rw [trim_lin]; exact h)
end Go.Proofs.YtflaacndokbddaaGreat
