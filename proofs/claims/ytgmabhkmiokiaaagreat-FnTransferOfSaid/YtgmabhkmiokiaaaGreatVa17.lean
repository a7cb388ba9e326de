/-
  Texts of this claim, joined (part 17). No condition beyond those of the theorems.
-/
import Derived.Test.YtgmabhkmiokiaaaGreatVa15
import Derived.Test.YtgmabhkmiokiaaaGreatVa16
namespace Go.Proofs.YtgmabhkmiokiaaaGreat
open Go.RowKit
set_option linter.unusedSimpArgs false
set_option linter.unusedVariables false
def sg (f:Nat→Int):Nat→Int
 | 0=>0
 | n+1=>sg f n+f n
theorem sg_congr {f g:Nat→Int} :∀{n:Nat},(∀ i,i < n→f i=g i)→sg f n=sg g n:=by
 intro n
 induction n with
 | zero=>intro _; rfl
 | succ n ih=>intro h; simp only[sg]; rw [ih fun i hi=>h i (by omega),h n (by omega)]
def dotN (a b:List Int):Nat→Int
 | 0=>0
 | k+1=>wrap32 (dotN a b k+a.getD k 0 * b.getD k 0)
theorem w32_w32 (a:Int):wrap32 (wrap32 a)=wrap32 a:=by have:=w32_al a 0; simpa using this
theorem dotN_eq (a b:List Int) :∀k,dotN a b k=wrap32 (sg (fun i=>a.getD i 0 * b.getD i 0) k):=by
 intro k
 induction k with
 | zero=>simp [dotN,sg,w32_0]
 | succ k ih=>simp only[dotN,sg]; rw [ih,w32_al]
def apM (R S:List (List Int)) (x y:List Int):List Int:=(List.range R.length).map fun i=>wrap32 (dotN (R.getD i []) x (R.getD i []).length+dotN (S.getD i []) y (S.getD i []).length)
theorem apM_len (R S:List (List Int)) (x y:List Int):(apM R S x y).length=R.length:=by simp [apM]
theorem apM_at {R S:List (List Int)} {x y:List Int} {i:Nat} (h:i < R.length):(apM R S x y).getD i 0=wrap32 (dotN (R.getD i []) x (R.getD i []).length+dotN (S.getD i []) y (S.getD i []).length):=by
 simp [apM,List.getD,h]
section
variable {α β:Int}
theorem CB.take {a b c:List Int} (h:CB α β a b c) (n:Nat):CB α β (a.take n) (b.take n) (c.take n):=by
 refine ⟨by simp [h.1],by simp [h.2.1],fun j=>?_⟩
 by_cases hj:j < n
 · have e :∀l:List Int,(l.take n).getD j 0=l.getD j 0:=fun l=>by simp [List.getD,hj]
   rw [e,e,e]; exact h.2.2 j
 · have e :∀l:List Int,(l.take n).getD j 0=0:=fun l=>getD_ge (by rw [List.length_take]; omega)
   rw [e,e,e]; simp [w32_0]
theorem CB.append {a b c a' b' c':List Int} (h:CB α β a b c) (h':CB α β a' b' c'):CB α β (a++a') (b++b') (c++c'):=by
 refine ⟨by simp [h.1,h'.1],by simp [h.2.1,h'.2.1],fun j=>?_⟩
 by_cases hj:j < c.length
 · have e :∀l l':List Int,l.length=c.length→(l++l').getD j 0=l.getD j 0:=fun l l' hl=>by rw [List.getD_eq_getElem?_getD,List.getElem?_append_left (by omega)]; rfl
   rw [e _ _ h.1,e _ _ h.2.1,e _ _ rfl]; exact h.2.2 j
 · have e :∀l l':List Int,l.length=c.length→(l++l').getD j 0=l'.getD (j - c.length) 0:=fun l l' hl=>by rw [List.getD_eq_getElem?_getD,List.getElem?_append_right (by omega),hl]; rfl
   rw [e _ _ h.1,e _ _ h.2.1,e _ _ rfl]; exact h'.2.2 _
theorem SB.flat :∀{s1 s2 s3:List (List Int)},SB α β s1 s2 s3→CB α β s1.flatten s2.flatten s3.flatten:=by
 intro s1
 induction s1 with
 | nil =>
   intro s2 s3 h
   have h3:s3=[]:=List.eq_nil_of_length_eq_zero (by simpa using h.1.symm)
   have h2:s2=[]:=List.eq_nil_of_length_eq_zero (by rw [h.2.1,h3]; rfl)
   subst h3; subst h2; exact CB.nil
 | cons x s1 ih =>
   intro s2 s3 h
   cases s3 with
   | nil=>have:=h.1; simp at this
   | cons z s3 =>
     cases s2 with
     | nil=>have:=h.2.1; simp at this
     | cons y s2 =>
       simp only[List.flatten_cons];exact CB.append (h.2.2 0) (ih ⟨by simpa using h.1,by simpa using h.2.1,fun i=>h.2.2 (i+1)⟩)
theorem setS_cb :∀(ns:List NodeD) {a b c:List Int},CB α β a b c→SB α β (setS ns a) (setS ns b) (setS ns c):=by
 intro ns
 induction ns with
 | nil=>intro a b c _; exact ⟨rfl,rfl,fun i=>by simp only[setS,List.getD_nil]; exact CB.nil⟩
 | cons n ns ih =>
   intro a b c h
   have hi:=ih (h.drop (startV n).length)
   refine ⟨by rw [setS_len,setS_len],by rw [setS_len,setS_len],fun i=>?_⟩
   cases i with
   | zero=>exact h.take _
   | succ i=>exact hi.2.2 i
theorem colM_cb {q:PatchD} (hp:linP q) {c1 c2 c3 f1 f2 f3:List Int} (hc:CB α β c1 c2 c3) (hf:CB α β f1 f2 f3) :
 CB α β (colM q c1 f1).1 (colM q c2 f2).1 (colM q c3 f3).1∧CB α β (colM q c1 f1).2 (colM q c2 f2).2 (colM q c3 f3).2:=by
 have hs:=setS_cb q.2.2.1 hc
 have hv:=valsL_cb hp hs hf
 exact ⟨SB.flat (nextL_cb hp hs hf hv),outsL_cb hv⟩
end
def preZ (c:List Int) (k:Nat):List Int:=(List.range c.length).map fun j=>if j < k then c.getD j 0 else 0
theorem preZ_len (c:List Int) (k:Nat):(preZ c k).length=c.length:=by simp [preZ]
theorem preZ_at (c:List Int) (k j:Nat):(preZ c k).getD j 0=if j < k then c.getD j 0 else 0:=by
 by_cases hj:j < c.length
 · simp [preZ,List.getD,hj]
 · rw [getD_ge (by rw [preZ_len]; omega),getD_ge (by omega)]; simp
theorem zerL_at (n j:Nat):(zerL n).getD j 0=0:=by
 by_cases hj:j < n
 · simp [zerL,List.getD,hj]
 · exact getD_ge (by simp [zerL]; omega)
theorem unitL_at {n i:Nat} (hi:i < n) (j:Nat):(unitL n i).getD j 0=if i=j then 1 else 0:=by
 unfold unitL;rw [getD_set (by rw [(zerL_ok n).1]; exact hi),zerL_at]
theorem preZ_zero (c:List Int):preZ c 0=zerL c.length:=ext_getD (by rw [preZ_len,(zerL_ok _).1]) fun j=>by rw [preZ_at,zerL_at]; simp
theorem preZ_all (c:List Int):preZ c c.length=c:=ext_getD (preZ_len _ _) fun j=>by
 rw [preZ_at]
 split
 · rfl
 · rw [getD_ge (by omega)]
theorem smp_at {c:List Int} (h:smps c=true) (j:Nat):wrap32 (c.getD j 0)=c.getD j 0:=by
 by_cases hj:j < c.length
 · exact wrap32_of _ (smp_iff.1 (smps_iff.1 h _ (getD_mem hj)))
 · rw [getD_ge (by omega)]; exact w32_0
theorem preZ_next {c:List Int} (hs:smps c=true) {k:Nat} (hk:k < c.length):CB 1 (c.getD k 0) (preZ c k) (unitL c.length k) (preZ c (k+1)):=by
 refine ⟨by rw [preZ_len,preZ_len],by rw [preZ_len,(unitL_ok _ _).1],fun j=>?_⟩
 rw [preZ_at,preZ_at,unitL_at hk]
 by_cases h1:j < k
 · rw [if_pos (by omega),if_pos h1,if_neg (by omega)]
   simp only[Int.one_mul,Int.mul_zero,Int.add_zero];exact (smp_at hs j).symm
 · by_cases h2:k=j
   · subst h2;rw [if_pos (by omega),if_neg (by omega),if_pos rfl]
     simp only[Int.mul_zero,Int.zero_add,Int.mul_one];exact (smp_at hs k).symm
   · rw [if_neg (by omega),if_neg h1,if_neg h2]; simp [w32_0]
theorem CB.zeros (n:Nat) (α β:Int):CB α β (zerL n) (zerL n) (zerL n):=CB.rep n
section
variable {q:PatchD} (hp:linP q)
include hp
theorem colM_zero (m n j:Nat):(colM q (zerL m) (zerL n)).1.getD j 0=0∧(colM q (zerL m) (zerL n)).2.getD j 0=0 :=
 ⟨(colM_cb hp (CB.zeros m 0 0) (CB.zeros n 0 0)).1.zero j,(colM_cb hp (CB.zeros m 0 0) (CB.zeros n 0 0)).2.zero j⟩
theorem colM_st {c:List Int} (hs:smps c=true) (n j:Nat) :∀k,k≤c.length →
 (colM q (preZ c k) (zerL n)).1.getD j 0=wrap32 (sg (fun i=>(colM q (unitL c.length i) (zerL n)).1.getD j 0 * c.getD i 0) k) ∧
 (colM q (preZ c k) (zerL n)).2.getD j 0=wrap32 (sg (fun i=>(colM q (unitL c.length i) (zerL n)).2.getD j 0 * c.getD i 0) k):=by
 intro k
 induction k with
 | zero=>intro _; rw [preZ_zero,(colM_zero hp _ _ _).1,(colM_zero hp _ _ _).2]; simp [sg,w32_0]
 | succ k ih =>
   intro hk;obtain ⟨h1,h2⟩:=ih (by omega)
   obtain ⟨g1,g2⟩:=colM_cb hp (preZ_next hs (k:=k) (by omega)) (CB.zeros n 1 (c.getD k 0))
   rw [g1.2.2 j,g2.2.2 j,h1,h2];simp only[Int.one_mul,w32_al,sg];exact ⟨by rw [Int.mul_comm (c.getD k 0)],by rw [Int.mul_comm (c.getD k 0)]⟩
theorem colM_in {c:List Int} (hs:smps c=true) (m j:Nat) :∀k,k≤c.length →
 (colM q (zerL m) (preZ c k)).1.getD j 0=wrap32 (sg (fun i=>(colM q (zerL m) (unitL c.length i)).1.getD j 0 * c.getD i 0) k) ∧
 (colM q (zerL m) (preZ c k)).2.getD j 0=wrap32 (sg (fun i=>(colM q (zerL m) (unitL c.length i)).2.getD j 0 * c.getD i 0) k):=by
 intro k
 induction k with
 | zero=>intro _; rw [preZ_zero,(colM_zero hp _ _ _).1,(colM_zero hp _ _ _).2]; simp [sg,w32_0]
 | succ k ih =>
   intro hk;obtain ⟨h1,h2⟩:=ih (by omega)
   obtain ⟨g1,g2⟩:=colM_cb hp (CB.zeros m 1 (c.getD k 0)) (preZ_next hs (k:=k) (by omega))
   rw [g1.2.2 j,g2.2.2 j,h1,h2];simp only[Int.one_mul,w32_al,sg];exact ⟨by rw [Int.mul_comm (c.getD k 0)],by rw [Int.mul_comm (c.getD k 0)]⟩
theorem colM_lin {c f:List Int} (hs:smps c=true) (hf:smps f=true) (j:Nat) :
 (colM q c f).1.getD j 0=wrap32 (wrap32 (sg (fun i=>(colM q (unitL c.length i) (zerL f.length)).1.getD j 0 * c.getD i 0) c.length)+wrap32 (sg (fun i=>(colM q (zerL c.length) (unitL f.length i)).1.getD j 0 * f.getD i 0) f.length)) ∧
 (colM q c f).2.getD j 0=wrap32 (wrap32 (sg (fun i=>(colM q (unitL c.length i) (zerL f.length)).2.getD j 0 * c.getD i 0) c.length)+wrap32 (sg (fun i=>(colM q (zerL c.length) (unitL f.length i)).2.getD j 0 * f.getD i 0) f.length)):=by
 have hc:CB 1 1 c (zerL c.length) c:=⟨rfl,(zerL_ok _).1,fun j=>by rw [zerL_at,Int.mul_zero,Int.add_zero,Int.one_mul,smp_at hs j]⟩
 have hg:CB 1 1 (zerL f.length) f f:=⟨(zerL_ok _).1,rfl,fun j=>by rw [zerL_at,Int.mul_zero,Int.zero_add,Int.one_mul,smp_at hf j]⟩
 obtain ⟨g1,g2⟩:=colM_cb hp hc hg
 have a:=colM_st hp hs f.length j c.length (Nat.le_refl _)
 have b:=colM_in hp hf c.length j f.length (Nat.le_refl _)
 rw [preZ_all] at a b
 rw [g1.2.2 j,g2.2.2 j,a.1,a.2,b.1,b.2];simp only[Int.one_mul,and_self]
end
theorem matC_dot {f:Nat→List Int} {rows wd i:Nat} (h:i < rows) (x:List Int):dotN ((matC f rows wd).getD i []) x ((matC f rows wd).getD i []).length=wrap32 (sg (fun j=>(f j).getD i 0 * x.getD j 0) wd):=by
 rw [dotN_eq,matC_at h];simp only[List.length_map,List.length_range]
 congr 1
 exact sg_congr fun j hj=>by simp [List.getD,hj]
theorem lin_step {q:PatchD} (hF:formedB q=true) (hp:linP q) {c f:List Int} (hc:c.length=cellN q.2.2.1) (hs:smps c=true) (hl:(f.length:Int)=q.1) (hf:smps f=true) :
 (colM q c f).1=apM (linM q).2.1 (linM q).2.2.1 c f∧(colM q c f).2=apM (linM q).2.2.2.1 (linM q).2.2.2.2 c f:=by
 obtain ⟨l1,l2⟩:=colM_len hF hc hs hf
 have hq:q.1.toNat=f.length:=by omega
 constructor
 · refine ext_getD (by rw [l1,apM_len]; simp [linM,matC]) fun j=>?_
   by_cases hj:j < cellN q.2.2.1
   · rw [(colM_lin hp hs hf j).1,apM_at (by simp [linM,matC,hj])]
     simp only[linM];rw [matC_dot hj,matC_dot hj];simp only[stC,inC,hq,hc]
   · rw [getD_ge (by omega),getD_ge (by rw [apM_len]; simp [linM,matC]; omega)]
 · refine ext_getD (by rw [l2,apM_len]; simp [linM,matC]) fun j=>?_
   by_cases hj:j < q.2.2.2.length
   · rw [(colM_lin hp hs hf j).2,apM_at (by simp [linM,matC,hj])]
     simp only[linM];rw [matC_dot hj,matC_dot hj];simp only[stC,inC,hq,hc]
   · rw [getD_ge (by omega),getD_ge (by rw [apM_len]; simp [linM,matC]; omega)]
theorem sg_zero (n:Nat):sg (fun _=>0) n=0:=by
 induction n with
 | zero=>rfl
 | succ n ih=>simp [sg,ih]
theorem sg_z {f:Nat→Int} {n:Nat} (h :∀i,i < n→f i=0):sg f n=0:=(sg_congr h).trans (sg_zero n)
theorem sg_add (f g:Nat→Int) (n:Nat):sg (fun i=>f i+g i) n=sg f n+sg g n:=by
 induction n with
 | zero=>rfl
 | succ n ih=>simp only[sg,ih]; omega
theorem sg_mul (a:Int) (f:Nat→Int) (n:Nat):sg (fun i=>a * f i) n=a * sg f n:=by
 induction n with
 | zero=>simp [sg]
 | succ n ih=>simp only[sg,ih,Int.mul_add]
theorem sg_mulr (a:Int) (f:Nat→Int) (n:Nat):sg (fun i=>f i * a) n=sg f n * a:=by
 induction n with
 | zero=>simp [sg]
 | succ n ih=>simp only[sg,ih,Int.add_mul]
theorem sg_swap (F:Nat→Nat→Int) (m:Nat) :∀n,sg (fun i=>sg (fun j=>F i j) m) n=sg (fun j=>sg (fun i=>F i j) n) m:=by
 intro n
 induction n with
 | zero=>simp only[sg]; exact (sg_zero m).symm
 | succ n ih=>simp only[sg]; rw [ih,← sg_add]
theorem sg_head (f:Nat→Int) :∀n,sg f (n+1)=f 0+sg (fun i=>f (i+1)) n:=by
 intro n
 induction n with
 | zero=>simp [sg]
 | succ n ih=>rw [sg,ih]; simp only[sg]; omega
theorem sg_rev (f:Nat→Int) :∀n,sg (fun i=>f (n - i)) (n+1)=sg f (n+1):=by
 intro n
 induction n generalizing f with
 | zero=>rfl
 | succ n ih =>
   rw [sg_head,show sg f (n+1+1)=sg f (n+1)+f (n+1) from rfl,← ih f]
   simp only[Nat.sub_zero,Nat.add_sub_add_right];omega
theorem sg_pick (f:Nat→Int) {j:Nat} :∀{n:Nat},j < n→sg (fun i=>f i * (if j=i then 1 else 0)) n=f j:=by
 intro n
 induction n with
 | zero=>intro h; omega
 | succ n ih =>
   intro h;simp only[sg]
   by_cases e:j=n
   · subst e;rw [sg_z fun i hi=>by rw [if_neg (by omega)]; simp]
     simp
   · rw [ih (by omega),if_neg e]; simp
/-! Power series. -/
abbrev PS:=Nat→Int
def pm (f g:PS):PS:=fun n=>sg (fun i=>f i * g (n - i)) (n+1)
def pa (f g:PS):PS:=fun n=>f n+g n
def pn (f:PS):PS:=fun n=>- f n
def pz (f:PS):PS
 | 0=>0
 | n+1=>f n
def pc (a:Int):PS:=fun n=>if n=0 then a else 0
def ptl (f:PS):PS:=fun n=>f (n+1)
theorem pm_0 (f g:PS):pm f g 0=f 0 * g 0:=by simp [pm,sg]
theorem pm_s (f g:PS) (n:Nat):pm f g (n+1)=f 0 * g (n+1)+pm (ptl f) g n:=by
 unfold pm;rw [sg_head];simp only[Nat.sub_zero,Nat.add_sub_add_right]
 rfl
theorem pm_comm (f g:PS):pm f g=pm g f:=funext fun n=>by
 unfold pm;rw [← sg_rev];exact sg_congr fun i hi=>by rw [Int.mul_comm,show n - (n - i)=i by omega]
theorem pm_add (f g h:PS):pm f (pa g h)=pa (pm f g) (pm f h):=funext fun n=>by
 simp only[pm,pa,Int.mul_add]; exact sg_add _ _ _
theorem pm_addl (f g h:PS):pm (pa f g) h=pa (pm f h) (pm g h):=by rw [pm_comm,pm_add,pm_comm h f,pm_comm h g]
theorem pm_neg (f g:PS):pm f (pn g)=pn (pm f g):=funext fun n=>by
 simp only[pm,pn];rw [sg_congr (g:=fun i=>(-1) * (f i * g (n - i))) fun i _=>by rw [Int.mul_neg]; omega,sg_mul]
 omega
theorem pm_negl (f g:PS):pm (pn f) g=pn (pm f g):=by rw [pm_comm,pm_neg,pm_comm]
theorem pm_z (f g:PS):pm f (pz g)=pz (pm f g):=by
 rw [pm_comm]
 funext n
 cases n with
 | zero=>simp [pm_0,pz]
 | succ n=>rw [pm_s]; simp only[pz,Int.zero_mul,Int.zero_add]; rw [pm_comm f g]; rfl
theorem pm_zl (f g:PS):pm (pz f) g=pz (pm f g):=by rw [pm_comm,pm_z,pm_comm]
theorem pm_one (f:PS):pm f (pc 1)=f:=funext fun n=>by
 unfold pm;simp only[sg];rw [sg_z fun i hi=>by unfold pc; rw [if_neg (by omega)]; simp]
 simp [pc]
theorem pm_sum (F:Nat→PS) (a:Nat→Int) (g:PS) (k:Nat) (n:Nat):pm (fun m=>sg (fun i=>a i * F i m) n) g k=sg (fun i=>a i * pm (F i) g k) n:=by
 unfold pm
 rw [sg_congr (g:=fun i=>sg (fun j=>a j * (F j i * g (k - i))) n) fun i _=>by
  rw [← sg_mulr]; exact sg_congr fun j _=>Int.mul_assoc _ _ _]
 rw [sg_swap];exact sg_congr fun j _=>sg_mul _ _ _
theorem pm_sumr (F:Nat→PS) (a:Nat→Int) (g:PS) (k:Nat) (n:Nat):pm g (fun m=>sg (fun i=>a i * F i m) n) k=sg (fun i=>a i * pm g (F i) k) n:=by
 rw [pm_comm,pm_sum]; exact sg_congr fun j _=>by rw [pm_comm]
theorem pm_smul (a:Int) (f g:PS) (k:Nat):pm (fun m=>a * f m) g k=a * pm f g k:=by
 unfold pm;rw [← sg_mul]; exact sg_congr fun i _=>Int.mul_assoc _ _ _
theorem pm_assoc (f g h:PS):pm (pm f g) h=pm f (pm g h):=by
 have key :∀n (f:PS),pm (pm f g) h n=pm f (pm g h) n:=by
  intro n
  induction n with
  | zero=>intro f; simp only[pm_0]; exact Int.mul_assoc _ _ _
  | succ n ih =>
    intro f;rw [pm_s,pm_s];have e:ptl (pm f g)=pa (fun m=>f 0 * ptl g m) (pm (ptl f) g):=funext fun m=>by simp only[ptl,pa]; rw [pm_s]
    rw [e,pm_addl];simp only[pa];rw [pm_smul,ih,pm_0,pm_s g h,Int.mul_add,Int.mul_assoc];omega
 exact funext fun n=>key n f
theorem pm_left (f g h:PS):pm f (pm g h)=pm g (pm f h):=by rw [← pm_assoc,pm_comm f g,pm_assoc]
theorem pz_neg (f:PS):pz (pn f)=pn (pz f):=funext fun n=>by cases n<;>simp [pz,pn]
theorem pz_add (f g:PS):pz (pa f g)=pa (pz f) (pz g):=funext fun n=>by cases n<;>simp [pz,pa]
/-! Powers of a matrix applied to a vector: only the first n numbers count. -/
def pw (n:Nat) (M:Nat→Nat→Int) (v:Nat→Int):Nat→Nat→Int
 | 0=>v
 | k+1=>fun i=>sg (fun j=>M i j * pw n M v k j) n
def pW (n:Nat) (M:Nat→Nat→Int) (v:Nat→Int) (i:Nat):PS:=fun k=>pw n M v k i
theorem pW_s (n:Nat) (M:Nat→Nat→Int) (v:Nat→Int) (i:Nat):ptl (pW n M v i)=fun k=>sg (fun j=>M i j * pW n M v j k) n:=rfl
theorem pW_step (n:Nat) (M:Nat→Nat→Int) (v:Nat→Int) (j:Nat):pW (n+1) M v j=pa (pW n M v j) (pz (pm (pW n M (fun x=>M x n) j) (pW (n+1) M v n))):=by
 have key :∀k j,pW (n+1) M v j k=pW n M v j k+pz (pm (pW n M (fun x=>M x n) j) (pW (n+1) M v n)) k:=by
  intro k
  induction k with
  | zero=>intro j; simp [pW,pw,pz]
  | succ k ih =>
    intro j;have e1:pW (n+1) M v j (k+1)=sg (fun i=>M j i * pW (n+1) M v i k) n+M j n * pW (n+1) M v n k:=rfl
    have e2:pW n M v j (k+1)=sg (fun i=>M j i * pW n M v i k) n:=rfl
    rw [e1,e2,sg_congr (g:=fun i=>M j i * pW n M v i k+M j i * pz (pm (pW n M (fun x=>M x n) i) (pW (n+1) M v n)) k) fun i _=>by rw [ih i,Int.mul_add],sg_add]
    have e3:pz (pm (pW n M (fun x=>M x n) j) (pW (n+1) M v n)) (k+1)=pm (pW n M (fun x=>M x n) j) (pW (n+1) M v n) k:=rfl
    rw [e3];cases k with
    | zero=>simp only[pz,Int.mul_zero,sg_zero,pm_0]; simp [pW,pw]
    | succ k =>
      rw [pm_s,pW_s,pm_sum];have e4:pW n M (fun x=>M x n) j 0=M j n:=rfl
      rw [e4];simp only[pz];omega
 exact funext fun k=>key k j
def pS (n:Nat) (M:Nat→Nat→Int) (i j:Nat):PS:=pa (pc (if i=j then 1 else 0)) (pn (pz (pW n M (fun x=>M x j) i)))
def pQ:Nat→(Nat→Nat→Int)→PS
 | 0,_=>pc 1
 | n+1,M=>pm (pQ n M) (pS n M n n)
theorem pa_zero (f:PS):pa (pc 0) f=f:=funext fun n=>by simp [pa,pc]
theorem pS_t (n:Nat) (M:Nat→Nat→Int) (v:Nat→Int):pm (pS n M n n) (pW (n+1) M v n)=pW n M v n:=by
 unfold pS;rw [if_pos rfl,pm_addl,pm_comm (pc 1),pm_one,pm_negl,pm_zl]
 have h:=pW_step n M v n
 funext k
 have hk:=congrFun h k
 simp only[pa,pn] at *
 omega
theorem pS_two (n:Nat) (M:Nat→Nat→Int):pm (pS n M n n) (pS (n+1) M (n+1) (n+1))=pa (pm (pS n M n n) (pS n M (n+1) (n+1))) (pn (pm (pS n M (n+1) n) (pS n M n (n+1)))):=by
 have h1:pS (n+1) M (n+1) (n+1)=pa (pS n M (n+1) (n+1)) (pz (pm (pS n M (n+1) n) (pW (n+1) M (fun x=>M x (n+1)) n))):=by
  have e:pS n M (n+1) n=pn (pz (pW n M (fun x=>M x n) (n+1))):=by unfold pS; rw [if_neg (by omega),pa_zero]
  rw [e,pm_negl,pm_zl];unfold pS;rw [pW_step n M (fun x=>M x (n+1)) (n+1),pz_add,pz_neg]
  funext k
  simp only[pa,pn];omega
 have h2:pS n M n (n+1)=pn (pz (pm (pS n M n n) (pW (n+1) M (fun x=>M x (n+1)) n))):=by
  rw [pS_t]; unfold pS; rw [if_neg (by omega),pa_zero]
 rw [h1,h2,pm_add,pm_z,pm_left,pm_neg,pm_z]
 funext k
 simp only[pa,pn];omega
/-! Numbers i and i + 1 exchanged. -/
def tau (i x:Nat):Nat:=if x=i then i+1 else if x=i+1 then i else x
theorem tau_tau (i x:Nat):tau i (tau i x)=x:=by unfold tau; (repeat' split)<;>omega
theorem tau_inj {i x y:Nat}:(tau i x=tau i y)↔x=y:=⟨fun h=>by rw [← tau_tau i x,h,tau_tau],fun h=>by rw [h]⟩
theorem tau_lo {i x:Nat} (h:x < i):tau i x=x:=by unfold tau; rw [if_neg (by omega),if_neg (by omega)]
theorem tau_hi {i x:Nat} (h:i+2≤x):tau i x=x:=by unfold tau; rw [if_neg (by omega),if_neg (by omega)]
theorem tau_0 (i:Nat):tau i i=i+1:=by unfold tau; rw [if_pos rfl]
theorem tau_1 (i:Nat):tau i (i+1)=i:=by unfold tau; rw [if_neg (by omega),if_pos rfl]
theorem tau_lt {i x n:Nat} (h:i+2≤n) (hx:x < n):tau i x < n:=by unfold tau; (repeat' split)<;>omega
theorem tau_sg {i n:Nat} (h:n≤i∨i+2≤n) (f:Nat→Int):sg (fun x=>f (tau i x)) n=sg f n:=by
 rcases h with h | h
 · exact sg_congr fun x hx=>by rw [tau_lo (by omega)]
 · induction n with
   | zero=>omega
   | succ n ih =>
     by_cases e:i+2≤n
     · simp only[sg]; rw [ih e,tau_hi e]
     · have:n=i+1:=by omega
       subst this;simp only[sg];rw [tau_0,tau_1,sg_congr (g:=f) fun x hx=>by rw [tau_lo hx]]
       omega
def tM (i:Nat) (M:Nat→Nat→Int):Nat→Nat→Int:=fun x y=>M (tau i x) (tau i y)
theorem pw_tau {i n:Nat} (h:n≤i∨i+2≤n) (M:Nat→Nat→Int) (v:Nat→Int) :∀k x,pw n (tM i M) (fun y=>v (tau i y)) k x=pw n M v k (tau i x):=by
 intro k
 induction k with
 | zero=>intro x; rfl
 | succ k ih =>
   intro x;show sg (fun j=>M (tau i x) (tau i j) * pw n (tM i M) (fun y=>v (tau i y)) k j) n=sg (fun j=>M (tau i x) j * pw n M v k j) n
   refine Eq.trans ?_ (tau_sg h (fun j=>M (tau i x) j * pw n M v k j))
   exact sg_congr fun j _=>by rw [ih]
theorem pS_tau {i n:Nat} (h:n≤i∨i+2≤n) (M:Nat→Nat→Int) (x y:Nat):pS n (tM i M) x y=pS n M (tau i x) (tau i y):=by
 unfold pS;have e:pW n (tM i M) (fun z=>tM i M z y) x=pW n M (fun z=>M z (tau i y)) (tau i x):=funext fun k=>pw_tau h M (fun z=>M z (tau i y)) k x
 rw [e]
 by_cases c:x=y
 · rw [if_pos c,if_pos (by rw [c])]
 · rw [if_neg c,if_neg (fun h=>c (tau_inj.1 h))]
theorem pQ_tau (i:Nat) (M:Nat→Nat→Int) :∀n,n≤i∨i+2≤n→pQ n (tM i M)=pQ n M:=by
 have lo :∀n,n≤i→pQ n (tM i M)=pQ n M:=by
  intro n
  induction n with
  | zero=>intro _; rfl
  | succ n ih=>intro h; simp only[pQ]; rw [ih (by omega),pS_tau (Or.inl (by omega)),tau_lo (by omega)]
 intro n
 induction n with
 | zero=>intro _; rfl
 | succ n ih =>
   intro h
   by_cases c:n+1≤i
   · exact lo _ c
   · by_cases e:n=i+1
     · subst e;simp only[pQ];rw [pm_assoc,pm_assoc,pS_two,pS_two,lo i (Nat.le_refl _)]
       simp only[pS_tau (Or.inl (Nat.le_refl _)),tau_0,tau_1];rw [pm_comm (pS i M (i+1) (i+1)),pm_comm (pS i M i (i+1))]
     · have h2:i+2≤n:=by omega
       simp only[pQ];rw [ih (Or.inr h2),pS_tau (Or.inr h2),tau_hi h2]
/-! The theorem. -/
def eV (i:Nat):Nat→Int:=fun x=>if x=i then 1 else 0
theorem pw_e0 (n:Nat) (M:Nat→Nat→Int) :∀k x,x < n→pw n M (eV n) k x=0:=by
 intro k
 induction k with
 | zero=>intro x h; simp only[pw,eV]; rw [if_neg (by omega)]
 | succ k ih=>intro x _; exact sg_z fun j hj=>by rw [ih j hj]; simp
theorem pW_e (n:Nat) (M:Nat→Nat→Int):pW n M (eV n) n=pc 1:=funext fun k=>by
 cases k with
 | zero=>simp [pW,pw,eV,pc]
 | succ k=>exact sg_z fun j hj=>by rw [pw_e0 n M k j hj]; simp
theorem pW_lin (n:Nat) (M:Nat→Nat→Int) (v:Nat→Int) :∀k j,j < n→pW n M v j k=sg (fun i=>v i * pW n M (eV i) j k) n:=by
 intro k
 induction k with
 | zero=>intro j hj; exact (sg_pick v hj).symm
 | succ k ih =>
   intro j _
   show sg (fun x=>M j x * pW n M v x k) n=sg (fun i=>v i * sg (fun x=>M j x * pW n M (eV i) x k) n) n
   rw [sg_congr (g:=fun x=>sg (fun i=>v i * (M j x * pW n M (eV i) x k)) n) fun x hx=>by
    rw [ih x hx,← sg_mul]; exact sg_congr fun i _=>by rw [← Int.mul_assoc,← Int.mul_assoc,Int.mul_comm (M j x)]]
   rw [sg_swap];exact sg_congr fun i _=>sg_mul _ _ _
theorem ch_all {n:Nat} {M:Nat→Nat→Int} (h :∀i j k,i < n→j < n→n≤k→pm (pQ n M) (pW n M (eV i) j) k=0) (v:Nat→Int) {j k:Nat} (hj:j < n) (hk:n≤k):pm (pQ n M) (pW n M v j) k=0:=by
 have e:pW n M v j=fun m=>sg (fun i=>v i * pW n M (eV i) j m) n:=funext fun m=>pW_lin n M v m j hj
 rw [e,pm_sumr];exact sg_z fun i hi=>by rw [h i j k hi hj hk]; simp
theorem ch_row {n:Nat} {M:Nat→Nat→Int} (hq :∀k,n < k→pQ n M k=0) (h :∀i j k,i < n→j < n→n≤k→pm (pQ n M) (pW n M (eV i) j) k=0) (v:Nat→Int) (j:Nat) {k:Nat} (hk:n < k):pm (pQ n M) (pW n M v j) k=0:=by
 obtain ⟨k,rfl⟩ :∃m,k=m+1:=⟨k - 1,by omega⟩
 rw [pm_comm,pm_s,hq (k+1) hk,pW_s,pm_sum,sg_z fun i hi=>by rw [pm_comm,ch_all h v hi (by omega)]; simp]
 simp
theorem cayley (n:Nat):(∀ M k,n < k→pQ n M k=0)∧(∀ M i j k,i < n→j < n→n≤k→pm (pQ n M) (pW n M (eV i) j) k=0):=by
 induction n with
 | zero=>exact ⟨fun M k h=>by simp only[pQ,pc]; rw [if_neg (by omega)],fun M i j k h=>by omega⟩
 | succ n ih =>
   obtain ⟨ih1,ih2⟩:=ih;refine ⟨fun M k hk=>?_,?_⟩
   · obtain ⟨k,rfl⟩ :∃m,k=m+1:=⟨k - 1,by omega⟩
     simp only[pQ];unfold pS;rw [if_pos rfl,pm_add,pm_one,pm_neg,pm_z];simp only[pa,pn,pz];rw [ih1 M (k+1) (by omega),ch_row (ih1 M) (ih2 M) _ _ (by omega)]
     rfl
   · have last :∀M j k,j < n+1→n+1≤k→pm (pQ (n+1) M) (pW (n+1) M (eV n) j) k=0:=by
      intro M j k hj hk
      have ht:pm (pS n M n n) (pW (n+1) M (eV n) n)=pc 1:=by rw [pS_t,pW_e]
      by_cases c:j=n
      · subst c;simp only[pQ];rw [pm_assoc,ht,pm_one];exact ih1 M k (by omega)
      · have e:pW n M (eV n) j=fun _=>0:=funext fun m=>pw_e0 n M m j (by omega)
        have hz:pm (pm (pQ n M) (pS n M n n)) (fun _=>0)=fun _=>0:=funext fun k=>sg_z fun i _=>by simp
        have hl:pm (pm (pQ n M) (pS n M n n)) (pm (pW n M (fun x=>M x n) j) (pW (n+1) M (eV n) n))=pm (pQ n M) (pW n M (fun x=>M x n) j):=by
         rw [pm_assoc,pm_left (pS n M n n),ht,pm_one]
        rw [pW_step,e,pm_add];simp only[pQ,pa];rw [hz,pm_z,hl];obtain ⟨k,rfl⟩ :∃m,k=m+1:=⟨k - 1,by omega⟩
        simp only[pz];rw [ch_all (ih2 M) _ (by omega) (by omega)]
        rfl
     have all : ∀ d M i j k, i + d = n → j < n + 1 → n + 1 ≤ k → pm (pQ (n + 1) M) (pW (n + 1) M (eV i) j) k = 0 := by
      intro d
      induction d with
      | zero => intro M i j k hi; obtain rfl : i = n := by omega
                exact last M j k
      | succ d ihd =>
        intro M i j k hi hj hk
        have h:=ihd (tM i M) (i+1) (tau i j) k (by omega) (tau_lt (by omega) hj) hk
        rw [pQ_tau i M (n+1) (Or.inr (by omega))] at h
        have e:pW (n+1) (tM i M) (eV (i+1)) (tau i j)=pW (n+1) M (eV i) j:=funext fun m=>by
         have hv:eV (i+1)=fun y=>eV i (tau i y):=funext fun y=>by
          unfold eV tau
          by_cases c1:y=i
          · rw [if_pos c1,if_neg (by omega),if_neg (by omega)]
          · by_cases c2:y=i+1
            · rw [if_neg c1,if_pos c2,if_pos c2,if_pos rfl]
            · rw [if_neg c1,if_neg c2,if_neg c2,if_neg c1]
         show pw (n+1) (tM i M) (eV (i+1)) m (tau i j)=pw (n+1) M (eV i) m j
         rw [hv,pw_tau (Or.inr (by omega)),tau_tau]
        rwa [e] at h
     exact fun M i j k hi hj hk=>all (n - i) M i j k (by omega) hj hk
theorem ch_deg (n:Nat) (M:Nat→Nat→Int) {k:Nat} (h:n < k):pQ n M k=0:=(cayley n).1 M k h
theorem ch (n:Nat) (M:Nat→Nat→Int) (v:Nat→Int) {j k:Nat} (hj:j < n) (hk:n≤k):pm (pQ n M) (pW n M v j) k=0:=ch_all ((cayley n).2 M) v hj hk
end Go.Proofs.YtgmabhkmiokiaaaGreat
