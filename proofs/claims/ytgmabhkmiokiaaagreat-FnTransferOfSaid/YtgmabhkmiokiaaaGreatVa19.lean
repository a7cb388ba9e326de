/-
  Texts of this claim, joined (part 19). No condition beyond those of the theorems.
-/
import Derived.Test.YtgmabhkmiokiaaaGreatVa18
import Derived.Test.YtgmabhkmiokiaaaGreatVa04
import Derived.Test.YtgmabhkmiokiaaaGreatVa16
namespace Go.Proofs.YtgmabhkmiokiaaaGreat
open Go.RowKit
set_option linter.unusedSimpArgs false
set_option linter.unusedVariables false
def rowsSq (aa:List (List Int)):Prop:=rowsOk aa aa.length aa.length∧aa.length≤1000
theorem trim_end {xs:List Int} {n:Nat} (h:tl xs xs.length=tl xs n) (hn:n≤xs.length) (h0:0 < n) (he:n=1∨¬ xs.getD (n - 1) 0=0):trimL xs=xs.take n:=by
 by_cases c:xs.getD (n - 1) 0=0
 · have e : n = 1 := he.resolve_right fun z => z c
   subst e;have c:xs.getD 0 0=0:=c
   rw [trimL_0 (by rw [h,tl_t c]; rfl)]
   cases xs with
   | nil=>simp at hn
   | cons x xs => have : x = 0 := by simpa using c
                  subst this; rfl
 · exact trimL_p (by rw [h,show n=(n - 1)+1 by omega,tl_f c]) h0
theorem trim_none {xs:List Int} (h:tl xs xs.length=tl xs 0):trimL xs=[0]:=trimL_0 h
theorem trim_go {xs:List Int} {n:Nat} (h:tl xs xs.length=tl xs n) (h0:0 < n) (c:xs.getD (n - 1) 0=0):tl xs xs.length=tl xs (n - 1):=by
 rw [h]
 conv=>lhs; rw [show n=(n - 1)+1 by omega]
 exact tl_t c
def c0N (aa:List (List Int)) (k i:Nat):List Int:=(List.range i).map fun j=>(aa.getD j []).getD k 0
theorem c0N_next (aa:List (List Int)) (k i:Nat):c0N aa k i++[(aa.getD i []).getD k 0]=c0N aa k (i+1):=map_range_next (fun j=>(aa.getD j []).getD k 0) i
theorem c0N_len (aa:List (List Int)) (k i:Nat):(c0N aa k i).length=i:=by simp [c0N]
theorem c0N_cl {aa:List (List Int)} (h:rowsSq aa) {k:Nat} (hk:k≤aa.length):c0N aa k k=clN aa k 0:=clN_0 k fun i hi=>(h.1.2 i (by omega)).2
def dotK (aa:List (List Int)) (k i m:Nat):List Int:=(List.range m).map fun j=>dotN ((aa.getD j []).take k) (clN aa k i) k
theorem dotK_next (aa:List (List Int)) (k i m:Nat):dotK aa k i m++[dotN ((aa.getD m []).take k) (clN aa k i) k]=dotK aa k i (m+1):=map_range_next (fun j=>dotN ((aa.getD j []).take k) (clN aa k i) k) m
theorem dotK_len (aa:List (List Int)) (k i m:Nat):(dotK aa k i m).length=m:=by simp [dotK]
theorem dotK_all (aa:List (List Int)) (k i:Nat):dotK aa k i k=clN aa k (i+1):=clN_next aa k i
theorem take_len {aa:List (List Int)} (h:rowsSq aa) {j k:Nat} (hj:j < aa.length) (hk:k≤aa.length):((aa.getD j []).take k).length=k:=by
 rw [List.length_take,(h.1.2 j hj).1]; omega
theorem linW.n {x:LinD} {n:Nat} (h:linW x n):x.2.1.length=n:=h.a.1
def trnR (p:PatchD) (i o:Int):TrD × Int:=match decide (linCode p=0) with
 | false=>(([],[]),linCode p)
 | true=>match inR i 0 (p.1 - 1) && inR o 0 ((p.2.2.2.length:Int) - 1) with
   | false=>(([],[]),2)
   | true=>(trnL (linM (trimP p)) i o,0)
theorem trnR_f {p:PatchD} {i o:Int} (h:¬ linCode p=0):trnR p i o=(([],[]),linCode p):=by unfold trnR; rw [decide_eq_false h]
theorem trnR_2 {p:PatchD} {i o:Int} (h:linCode p=0) (k:(inR i 0 (p.1 - 1) && inR o 0 ((p.2.2.2.length:Int) - 1))=false):trnR p i o=(([],[]),2):=by unfold trnR; rw [decide_eq_true h,k]
theorem trnR_0 {p:PatchD} {i o:Int} (h:linCode p=0) (k:(inR i 0 (p.1 - 1) && inR o 0 ((p.2.2.2.length:Int) - 1))=true):trnR p i o=(trnL (linM (trimP p)) i o,0):=by unfold trnR; rw [decide_eq_true h,k]
structure linOkP (p:PatchD):Prop where
 ok:patchB p=true
 lin:linB p=true
 w:linW (linM (trimP p)) (linM (trimP p)).2.1.length
 n:(linM (trimP p)).2.1.length≤24
 i:(linM (trimP p)).1=p.1
 o:(linM (trimP p)).2.2.2.1.length=p.2.2.2.length
 i4:0≤p.1∧p.1≤4
 o4:p.2.2.2.length≤4
theorem linOk_of {p:PatchD} (h:linCode p=0):linOkP p:=by
 have hP:patchB p=true:=by
  cases h':patchB p with
  | true=>rfl
  | false=>rw [linCode_1 h'] at h; cases h
 have hl:linB p=true:=by
  cases h':linB p with
  | true=>rfl
  | false=>rw [linCode_6 hP h'] at h; cases h
 have hc:cellN (trimP p).2.2.1≤24:=by
  by_cases h2:24 < cellN (trimP p).2.2.1
  · rw [linCode_5 hP hl h2] at h; cases h
  · omega
 have hF:=(patchB_parts (trim_patch hP)).1
 have hp:=(formedB_parts (patchB_parts hP).1)
 have hw:=linM_w hF
 have ha:(linM (trimP p)).2.1.length=cellN (trimP p).2.2.1:=hw.a.1
 exact ⟨hP,hl,by rw [ha]; exact hw,by omega,rfl,by show (matC _ _ _).length=_; rw [matC_len]; simp [trimP,keepP,clsM],⟨hp.2.2.2.1,hp.2.2.2.2.1⟩,hp.2.1⟩
theorem linOk_sq {p:PatchD} (h:linOkP p):rowsSq (linM (trimP p)).2.1:=⟨h.w.a,by have:=h.n; omega⟩
theorem trn_render {p:PatchD} (h:linOkP p) {i o:Int} (hi:0≤i∧i < p.1) (ho:0≤o∧o < p.2.2.2.length) (n:Nat):(renderL p (impI p.1.toNat i) n).getD o.toNat []=rspL (linM (trimP p)) i o n:=render_rsp h.ok h.lin hi ho n
theorem linOk_x {p:PatchD} {ni:Int} {la lb lc ld:List (List Int)} (hk:linOkP p) (h:linM (trimP p)=(ni,la,lb,lc,ld)):linW (ni,la,lb,lc,ld) la.length∧la.length≤24∧ni=p.1∧lc.length=p.2.2.2.length∧rowsSq la:=by
 have hw:=hk.w; have hn:=hk.n; have hi:=hk.i; have ho:=hk.o; have hs:=linOk_sq hk
 rw [h] at hw hn hi ho hs
 exact ⟨hw,hn,hi,ho,hs⟩
theorem trn_row {p:PatchD} (hk:linOkP p) {x:LinD} (hx:linM (trimP p)=x) {i o:Int} (hi:0≤i∧i < p.1) (ho:0≤o∧o < p.2.2.2.length) (n:Nat) {Y:List (List Int)} (hY:renderL p ((List.replicate p.1.toNat ([]:List Int)).set i.toNat [1]) n=Y):Y.length=p.2.2.2.length∧Y.getD o.toNat []=rspL x i o n:=by
 have hF:=(patchB_parts hk.ok).1
 have hin:insOk p (impI p.1.toNat i):=impI_ok (by omega) i
 have h1:=renderL_len hF hin n
 have h2:=trn_render hk hi ho n
 rw [hx] at h2;unfold impI at h1 h2;rw [hY] at h1 h2
 exact ⟨h1,h2⟩
/-! What the laws' own functions compute of transfer functions. -/
instance:DecidableEq TrD:=instDecidableEqProd
theorem linK_kT {x:Int} (h:inR x 1 17=true):(kT x).2.2.2.1=linKB x:=by
 obtain ⟨h1,h2⟩:=inR_iff.1 h
 have:x=1∨x=2∨x=3∨x=4∨x=5∨x=6∨x=7∨x=8∨x=9∨x=10∨x=11∨x=12∨x=13∨x=14∨x=15∨x=16∨x=17:=by omega
 rcases this with h | h | h | h | h | h | h | h | h | h | h | h | h | h | h | h | h<;>subst h<;>rfl
theorem kind_in {p:PatchD} (hF:formedB p=true) {i:Nat} (hi:i < p.2.2.1.length):inR (p.2.2.1.getD i n0).1 1 17=true:=by
 have h:=nodeB_4 hF hi
 unfold nodeB at h;simp only[Bool.and_eq_true] at h
 exact h.1.1.1.1.1
theorem nodeC_at {p:PatchD} (hF:formedB p=true) {i:Nat} (hi:i < p.2.2.1.length):nodeC (p.2.2.1.getD i n0):=⟨_,nodeB_4 hF hi⟩
def cntK (ns:List NodeD) (kp:List Int) (k:Nat):Nat:=((kp.take k).map fun i=>(startV (ns.getD i.toNat n0)).length).sum
theorem cntK_next {ns:List NodeD} {kp:List Int} {k:Nat} (h:k < kp.length):cntK ns kp (k+1)=cntK ns kp k+(startV (ns.getD (kp.getD k 0).toNat n0)).length:=by
 unfold cntK;rw [take_next (d:=(0:Int)) h,List.map_append,List.sum_append]; simp
theorem cntK_16 {p:PatchD} (hF:formedB p=true) {kp:List Int} (hr :∀j,j < kp.length→0≤kp.getD j 0∧kp.getD j 0 < p.2.2.1.length) :∀k,k≤kp.length→cntK p.2.2.1 kp k≤16 * k:=by
 intro k
 induction k with
 | zero=>intro _; simp [cntK]
 | succ k ih =>
   intro h;have h1:=ih (by omega)
   have h2:=cntK_next (ns:=p.2.2.1) (kp:=kp) (k:=k) (by omega)
   have h3:=start_16 hF (i:=(kp.getD k 0).toNat) (by have:=hr k (by omega); omega)
   omega
def cntT (p:PatchD):Nat:=cntK p.2.2.1 (needF p) (needF p).length
theorem cntT_trim (p:PatchD):cntT p=cellN (trimP p).2.2.1:=by
 rw [trim_cells]; unfold cntT cntK; rw [List.take_length]
theorem drop_off {ns:List NodeD} {c:List Int} {k:Nat} (h:k < ns.length):(c.drop (offN ns k)).drop (startV (ns.getD k n0)).length=c.drop (offN ns (k+1)):=by
 rw [List.drop_drop,offN_next h]
def rowC (cols:List (List Int)) (i:Nat):List Int:=cols.map fun c=>c.getD i 0
def rowsP (cols:List (List Int)) (rows i:Nat):List (List Int):=((List.range i).map (rowC cols))++List.replicate (rows - i) []
theorem rowsP_len {cols:List (List Int)} {rows i:Nat} (h:i≤rows):(rowsP cols rows i).length=rows:=by simp [rowsP]; omega
theorem rowsP_0 (cols:List (List Int)) (rows:Nat):rowsP cols rows 0=List.replicate rows []:=by simp [rowsP]
theorem rowsP_all (cols:List (List Int)) (rows:Nat):rowsP cols rows rows=(List.range rows).map (rowC cols):=by simp [rowsP]
def rowsQ (cols:List (List Int)) (rows i j:Nat):List (List Int):=(rowsP cols rows i).set i (rowC (cols.take j) i)
theorem rowsQ_len {cols:List (List Int)} {rows i j:Nat} (h:i≤rows):(rowsQ cols rows i j).length=rows:=by rw [rowsQ,List.length_set,rowsP_len h]
theorem rowsQ_at {cols:List (List Int)} {rows i j:Nat} (h:i < rows):(rowsQ cols rows i j).getD i []=rowC (cols.take j) i:=by
 have hl:i < (rowsP cols rows i).length:=by rw [rowsP_len (by omega)]; exact h
 simp [rowsQ,List.getD,hl]
theorem rowsQ_0 {cols:List (List Int)} {rows i:Nat}:(rowsP cols rows i).set i []=rowsQ cols rows i 0:=by simp [rowsQ,rowC]
theorem rowC_next {cols:List (List Int)} {i j:Nat} (h:j < cols.length):rowC (cols.take j) i++[(cols.getD j []).getD i 0]=rowC (cols.take (j+1)) i:=by
 unfold rowC; rw [take_next (d:=([]:List Int)) h,List.map_append]; rfl
theorem rowsQ_next {cols:List (List Int)} {rows i j:Nat} (h:i < rows) (hj:j < cols.length):(rowsQ cols rows i j).set i (rowC (cols.take j) i++[(cols.getD j []).getD i 0])=rowsQ cols rows i (j+1):=by
 rw [rowC_next hj]; unfold rowsQ; rw [List.set_set]
theorem rowsQ_end {cols:List (List Int)} {rows i j:Nat} (h:i < rows) (hj:cols.length≤j):rowsQ cols rows i j=rowsP cols rows (i+1):=by
 unfold rowsQ;rw [List.take_of_length_le hj];unfold rowsP;rw [show rows - i=(rows - (i+1))+1 by omega,List.replicate_succ,List.set_append_right _ _ (by simp)]
 simp [List.range_succ]
theorem trim_all {p:PatchD} (hP:patchB p=true) {c:Nat} (hc:c < (needF p).length):(marksF (trimP p)).getD c false=true:=by
 have hF:=(patchB_parts hP).1
 have hT:=(patchB_parts (trim_patch hP)).1
 have hby :∀j,j < (needF p).length→(byT p).getD ((needF p).getD j 0).toNat 0=(j:Int):=fun j hj=>byL_at (fun j hj=>need_rng j hj) (fun i j hi hj e=>need_inj i j hi hj e) _ (Nat.le_refl _) j hj
 have hlen:(trimP p).2.2.1.length=(needF p).length:=by rw [trim_map,List.length_map]
 have key :∀i,(marksF p).getD i false=true→(marksF p).getD i false=true∧∀ c,c < (needF p).length→((needF p).getD c 0).toNat=i→(marksF (trimP p)).getD c false=true:=by
  intro i hi
  refine marks_least hF (fun i=>(marksF p).getD i false=true∧∀ c,c < (needF p).length→((needF p).getD c 0).toNat=i→(marksF (trimP p)).getD c false=true) (fun i hi h y hy=>?_) (fun y hy=>?_) i hi
  · obtain ⟨h1,h2⟩:=h;refine ⟨marks_from hF hi h1 hy,fun c' hc' e=>?_⟩
    obtain ⟨c,hcl,hce⟩ :∃c,c < (needF p).length∧(needF p).getD c 0=(i:Int):=by
     have:(i:Int)∈needF p:=need_mem.2 ⟨i,hi,h1,rfl⟩
     obtain ⟨c,hcl,hce⟩:=List.mem_iff_getElem.1 this
     exact ⟨c,hcl,by simp [List.getD,hcl,hce]⟩
    have h3:=h2 c hcl (by rw [hce]; simp)
    have hnd:(trimP p).2.2.1.getD c n0=mrgX (byT p) (p.2.2.1.getD i n0):=by
     rw [trim_map];simp only[List.getD,List.getElem?_map,List.getElem?_eq_getElem hcl,Option.map_some,Option.getD_some];have:(needF p)[c]=(i:Int):=by rw [← hce]; simp [List.getD,hcl]
     rw [this]; simp
    have hmem:(byT p).getD y.toNat 0∈((trimP p).2.2.1.getD c n0).2.2.2:=by
     rw [hnd]; exact List.mem_map.2 ⟨y,hy,rfl⟩
    have h4:=marks_from hT (show c < (trimP p).2.2.1.length by omega) h3 hmem
    rw [← e,hby c' hc'] at h4
    simpa using h4
  · refine ⟨marks_out hF hy,fun c' hc' e=>?_⟩
    have hmem:(byT p).getD y.toNat 0∈(trimP p).2.2.2:=List.mem_map.2 ⟨y,hy,rfl⟩
    have h4:=marks_out hT hmem
    rw [← e,hby c' hc'] at h4
    simpa using h4
 obtain ⟨i,h1,h2,h3⟩:=need_mem.1 (getD_mem (d:=(0:Int)) hc)
 exact (key i h2).2 c hc (by rw [h3]; simp)
theorem need_trim {p:PatchD} (hP:patchB p=true):needF (trimP p)=(List.range (trimP p).2.2.1.length).map fun (i:Nat)=>(i:Int):=by
 have hlen:(trimP p).2.2.1.length=(needF p).length:=by rw [trim_map,List.length_map]
 unfold needF needT
 congr 1
 refine List.filter_eq_self.2 fun i hi=>?_
 exact trim_all hP (by rw [← hlen]; exact List.mem_range.1 hi)
theorem cntT_self {p:PatchD} (hP:patchB p=true):cntT (trimP p)=cellN (trimP p).2.2.1:=by
 unfold cntT cntK;rw [List.take_length,need_trim hP,List.map_map];unfold cellN
 congr 1
 refine List.ext_getElem (by simp) fun i h1 h2=>?_
 have hi:i < (trimP p).2.2.1.length:=by simpa using h2
 simp [List.getD,hi]
theorem cols_mat (f:Nat→List Int) (rows wd:Nat):(List.range rows).map (rowC ((List.range wd).map f))=matC f rows wd:=by
 unfold matC rowC;refine List.map_congr_left fun i _=>?_
 rw [List.map_map]; rfl
theorem cols_len {f:Nat→List Int} {rows wd:Nat} (h :∀j,(f j).length=rows) :∀j,j < ((List.range wd).map f).length→(((List.range wd).map f).getD j []).length=rows:=by
 intro j hj
 have hj':j < wd:=by simpa using hj
 simp [List.getD,hj',h]
theorem stC_len {q:PatchD} (hF:formedB q=true) (j:Nat):(stC q j).1.length=cellN q.2.2.1∧(stC q j).2.length=q.2.2.2.length:=colM_len hF (unitL_ok _ _).1 (unitL_ok _ _).2 (zerL_ok _).2
theorem inC_len {q:PatchD} (hF:formedB q=true) (j:Nat):(inC q j).1.length=cellN q.2.2.1∧(inC q j).2.length=q.2.2.2.length:=colM_len hF (zerL_ok _).1 (zerL_ok _).2 (unitL_ok _ _).2
def linLike (ps:List PatchD) (p:PatchD):Bool:=linB p && decide (p.1=(ps.getD 0 ((0,[],[],[]):PatchD)).1) && decide (p.2.2.2.length=(ps.getD 0 ((0,[],[],[]):PatchD)).2.2.2.length)
def codeL (ps:List PatchD):Int:=match ps.all patchB with
 | false=>1
 | true=>match ps.all (linLike ps) with
   | false=>6
   | true=>match ps.all (fun p=>decide (cntT p≤24)) with
     | false=>5
     | true=>0
theorem codeL_1 {ps:List PatchD} (h:ps.all patchB=false):codeL ps=1:=by unfold codeL; rw [h]
theorem codeL_6 {ps:List PatchD} (h:ps.all patchB=true) (k:ps.all (linLike ps)=false):codeL ps=6:=by unfold codeL; rw [h,k]
theorem codeL_5 {ps:List PatchD} (h:ps.all patchB=true) (k:ps.all (linLike ps)=true) (l:ps.all (fun p=>decide (cntT p≤24))=false):codeL ps=5:=by unfold codeL; rw [h,k,l]
theorem codeL_0 {ps:List PatchD} (h:ps.all patchB=true) (k:ps.all (linLike ps)=true) (l:ps.all (fun p=>decide (cntT p≤24))=true):codeL ps=0:=by unfold codeL; rw [h,k,l]
theorem codeL_one (p:PatchD):codeL [p]=linCode p:=by
 unfold codeL linCode;have e:linLike [p] p=linB p:=by simp [linLike]
 simp only[List.all_cons,List.all_nil,Bool.and_true,e,cntT_trim];cases patchB p<;>simp only
 cases linB p<;>simp only
 by_cases h:cellN (trimP p).2.2.1≤24
 · rw [decide_eq_true h,decide_eq_false (show ¬ 24 < cellN (trimP p).2.2.1 by omega)]
 · rw [decide_eq_false h,decide_eq_true (show 24 < cellN (trimP p).2.2.1 by omega)]
theorem all_at {α:Type} {f:α→Bool} {xs:List α} {d:α} (h:xs.all f=true) {k:Nat} (hk:k < xs.length):f (xs.getD k d)=true:=List.all_eq_true.1 h _ (getD_mem hk)
end Go.Proofs.YtgmabhkmiokiaaaGreat
