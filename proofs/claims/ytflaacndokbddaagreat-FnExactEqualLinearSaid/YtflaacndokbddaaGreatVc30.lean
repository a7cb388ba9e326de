/-
  Texts of this claim, joined (part 30). No condition beyond those of the theorems.
-/
import Derived.Test.YtflaacndokbddaaGreatVc29
import Derived.Test.YtflaacndokbddaaGreatVc10
import Derived.Test.YtflaacndokbddaaGreatVc16
import Derived.Test.YtflaacndokbddaaGreatVc27
namespace Go.Proofs.YtflaacndokbddaaGreat
open Go.RowKit
set_option linter.unusedSimpArgs false
set_option linter.unusedVariables false
set_option maxRecDepth 100000
set_option maxHeartbeats 4000000
def K_l09Transfer:Con:=⟨[.ptr (.prod (.int .i64) (.prod (.row 26 (.row 2 (.int .i64))) (.prod (.row 26 (.row 2 (.int .i64))) (.prod (.row 26 (.row 2 (.int .i64))) (.row 26 (.row 2 (.int .i64))))))),.val (.int .i64),.val (.int .i64)],[⟨(.prod (.row 2 (.int .i64)) (.row 2 (.int .i64))),true⟩],fun x=>linW x.1 x.1.2.1.length∧x.1.2.1.length≤24∧x.1.2.2.2.1.length≤1000∧0≤x.2.1∧(0≤x.2.2.1∧x.2.2.1 < x.1.2.2.2.1.length),fun x=>trnL x.1 x.2.1 x.2.2.1⟩
theorem l09Transfer_ok:PureT Tryz.prog 92 K_l09Transfer:=by
  refine pure_of_body Tryz.func92 rfl ?_
  have hres:Tryz.f92.results.toList=[.cell 6 69]:=rfl
  rintro ⟨⟨(ni:Int),(la:List (List Int)),(lb:List (List Int)),(lc:List (List Int)),(ld:List (List Int))⟩,(ii:Int),(oo:Int),_⟩ hc hL
  simp only[K_l09Transfer,go_sem] at hL
  simp only[K_l09Transfer,St.init,St.initG,Tryz.ntmps92,go_sem] 
  obtain ⟨hW,ha1,hc1,hi0,⟨ho0,ho1⟩⟩:=(show linW (ni,la,lb,lc,ld) la.length∧la.length≤24∧lc.length≤1000∧0≤ii∧(0≤oo∧oo < lc.length) from hc)
  have hsq:rowsSq la:=⟨hW.a,by omega⟩
  have hdl:(chN la la.length).length=la.length+1:=chN_len _ _
  have hnr:inR ((la.length:Int)+1) 0 100000=true:=inR_t (by omega) (by omega)
  have hrc:linW (ni,la,lb,lc,ld) la.length∧la.length≤1000∧lc.length≤1000∧0≤ii∧(0≤oo∧oo < lc.length)∧inR ((la.length:Int)+1) 0 100000=true:=⟨hW,by omega,hc1,hi0,⟨ho0,ho1⟩,hnr⟩
  have hdc:(((chN la la.length).length:Nat):Int)=(la.length:Int)+1:=by omega
  have htn:Int.toNat ((la.length:Int)+1)=la.length+1:=by omega
  have hrl:(rspL (ni,la,lb,lc,ld) ii oo (la.length+1)).length=la.length+1:=rspL_len _ _ _ _
  have hmc:(chN la la.length).length≤400∧(rspL (ni,la,lb,lc,ld) ii oo (la.length+1)).length≤400:=⟨by omega,by omega⟩
  have hpl:(prodL (chN la la.length) (rspL (ni,la,lb,lc,ld) ii oo (la.length+1))).length≤1000:=by have h:=(trimL_len (convN (chN la la.length) (rspL (ni,la,lb,lc,ld) ii oo (la.length+1)) ((chN la la.length).length+(rspL (ni,la,lb,lc,ld) ii oo (la.length+1)).length))).2; rw [convN_len] at h; have h2:(prodL (chN la la.length) (rspL (ni,la,lb,lc,ld) ii oo (la.length+1)))=trimL (convN (chN la la.length) (rspL (ni,la,lb,lc,ld) ii oo (la.length+1)) ((chN la la.length).length+(rspL (ni,la,lb,lc,ld) ii oo (la.length+1)).length)):=rfl; rw [h2]; omega
  have hd1:(chN la la.length).length≤1000:=by omega
  have hpt:((prodL (chN la la.length) (rspL (ni,la,lb,lc,ld) ii oo (la.length+1))).take (la.length+1)).length≤1000:=by rw [List.length_take]; omega
  refine oS fun _ hK1=>?_
  refine oW T_l09Response_ok ?_
  simp only[go_sem]
  refine hK1 _ ?_
  refine oS fun _ hK2=>?_
  refine oW T_l09Response_ok ?_
  simp (maxSteps:=2000000)only[go_sem]
  repeat (with_reducible first | refine oA ?_ | refine And.intro (by first | exact hsq) ?_)
  refine hK2 _ ?_
  refine oS fun _ hK3=>?_
  refine oW T_l09Response_ok ?_
  simp only[hdc,go_sem]
  refine hK3 _ ?_
  refine oS fun _ hK4=>?_
  refine oW T_l09Response_ok ?_
  simp (maxSteps:=2000000)only[hdc,htn,go_sem]
  repeat (with_reducible first | refine oA ?_ | refine And.intro (by first | exact hrc | exact hmc) ?_)
  refine hK4 _ ?_
  refine oS fun _ hK5=>?_
  refine oS fun _ hK6=>?_
  refine oW T_l09Response_ok ?_
  simp only[go_sem]
  refine hK6 _ ?_
  refine oC rfl ?_ ?_
  ·
   intro c0
   refine oW T_l09Response_ok ?_
   simp only[htn,go_sem]
   repeat (with_reducible first | refine oA ?_ | refine And.intro (by first | omega) ?_)
   refine hK5 _ ?_
   refine oS fun _ hK7=>?_
   refine oW T_l09Response_ok ?_
   simp (maxSteps:=2000000)only[List.nodup_cons,List.nodup_nil,List.not_mem_nil,not_false_eq_true,go_sem]
   repeat (with_reducible first | refine oA ?_ | refine And.intro (by first | exact hpl | exact hd1 | exact hpt) ?_)
   refine hK7 _ ?_
   refine AWP_ret ?_
   simp only[hres,go_sem]
   first
    | exact oF
    | refine ⟨?_,oF⟩
      have h1:=prodL_cut (chN la la.length) (rspL (ni,la,lb,lc,ld) ii oo (la.length+1)) (la.length+1)
      first | rw [h1] | rw [prodL_short (n:=la.length+1) (by omega)]
      first | done | rfl | exact ⟨rfl,rfl⟩
  intro c0
  refine AWP_skip ?_
  simp only[go_sem]
  refine hK5 _ ?_
  refine oS fun _ hK8=>?_
  refine oW T_l09Response_ok ?_
  simp (maxSteps:=2000000)only[List.nodup_cons,List.nodup_nil,List.not_mem_nil,not_false_eq_true,go_sem]
  repeat (with_reducible first | refine oA ?_ | refine And.intro (by first | exact hpl | exact hd1 | exact hpt) ?_)
  refine hK8 _ ?_
  refine AWP_ret ?_
  simp only[hres,go_sem]
  first
   | exact oF
   | refine ⟨?_,oF⟩
     have h1:=prodL_cut (chN la la.length) (rspL (ni,la,lb,lc,ld) ii oo (la.length+1)) (la.length+1)
     first | rw [h1] | rw [prodL_short (n:=la.length+1) (by omega)]
     first | done | rfl | exact ⟨rfl,rfl⟩
def T_l09Transfer:Tab:=fun f=>if f=92 then some (.p K_l09Transfer) else T_l09Response f
theorem T_l09Transfer_ok:TabOk Tryz.prog T_l09Transfer:=tabP l09Transfer_ok (fnOk_of Tryz.func92 rfl (by decide)) T_l09Response_ok
attribute [go_sem] T_l09Transfer K_l09Transfer
def T_specTrnOf:Tab:=T_l09Transfer
theorem T_specTrnOf_ok:TabOk Tryz.prog T_specTrnOf:=T_l09Transfer_ok
attribute [go_sem] T_specTrnOf
theorem linK_kT {x:Int} (h:inR x 1 17=true):(kT x).2.2.2.1=linKB x:=by
 obtain ⟨h1,h2⟩:=inR_iff.1 h
 have:x=1∨x=2∨x=3∨x=4∨x=5∨x=6∨x=7∨x=8∨x=9∨x=10∨x=11∨x=12∨x=13∨x=14∨x=15∨x=16∨x=17:=by omega
 rcases this with h | h | h | h | h | h | h | h | h | h | h | h | h | h | h | h | h<;>subst h<;>rfl
theorem kind_in {p:PatchD} (hF:formedB p=true) {i:Nat} (hi:i < p.2.2.1.length):inR (p.2.2.1.getD i n0).1 1 17=true:=by
 have h:=nodeB_4 hF hi
 unfold nodeB at h
 simp only[Bool.and_eq_true] at h
 exact h.1.1.1.1.1
theorem nodeC_at {p:PatchD} (hF:formedB p=true) {i:Nat} (hi:i < p.2.2.1.length):nodeC (p.2.2.1.getD i n0):=⟨_,nodeB_4 hF hi⟩
def cntK (ns:List NodeD) (kp:List Int) (k:Nat):Nat:=((kp.take k).map fun i=>(startV (ns.getD i.toNat n0)).length).sum
theorem cntK_next {ns:List NodeD} {kp:List Int} {k:Nat} (h:k < kp.length):cntK ns kp (k+1)=cntK ns kp k+(startV (ns.getD (kp.getD k 0).toNat n0)).length:=by
 unfold cntK
 rw [take_next (d:=(0:Int)) h,List.map_append,List.sum_append]; simp
theorem cntK_16 {p:PatchD} (hF:formedB p=true) {kp:List Int} (hr :∀j,j < kp.length→0≤kp.getD j 0∧kp.getD j 0 < p.2.2.1.length) :∀k,k≤kp.length→cntK p.2.2.1 kp k≤16 * k:=by
 intro k
 induction k with
 | zero=>intro _; simp [cntK]
 | succ k ih =>
   intro h
   have h1:=ih (by omega)
   have h2:=cntK_next (ns:=p.2.2.1) (kp:=kp) (k:=k) (by omega)
   have h3:=start_16 hF (i:=(kp.getD k 0).toNat) (by have:=hr k (by omega); omega)
   omega
def cntT (p:PatchD):Nat:=cntK p.2.2.1 (needF p) (needF p).length
theorem cntT_trim (p:PatchD):cntT p=cellN (trimP p).2.2.1:=by
 rw [trim_cells]; unfold cntT cntK; rw [List.take_length]
theorem drop_off {ns:List NodeD} {c:List Int} {k:Nat} (h:k < ns.length):(c.drop (offN ns k)).drop (startV (ns.getD k n0)).length=c.drop (offN ns (k+1)):=by
 rw [List.drop_drop,offN_next h]
def rowC (cols:List (List Int)) (i:Nat):List Int:=cols.map fun c=>c.getD i 0
def rowsP (cols:List (List Int)) (rows i:Nat):List (List Int):=((List.range i).map (rowC cols))++List.replicate (rows - i) []
theorem rowsP_len {cols:List (List Int)} {rows i:Nat} (h:i≤rows):(rowsP cols rows i).length=rows:=by simp [rowsP]; omega
theorem rowsP_0 (cols:List (List Int)) (rows:Nat):rowsP cols rows 0=List.replicate rows []:=by simp [rowsP]
theorem rowsP_all (cols:List (List Int)) (rows:Nat):rowsP cols rows rows=(List.range rows).map (rowC cols):=by simp [rowsP]
def rowsQ (cols:List (List Int)) (rows i j:Nat):List (List Int):=(rowsP cols rows i).set i (rowC (cols.take j) i)
theorem rowsQ_len {cols:List (List Int)} {rows i j:Nat} (h:i≤rows):(rowsQ cols rows i j).length=rows:=by rw [rowsQ,List.length_set,rowsP_len h]
theorem rowsQ_at {cols:List (List Int)} {rows i j:Nat} (h:i < rows):(rowsQ cols rows i j).getD i []=rowC (cols.take j) i:=by
 have hl:i < (rowsP cols rows i).length:=by rw [rowsP_len (by omega)]; exact h
 simp [rowsQ,List.getD,hl]
theorem rowsQ_0 {cols:List (List Int)} {rows i:Nat}:(rowsP cols rows i).set i []=rowsQ cols rows i 0:=by simp [rowsQ,rowC]
theorem rowC_next {cols:List (List Int)} {i j:Nat} (h:j < cols.length):rowC (cols.take j) i++[(cols.getD j []).getD i 0]=rowC (cols.take (j+1)) i:=by
 unfold rowC; rw [take_next (d:=([]:List Int)) h,List.map_append]; rfl
theorem rowsQ_next {cols:List (List Int)} {rows i j:Nat} (h:i < rows) (hj:j < cols.length):(rowsQ cols rows i j).set i (rowC (cols.take j) i++[(cols.getD j []).getD i 0])=rowsQ cols rows i (j+1):=by
 rw [rowC_next hj]; unfold rowsQ; rw [List.set_set]
theorem rowsQ_end {cols:List (List Int)} {rows i j:Nat} (h:i < rows) (hj:cols.length≤j):rowsQ cols rows i j=rowsP cols rows (i+1):=by
 unfold rowsQ
 rw [List.take_of_length_le hj]
 unfold rowsP
 rw [show rows - i=(rows - (i+1))+1 by omega,List.replicate_succ,List.set_append_right _ _ (by simp)]
 simp [List.range_succ]
theorem trim_all {p:PatchD} (hP:patchB p=true) {c:Nat} (hc:c < (needF p).length):(marksF (trimP p)).getD c false=true:=by
 have hF:=(patchB_parts hP).1
 have hT:=(patchB_parts (trim_patch hP)).1
 have hby :∀j,j < (needF p).length→(byT p).getD ((needF p).getD j 0).toNat 0=(j:Int):=fun j hj=>byL_at (fun j hj=>need_rng j hj) (fun i j hi hj e=>need_inj i j hi hj e) _ (Nat.le_refl _) j hj
 have hlen:(trimP p).2.2.1.length=(needF p).length:=by rw [trim_map,List.length_map]
 have key :∀i,(marksF p).getD i false=true→(marksF p).getD i false=true∧∀ c,c < (needF p).length→((needF p).getD c 0).toNat=i→(marksF (trimP p)).getD c false=true:=by
  intro i hi
  refine marks_least hF (fun i=>(marksF p).getD i false=true∧∀ c,c < (needF p).length→((needF p).getD c 0).toNat=i→(marksF (trimP p)).getD c false=true) (fun i hi h y hy=>?_) (fun y hy=>?_) i hi
  · obtain ⟨h1,h2⟩:=h
    refine ⟨marks_from hF hi h1 hy,fun c' hc' e=>?_⟩
    obtain ⟨c,hcl,hce⟩ :∃c,c < (needF p).length∧(needF p).getD c 0=(i:Int):=by
     have:(i:Int)∈needF p:=need_mem.2 ⟨i,hi,h1,rfl⟩
     obtain ⟨c,hcl,hce⟩:=List.mem_iff_getElem.1 this
     exact ⟨c,hcl,by simp [List.getD,hcl,hce]⟩
    have h3:=h2 c hcl (by rw [hce]; simp)
    have hnd:(trimP p).2.2.1.getD c n0=mrgX (byT p) (p.2.2.1.getD i n0):=by
     rw [trim_map]
     simp only[List.getD,List.getElem?_map,List.getElem?_eq_getElem hcl,Option.map_some,Option.getD_some]
     have:(needF p)[c]=(i:Int):=by rw [← hce]; simp [List.getD,hcl]
     rw [this]; simp
    have hmem:(byT p).getD y.toNat 0∈((trimP p).2.2.1.getD c n0).2.2.2:=by
     rw [hnd]; exact List.mem_map.2 ⟨y,hy,rfl⟩
    have h4:=marks_from hT (show c < (trimP p).2.2.1.length by omega) h3 hmem
    rw [← e,hby c' hc'] at h4
    simpa using h4
  · refine ⟨marks_out hF hy,fun c' hc' e=>?_⟩
    have hmem:(byT p).getD y.toNat 0∈(trimP p).2.2.2:=List.mem_map.2 ⟨y,hy,rfl⟩
    have h4:=marks_out hT hmem
    rw [← e,hby c' hc'] at h4
    simpa using h4
 obtain ⟨i,h1,h2,h3⟩:=need_mem.1 (getD_mem (d:=(0:Int)) hc)
 exact (key i h2).2 c hc (by rw [h3]; simp)
theorem need_trim {p:PatchD} (hP:patchB p=true):needF (trimP p)=(List.range (trimP p).2.2.1.length).map fun (i:Nat)=>(i:Int):=by
 have hlen:(trimP p).2.2.1.length=(needF p).length:=by rw [trim_map,List.length_map]
 unfold needF needT
 congr 1
 refine List.filter_eq_self.2 fun i hi=>?_
 exact trim_all hP (by rw [← hlen]; exact List.mem_range.1 hi)
theorem cntT_self {p:PatchD} (hP:patchB p=true):cntT (trimP p)=cellN (trimP p).2.2.1:=by
 unfold cntT cntK
 rw [List.take_length,need_trim hP,List.map_map]
 unfold cellN
 congr 1
 refine List.ext_getElem (by simp) fun i h1 h2=>?_
 have hi:i < (trimP p).2.2.1.length:=by simpa using h2
 simp [List.getD,hi]
theorem cols_mat (f:Nat→List Int) (rows wd:Nat):(List.range rows).map (rowC ((List.range wd).map f))=matC f rows wd:=by
 unfold matC rowC
 refine List.map_congr_left fun i _=>?_
 rw [List.map_map]; rfl
theorem cols_len {f:Nat→List Int} {rows wd:Nat} (h :∀j,(f j).length=rows) :∀j,j < ((List.range wd).map f).length→(((List.range wd).map f).getD j []).length=rows:=by
 intro j hj
 have hj':j < wd:=by simpa using hj
 simp [List.getD,hj',h]
theorem stC_len {q:PatchD} (hF:formedB q=true) (j:Nat):(stC q j).1.length=cellN q.2.2.1∧(stC q j).2.length=q.2.2.2.length:=colM_len hF (unitL_ok _ _).1 (unitL_ok _ _).2 (zerL_ok _).2
theorem inC_len {q:PatchD} (hF:formedB q=true) (j:Nat):(inC q j).1.length=cellN q.2.2.1∧(inC q j).2.length=q.2.2.2.length:=colM_len hF (zerL_ok _).1 (zerL_ok _).2 (unitL_ok _ _).2
def linLike (ps:List PatchD) (p:PatchD):Bool:=linB p && decide (p.1=(ps.getD 0 ((0,[],[],[]):PatchD)).1) && decide (p.2.2.2.length=(ps.getD 0 ((0,[],[],[]):PatchD)).2.2.2.length)
def codeL (ps:List PatchD):Int:=match ps.all patchB with
 | false=>1
 | true=>match ps.all (linLike ps) with
   | false=>6
   | true=>match ps.all (fun p=>decide (cntT p≤24)) with
     | false=>5
     | true=>0
theorem codeL_1 {ps:List PatchD} (h:ps.all patchB=false):codeL ps=1:=by unfold codeL; rw [h]
theorem codeL_6 {ps:List PatchD} (h:ps.all patchB=true) (k:ps.all (linLike ps)=false):codeL ps=6:=by unfold codeL; rw [h,k]
theorem codeL_5 {ps:List PatchD} (h:ps.all patchB=true) (k:ps.all (linLike ps)=true) (l:ps.all (fun p=>decide (cntT p≤24))=false):codeL ps=5:=by unfold codeL; rw [h,k,l]
theorem codeL_0 {ps:List PatchD} (h:ps.all patchB=true) (k:ps.all (linLike ps)=true) (l:ps.all (fun p=>decide (cntT p≤24))=true):codeL ps=0:=by unfold codeL; rw [h,k,l]
theorem all_at {α:Type} {f:α→Bool} {xs:List α} {d:α} (h:xs.all f=true) {k:Nat} (hk:k < xs.length):f (xs.getD k d)=true:=List.all_eq_true.1 h _ (getD_mem hk)
def eqTrB (a b:TrD):Bool:=decide (prodL a.1 b.2=prodL b.1 a.2)
def polyB (p:List Int):Bool:=decide (1≤p.length) && decide (p.length≤65) && smps p && (decide (p.length=1) || decide (¬ p.getD (p.length - 1) 0=0))
def trB (t:TrD):Bool:=polyB t.1 && polyB t.2 && decide (t.2.getD 0 0=1)
theorem polyB_trim {l:List Int} (h:l.length≤65) (hs:smps l=true):polyB (trimL l)=true:=by
 have h1:=trimL_len l
 have h2:=trimL_smp hs
 unfold polyB
 rw [decide_eq_true h1.1,decide_eq_true (show (trimL l).length≤65 by omega),h2]
 rcases trimL_last l with h | h
 · rw [decide_eq_true h]; rfl
 · rw [decide_eq_true h]; simp
theorem polyB_parts {p:List Int} (h:polyB p=true):1≤p.length∧p.length≤65∧smps p=true:=by
 unfold polyB at h
 simp only[Bool.and_eq_true,decide_eq_true_eq] at h
 exact ⟨h.1.1.1,h.1.1.2,h.1.2⟩
theorem trnL_ok {x:LinD} (h:x.2.1.length≤24) (i o:Int):trB (trnL x i o)=true:=by
 unfold trB trnL
 have hd:(trimL (chN x.2.1 x.2.1.length)).getD 0 0=1:=by rw [trimL_at,chN_1]
 simp only[hd]
 rw [polyB_trim (by rw [convN_len]; omega) (convN_smp _ _ _),polyB_trim (by rw [chN_len]; omega) (chN_smp _ _)]
 rfl
theorem trB_len {t:TrD} (h:trB t=true):(1≤t.1.length∧t.1.length≤65∧smps t.1=true)∧(1≤t.2.length∧t.2.length≤65∧smps t.2=true)∧t.2.getD 0 0=1:=by
 unfold trB at h
 simp only[Bool.and_eq_true,decide_eq_true_eq] at h
 exact ⟨polyB_parts h.1.1,polyB_parts h.1.2,h.2⟩
def eqlR (p q:PatchD):Bool × Int:=match decide (codeL [p,q]=0) with
 | false=>(false,codeL [p,q])
 | true=>((List.range p.1.toNat).all fun i=>(List.range p.2.2.2.length).all fun o=>eqTrB (trnL (linM (trimP p)) (i:Int) (o:Int)) (trnL (linM (trimP q)) (i:Int) (o:Int)),0)
theorem eqlR_f {p q:PatchD} (h:¬ codeL [p,q]=0):eqlR p q=(false,codeL [p,q]):=by unfold eqlR; rw [decide_eq_false h]
theorem eqlR_no {p q:PatchD} (h:codeL [p,q]=0) {x y:LinD} (hx:linM (trimP p)=x) (hy:linM (trimP q)=y) {i o:Nat} (hi:i < p.1.toNat) (ho:o < p.2.2.2.length) (e:eqTrB (trnL x (i:Int) (o:Int)) (trnL y (i:Int) (o:Int))=false):eqlR p q=(false,0):=by
 unfold eqlR
 rw [decide_eq_true h,hx,hy]
 simp only[Prod.mk.injEq,and_true]
 exact List.all_eq_false.2 ⟨i,List.mem_range.2 hi,by
  intro hh
  have:=List.all_eq_true.1 hh o (List.mem_range.2 ho)
  rw [e] at this; cases this⟩
theorem eqlR_yes {p q:PatchD} (h:codeL [p,q]=0) {x y:LinD} (hx:linM (trimP p)=x) (hy:linM (trimP q)=y) (e :∀i,i < p.1.toNat→∀ o,o < p.2.2.2.length→eqTrB (trnL x (i:Int) (o:Int)) (trnL y (i:Int) (o:Int))=true):eqlR p q=(true,0):=by
 unfold eqlR
 rw [decide_eq_true h,hx,hy]
 simp only[Prod.mk.injEq,and_true]
 exact List.all_eq_true.2 fun i hi=>List.all_eq_true.2 fun o ho=>e i (List.mem_range.1 hi) o (List.mem_range.1 ho)
theorem codeL_two (p q:PatchD):codeL [p,q]=match patchB p && patchB q with
 | false=>1
 | true=>match linB p && linB q && decide (p.1=q.1) && decide (p.2.2.2.length=q.2.2.2.length) with
   | false=>6
   | true=>match decide (cntT p≤24) && decide (cntT q≤24) with
     | false=>5
     | true=>0:=by
 unfold codeL
 have e:[p,q].all (linLike [p,q])=(linB p && linB q && decide (p.1=q.1) && decide (p.2.2.2.length=q.2.2.2.length)):=by
  simp only[List.all_cons,List.all_nil,linLike,List.getD_cons_zero,decide_true,Bool.and_true]
  rw [Bool.eq_iff_iff]
  simp only[Bool.and_eq_true,decide_eq_true_eq]
  constructor
  · rintro ⟨h1,⟨h2,h3⟩,h4⟩; exact ⟨⟨⟨h1,h2⟩,h3.symm⟩,h4.symm⟩
  · rintro ⟨⟨⟨h1,h2⟩,h3⟩,h4⟩; exact ⟨h1,⟨h2,h3.symm⟩,h4.symm⟩
 rw [e]
 first
  | (simp only[List.all_cons,List.all_nil,Bool.and_true]; done)
  | (simp only[List.all_cons,List.all_nil,Bool.and_true]; rfl)
theorem two_1 {p q:PatchD} (h:(patchB p && patchB q)=false):codeL [p,q]=1:=by rw [codeL_two,h]
theorem two_6 {p q:PatchD} (h:(patchB p && patchB q)=true) (k:(linB p && linB q && decide (p.1=q.1) && decide (p.2.2.2.length=q.2.2.2.length))=false):codeL [p,q]=6:=by rw [codeL_two,h,k]
structure two (p q:PatchD):Prop where
 ok:patchB p=true
 ok':patchB q=true
 lp:linB p=true
 lq:linB q=true
 i:p.1=q.1
 o:p.2.2.2.length=q.2.2.2.length
theorem two_of {p q:PatchD} (h:(patchB p && patchB q)=true) (k:(linB p && linB q && decide (p.1=q.1) && decide (p.2.2.2.length=q.2.2.2.length))=true):two p q:=by
 simp only[Bool.and_eq_true,decide_eq_true_eq] at h k
 exact ⟨h.1,h.2,k.1.1.1,k.1.1.2,k.1.2,k.2⟩
theorem lin_05 {p:PatchD} (hP:patchB p=true) (hl:linB p=true):(linCode p=0↔cntT p≤24)∧(linCode p=0∨linCode p=5):=by
 rw [cntT_trim]
 by_cases h:24 < cellN (trimP p).2.2.1
 · rw [linCode_5 hP hl h]; exact ⟨⟨fun e=>(by cases e),fun e=>by omega⟩,Or.inr rfl⟩
 · rw [linCode_0 hP hl (by omega)]; exact ⟨⟨fun _=>by omega,fun _=>rfl⟩,Or.inl rfl⟩
theorem two_5 {p q:PatchD} (h:two p q) (k:¬ (linCode p=0∧linCode q=0)):codeL [p,q]=5:=by
 rw [codeL_two,h.ok,h.ok',h.lp,h.lq,decide_eq_true h.i,decide_eq_true h.o]
 have h1:=(lin_05 h.ok h.lp).1
 have h2:=(lin_05 h.ok' h.lq).1
 by_cases c:cntT p≤24
 · rw [decide_eq_true c,decide_eq_false (fun d=>k ⟨h1.2 c,h2.2 d⟩)]; rfl
 · rw [decide_eq_false c]; rfl
theorem two_0 {p q:PatchD} (h:two p q) (k:linCode p=0) (l:linCode q=0):codeL [p,q]=0:=by
 rw [codeL_two,h.ok,h.ok',h.lp,h.lq,decide_eq_true h.i,decide_eq_true h.o,decide_eq_true ((lin_05 h.ok h.lp).1.1 k),decide_eq_true ((lin_05 h.ok' h.lq).1.1 l)]
 rfl
theorem two_x {p q:PatchD} (h:codeL [p,q]=0):two p q∧linOkP p∧linOkP q:=by
 rw [codeL_two] at h
 cases a:(patchB p && patchB q) with
 | false=>rw [a] at h; cases h
 | true =>
   rw [a] at h
   cases b:(linB p && linB q && decide (p.1=q.1) && decide (p.2.2.2.length=q.2.2.2.length)) with
   | false=>rw [b] at h; cases h
   | true =>
     rw [b] at h
     cases c:(decide (cntT p≤24) && decide (cntT q≤24)) with
     | false=>rw [c] at h; cases h
     | true =>
       simp only[Bool.and_eq_true,decide_eq_true_eq] at c
       have t:=two_of a b
       exact ⟨t,linOk_of ((lin_05 t.ok t.lp).1.2 c.1),linOk_of ((lin_05 t.ok' t.lq).1.2 c.2)⟩
end Go.Proofs.YtflaacndokbddaaGreat
