/-
  Texts of this claim, joined (part 27). No condition beyond those of the theorems.
-/
import Derived.Test.YtflaacndokbddaaGreatVc26
import Derived.Test.YtflaacndokbddaaGreatVc05
namespace Go.Proofs.YtflaacndokbddaaGreat
open Go.RowKit
set_option linter.unusedSimpArgs false
set_option linter.unusedVariables false
def timesL (R:List (List Int)) (v:List Int):List Int:=(List.range R.length).map fun i=>dotN (R.getD i []) v v.length
def sumV (a b:List Int):List Int:=(List.range a.length).map fun i=>wrap32 (a.getD i 0+b.getD i 0)
theorem timesL_len (R:List (List Int)) (v:List Int):(timesL R v).length=R.length:=by simp [timesL]
theorem sumV_len (a b:List Int):(sumV a b).length=a.length:=by simp [sumV]
theorem timesL_at {R:List (List Int)} {v:List Int} {i:Nat} (h:i < R.length):(timesL R v).getD i 0=dotN (R.getD i []) v v.length:=range_at _ h
def timesK (R:List (List Int)) (v:List Int) (k:Nat):List Int:=(List.range k).map fun i=>dotN (R.getD i []) v v.length
theorem timesK_next (R:List (List Int)) (v:List Int) (k:Nat):timesK R v k++[dotN (R.getD k []) v v.length]=timesK R v (k+1):=map_range_next (fun i=>dotN (R.getD i []) v v.length) k
theorem timesK_len (R:List (List Int)) (v:List Int) (k:Nat):(timesK R v k).length=k:=by simp [timesK]
def sumK (a b:List Int) (k:Nat):List Int:=(List.range k).map fun i=>wrap32 (a.getD i 0+b.getD i 0)
theorem sumK_next (a b:List Int) (k:Nat):sumK a b k++[wrap32 (a.getD k 0+b.getD k 0)]=sumK a b (k+1):=map_range_next (fun i=>wrap32 (a.getD i 0+b.getD i 0)) k
theorem sumK_len (a b:List Int) (k:Nat):(sumK a b k).length=k:=by simp [sumK]
def stepL (x:LinD) (s f:List Int):List Int × List Int:=(sumV (timesL x.2.1 s) (timesL x.2.2.1 f),sumV (timesL x.2.2.2.1 s) (timesL x.2.2.2.2 f))
def rowsOk (R:List (List Int)) (m n:Nat):Prop:=R.length=m∧∀ i,i < m→(R.getD i []).length=n∧smps (R.getD i [])=true
structure linW (x:LinD) (n:Nat):Prop where
 a:rowsOk x.2.1 n n
 b:rowsOk x.2.2.1 n x.1.toNat
 c:rowsOk x.2.2.2.1 x.2.2.2.1.length n
 d:rowsOk x.2.2.2.2 x.2.2.2.1.length x.1.toNat
 i0:0≤x.1
 i4:x.1≤4
theorem step_ap {x:LinD} {n:Nat} (h:linW x n) {s f:List Int} (hs:s.length=n) (hf:f.length=x.1.toNat):stepL x s f=(apM x.2.1 x.2.2.1 s f,apM x.2.2.2.1 x.2.2.2.2 s f):=by
 have key :∀R S:List (List Int),∀ m,rowsOk R m n→rowsOk S m x.1.toNat→sumV (timesL R s) (timesL S f)=apM R S s f:=fun R S m h1 h2=>by
  unfold sumV apM
  rw [timesL_len]
  refine List.map_congr_left fun i hi=>?_
  have hi:i < R.length:=List.mem_range.1 hi
  rw [timesL_at hi,timesL_at (by rw [h2.1,← h1.1]; exact hi),(h1.2 i (by rw [← h1.1]; exact hi)).1,(h2.2 i (by rw [← h1.1]; exact hi)).1,hs,hf]
 unfold stepL
 rw [key _ _ _ h.a h.b,key _ _ _ h.c h.d]
theorem matC_ok {f:Nat→List Int} {m n:Nat} (h :∀j,j < n→(f j).length=m∧smps (f j)=true):rowsOk (matC f m n) m n:=by
 refine ⟨matC_len _ _ _,fun i hi=>?_⟩
 rw [matC_at hi]
 refine ⟨by simp,smps_iff.2 fun z hz=>?_⟩
 obtain ⟨j,hj,rfl⟩:=List.mem_map.1 hz
 have hj:=List.mem_range.1 hj
 obtain ⟨h1,h2⟩:=h j hj
 exact smps_iff.1 h2 _ (getD_mem (by omega))
theorem colM_smp {q:PatchD} (hF:formedB q=true) {c fr:List Int} (hc:c.length=cellN q.2.2.1) (hs:smps c=true) (hf:smps fr=true):smps (colM q c fr).1=true∧smps (colM q c fr).2=true:=by
 have hS:=setS_ok (q:=q) hc hs
 have hv:=valsL_ok' hF hS hf
 refine ⟨smps_iff.2 fun z hz=>?_,smps_iff.2 fun z hz=>?_⟩
 · obtain ⟨l,hl,hz⟩:=List.mem_flatten.1 hz
   have hn:=nextL_ok hF hS hf hv
   obtain ⟨i,hi,rfl⟩:=List.mem_iff_getElem.1 hl
   have hi':i < q.2.2.1.length:=by rw [← hn.1]; exact hi
   have h2:=(hn.2 i hi').2
   have e:(nextL q (setS q.2.2.1 c) fr (valsL q (setS q.2.2.1 c) fr)).getD i []=(nextL q (setS q.2.2.1 c) fr (valsL q (setS q.2.2.1 c) fr))[i]:=by simp [List.getD,hi]
   rw [e] at h2
   exact smps_iff.1 h2 _ hz
 · simp only[colM,outsL,List.mem_map] at hz
   obtain ⟨i,hi,rfl⟩:=hz
   exact smps_at hv.2 _
theorem linM_w {q:PatchD} (hF:formedB q=true):linW (linM q) (cellN q.2.2.1):=by
 have hi:=(formedB_parts hF).2.2.2
 have hu :∀n j,(unitL n j).length=n∧smps (unitL n j)=true:=unitL_ok
 have hz:=zerL_ok
 have s1 :∀j,(stC q j).1.length=cellN q.2.2.1∧(stC q j).2.length=q.2.2.2.length:=fun j=>colM_len hF (hu _ _).1 (hu _ _).2 (hz _).2
 have s2 :∀j,(inC q j).1.length=cellN q.2.2.1∧(inC q j).2.length=q.2.2.2.length:=fun j=>colM_len hF (hz _).1 (hz _).2 (hu _ _).2
 have t1 :∀j,smps (stC q j).1=true∧smps (stC q j).2=true:=fun j=>colM_smp hF (hu _ _).1 (hu _ _).2 (hz _).2
 have t2 :∀j,smps (inC q j).1=true∧smps (inC q j).2=true:=fun j=>colM_smp hF (hz _).1 (hz _).2 (hu _ _).2
 have ho:(linM q).2.2.2.1.length=q.2.2.2.length:=matC_len _ _ _
 refine ⟨matC_ok fun j _=>⟨(s1 j).1,(t1 j).1⟩,matC_ok fun j _=>⟨(s2 j).1,(t2 j).1⟩,?_,?_,hi.1,hi.2.1⟩
 · rw [ho]; exact matC_ok fun j _=>⟨(s1 j).2,(t1 j).2⟩
 · rw [ho]; exact matC_ok fun j _=>⟨(s2 j).2,(t2 j).2⟩
def rspF (x:LinD) (i:Int):Nat→List Int
 | 0=>unitL x.1.toNat i.toNat
 | _+1=>zerL x.1.toNat
def rspS (x:LinD) (i:Int):Nat→List Int
 | 0=>zerL x.2.1.length
 | t+1=>(stepL x (rspS x i t) (rspF x i t)).1
def rspO (x:LinD) (i:Int) (t:Nat):List Int:=(stepL x (rspS x i t) (rspF x i t)).2
def rspL (x:LinD) (i o:Int) (n:Nat):List Int:=(List.range n).map fun t=>(rspO x i t).getD o.toNat 0
theorem rspL_next (x:LinD) (i o:Int) (n:Nat):rspL x i o n++[(rspO x i n).getD o.toNat 0]=rspL x i o (n+1):=map_range_next (fun t=>(rspO x i t).getD o.toNat 0) n
theorem rspL_len (x:LinD) (i o:Int) (n:Nat):(rspL x i o n).length=n:=by simp [rspL]
theorem rspF_len (x:LinD) (i:Int) (t:Nat):(rspF x i t).length=x.1.toNat:=by
 cases t with
 | zero=>exact (unitL_ok _ _).1
 | succ t=>exact (zerL_ok _).1
theorem rspS_len (x:LinD) (i:Int) (t:Nat):(rspS x i t).length=x.2.1.length:=by
 cases t with
 | zero=>exact (zerL_ok _).1
 | succ t=>simp only[rspS,stepL]; rw [sumV_len,timesL_len]
theorem rspO_len (x:LinD) (i:Int) (t:Nat):(rspO x i t).length=x.2.2.2.1.length:=by
 simp only[rspO,stepL]; rw [sumV_len,timesL_len]
abbrev TrD:=List Int × List Int
def trnL (x:LinD) (i o:Int):TrD:=(trimL (convN (chN x.2.1 x.2.1.length) (rspL x i o (x.2.1.length+1)) (x.2.1.length+1)),trimL (chN x.2.1 x.2.1.length))
/-! A patch's render is its system's. -/
theorem flat_set :∀{ns:List NodeD} {s:List (List Int)},s.length=ns.length→(∀ i,i < ns.length→(s.getD i []).length=(startV (ns.getD i n0)).length)→setS ns s.flatten=s:=by
 intro ns
 induction ns with
 | nil=>intro s h _; rw [List.eq_nil_of_length_eq_zero h]; rfl
 | cons n ns ih =>
   intro s h hl
   cases s with
   | nil=>simp at h
   | cons a s =>
     have h0:a.length=(startV n).length:=hl 0 (by simp)
     simp only[List.flatten_cons,setS]
     rw [← h0,List.take_left',List.drop_left']
     · rw [ih (by simpa using h) fun i hi=>hl (i+1) (by simpa using hi)]
     · rfl
     · rfl
theorem flat_setS {q:PatchD} {s:List (List Int)} (h:StOk q s):setS q.2.2.1 s.flatten=s:=flat_set h.1 fun i hi=>(h.2 i hi).1
def impI (n:Nat) (i:Int):List (List Int):=(List.replicate n []).set i.toNat [1]
theorem impI_len (n:Nat) (i:Int):(impI n i).length=n:=by simp [impI]
theorem impI_at {n:Nat} {i:Int} (j:Nat):(impI n i).getD j []=if i.toNat=j∧j < n then [1] else []:=by
 unfold impI
 have hr :∀j,(List.replicate n ([]:List Int)).getD j []=[]:=fun j=>by
  by_cases h:j < n
  · simp [List.getD,h]
  · exact getD_ge (by simp; omega)
 by_cases h:i.toNat < n
 · rw [getD_set (by simpa using h),hr]
   by_cases e:i.toNat=j
   · rw [if_pos e,if_pos ⟨e,by omega⟩]
   · rw [if_neg e,if_neg (fun z=>e z.1)]
 · rw [List.set_eq_of_length_le (by simp; omega),hr,if_neg (by omega)]
theorem impI_ok {q:PatchD} (h0:0≤q.1) (i:Int):insOk q (impI q.1.toNat i):=by
 refine ⟨by rw [impI_len]; omega,fun a ha=>?_⟩
 obtain ⟨j,hj,rfl⟩:=List.mem_iff_getElem.1 ha
 have e:(impI q.1.toNat i)[j]=(impI q.1.toNat i).getD j []:=by simp [List.getD,hj]
 rw [e,impI_at]
 split
 · exact ⟨by simp,rfl⟩
 · exact ⟨by simp,rfl⟩
theorem impI_frame {n:Nat} {i:Int} (hi:i.toNat < n) (t:Nat):frameAt (impI n i) (t:Int)=match t with | 0=>unitL n i.toNat | _+1=>zerL n:=by
 refine ext_getD (by cases t<;>simp [frameAt,impI,unitL,zerL]) fun j=>?_
 by_cases hj:j < n
 · rw [frameAt_at (by rw [impI_len]; exact hj),impI_at,Int.toNat_natCast]
   cases t with
   | zero =>
     simp only
     rw [unitL_at hi]
     by_cases e:i.toNat=j
     · rw [if_pos ⟨e,hj⟩,if_pos e]; rfl
     · rw [if_neg (fun z=>e z.1),if_neg e]; rfl
   | succ t =>
     simp only
     rw [zerL_at]
     split
     · exact getD_ge (by simp)
     · rfl
 · rw [getD_ge (by simp [frameAt,impI]; omega),getD_ge (by cases t<;>simp [unitL,zerL]<;>omega)]
theorem startV_len0 {n:NodeD} (hk:linK n.1):startV n=zerL (startV n).length:=list_zero (startV_zero hk)
theorem start_flat {q:PatchD} (hp:linP q):(startL q).flatten=zerL (cellN q.2.2.1):=by
 unfold startL cellN
 have :∀ns:List NodeD,(∀ nd∈ns,linK nd.1)→(ns.map startV).flatten=zerL (ns.map fun n=>(startV n).length).sum:=by
  intro ns
  induction ns with
  | nil=>intro _; rfl
  | cons n ns ih =>
    intro h
    simp only[List.map_cons,List.flatten_cons,List.sum_cons]
    rw [ih fun nd hd=>h nd (List.mem_cons_of_mem _ hd)]
    have h1:=startV_len0 (h n (List.mem_cons_self))
    rw [h1]
    simp only[zerL,List.length_replicate,List.replicate_append_replicate]
 exact this _ hp
section
variable {q:PatchD} (hF:formedB q=true) (hp:linP q) {ins:List (List Int)} (hin:insOk q ins)
include hF hp hin
theorem st_step (t:Nat):(stN q ins (t+1)).flatten=apM (linM q).2.1 (linM q).2.2.1 (stN q ins t).flatten (frameAt ins (t:Int))∧outsL q (valN q ins t)=apM (linM q).2.2.2.1 (linM q).2.2.2.2 (stN q ins t).flatten (frameAt ins (t:Int)):=by
 have hS:=stN_ok hF hin t
 obtain ⟨f1,f2⟩:=frameAt_ok (p:=q) hin (t:Int)
 have hsm:smps (stN q ins t).flatten=true:=smps_iff.2 fun z hz=>by
  obtain ⟨l,hl,hz⟩:=List.mem_flatten.1 hz
  obtain ⟨i,hi,rfl⟩:=List.mem_iff_getElem.1 hl
  have hi':i < q.2.2.1.length:=by rw [← hS.1]; exact hi
  have h2:=(hS.2 i hi').2
  have e:(stN q ins t).getD i []=(stN q ins t)[i]:=by simp [List.getD,hi]
  rw [e] at h2
  exact smps_iff.1 h2 _ hz
 have h:=lin_step hF hp (c:=(stN q ins t).flatten) (f:=frameAt ins (t:Int)) (flat_len hS) hsm f1 f2
 rw [← h.1,← h.2]
 unfold colM
 rw [flat_setS hS,stN_next]
 exact ⟨rfl,rfl⟩
end
theorem rsp_st {q:PatchD} (hF:formedB q=true) (hp:linP q) {i:Int} (hi:i.toNat < q.1.toNat) (h0:0≤q.1) :∀t,(stN q (impI q.1.toNat i) t).flatten=rspS (linM q) i t:=by
 intro t
 have hW:=linM_w hF
 have hin:=impI_ok (q:=q) h0 i
 have hA:(linM q).2.1.length=cellN q.2.2.1:=hW.a.1
 induction t with
 | zero=>rw [stN_zero,start_flat hp]; simp only[rspS]; rw [hA]
 | succ t ih =>
   rw [(st_step hF hp hin t).1,ih]
   have hf:frameAt (impI q.1.toNat i) (t:Int)=rspF (linM q) i t:=by rw [impI_frame hi]; cases t<;>rfl
   rw [hf]
   simp only[rspS]
   rw [step_ap hW (by rw [rspS_len,hA]) (rspF_len _ _ _)]
theorem rsp_out {q:PatchD} (hF:formedB q=true) (hp:linP q) {i:Int} (hi:i.toNat < q.1.toNat) (h0:0≤q.1) (t:Nat):outsL q (valN q (impI q.1.toNat i) t)=rspO (linM q) i t:=by
 have hW:=linM_w hF
 have hin:=impI_ok (q:=q) h0 i
 have hA:(linM q).2.1.length=cellN q.2.2.1:=hW.a.1
 rw [(st_step hF hp hin t).2,rsp_st hF hp hi h0]
 have hf:frameAt (impI q.1.toNat i) (t:Int)=rspF (linM q) i t:=by rw [impI_frame hi]; cases t<;>rfl
 rw [hf]
 simp only[rspO]
 rw [step_ap hW (by rw [rspS_len,hA]) (rspF_len _ _ _)]
theorem linP_of {p:PatchD} (h:(p.2.2.1.all fun n=>linKB n.1)=true):linP p:=fun nd hd=>by
 have:=List.all_eq_true.1 h nd hd
 have this:linKB nd.1=true:=this
 unfold linKB at this
 unfold linK
 simp only[List.contains_cons,List.contains_nil,Bool.or_eq_true,beq_iff_eq,Bool.or_false] at this
 omega
theorem trim_linP {p:PatchD} (h:linB p=true):linP (trimP p):=linP_of (by rw [trim_lin]; exact h)
theorem render_rsp {p:PatchD} (hP:patchB p=true) (hl:linB p=true) {i o:Int} (hi:0≤i∧i < p.1) (ho:0≤o∧o < p.2.2.2.length) (n:Nat):(renderL p (impI p.1.toNat i) n).getD o.toNat []=rspL (linM (trimP p)) i o n:=by
 have hT:=trim_patch hP
 have hF:=(patchB_parts hT).1
 have hp:=trim_linP hl
 have h1:(trimP p).1=p.1:=rfl
 have h2:(trimP p).2.2.2.length=p.2.2.2.length:=by simp [trimP,keepP,clsM]
 have hin:insOk (trimP p) (impI p.1.toNat i):=impI_ok (q:=trimP p) (by omega) i
 have hinp:insOk p (impI p.1.toNat i):=impI_ok (by omega) i
 rw [trim_render hP hinp]
 refine ext_getD (by rw [lenN hF hin (by omega),rspL_len]) fun t=>?_
 by_cases ht:t < n
 · rw [colN hF hin (by omega) n ht]
   unfold rspL
   rw [range_at _ ht]
   show (outsL (trimP p) (valN (trimP p) (impI (trimP p).1.toNat i) t)).getD o.toNat 0=_
   rw [rsp_out hF hp (by omega) (by omega)]
 · rw [getD_ge (by rw [lenN hF hin (by omega)]; omega),getD_ge (by rw [rspL_len]; omega)]
def rowsSq (aa:List (List Int)):Prop:=rowsOk aa aa.length aa.length∧aa.length≤1000
theorem trim_end {xs:List Int} {n:Nat} (h:tl xs xs.length=tl xs n) (hn:n≤xs.length) (h0:0 < n) (he:n=1∨¬ xs.getD (n - 1) 0=0):trimL xs=xs.take n:=by
 by_cases c:xs.getD (n - 1) 0=0
 · have e : n = 1 := he.resolve_right fun z => z c
   subst e
   have c:xs.getD 0 0=0:=c
   rw [trimL_0 (by rw [h,tl_t c]; rfl)]
   cases xs with
   | nil=>simp at hn
   | cons x xs => have : x = 0 := by simpa using c
                  subst this; rfl
 · exact trimL_p (by rw [h,show n=(n - 1)+1 by omega,tl_f c]) h0
theorem trim_none {xs:List Int} (h:tl xs xs.length=tl xs 0):trimL xs=[0]:=trimL_0 h
theorem trim_go {xs:List Int} {n:Nat} (h:tl xs xs.length=tl xs n) (h0:0 < n) (c:xs.getD (n - 1) 0=0):tl xs xs.length=tl xs (n - 1):=by
 rw [h]
 conv=>lhs; rw [show n=(n - 1)+1 by omega]
 exact tl_t c
def ptN (aa:List (List Int)) (k i:Nat):List (List Int):=(List.range i).map fun j=>(aa.getD j []).take k
def c0N (aa:List (List Int)) (k i:Nat):List Int:=(List.range i).map fun j=>(aa.getD j []).getD k 0
theorem ptN_next (aa:List (List Int)) (k i:Nat):ptN aa k i++[(aa.getD i []).take k]=ptN aa k (i+1):=map_range_next (fun j=>(aa.getD j []).take k) i
theorem c0N_next (aa:List (List Int)) (k i:Nat):c0N aa k i++[(aa.getD i []).getD k 0]=c0N aa k (i+1):=map_range_next (fun j=>(aa.getD j []).getD k 0) i
theorem ptN_len (aa:List (List Int)) (k i:Nat):(ptN aa k i).length=i:=by simp [ptN]
theorem c0N_len (aa:List (List Int)) (k i:Nat):(c0N aa k i).length=i:=by simp [c0N]
theorem c0N_cl {aa:List (List Int)} (h:rowsSq aa) {k:Nat} (hk:k≤aa.length):c0N aa k k=clN aa k 0:=clN_0 k fun i hi=>(h.1.2 i (by omega)).2
theorem ptN_at {aa:List (List Int)} {k i:Nat} (h:i < k):(ptN aa k k).getD i []=(aa.getD i []).take k:=by simp [ptN,List.getD,h]
theorem pt_times (aa:List (List Int)) (k i:Nat):timesL (ptN aa k k) (clN aa k i)=clN aa k (i+1):=by
 rw [← clN_next]
 unfold timesL
 rw [ptN_len,clN_len]
 exact List.map_congr_left fun j hj=>by rw [ptN_at (List.mem_range.1 hj)]
theorem pt_one (aa:List (List Int)) (k i:Nat):timesL [(aa.getD k []).take k] (clN aa k i)=[dotN ((aa.getD k []).take k) (clN aa k i) k]:=by
 show [dotN ((aa.getD k []).take k) (clN aa k i) (clN aa k i).length]=_
 rw [clN_len]
def dotK (aa:List (List Int)) (k i m:Nat):List Int:=(List.range m).map fun j=>dotN ((aa.getD j []).take k) (clN aa k i) k
theorem dotK_next (aa:List (List Int)) (k i m:Nat):dotK aa k i m++[dotN ((aa.getD m []).take k) (clN aa k i) k]=dotK aa k i (m+1):=map_range_next (fun j=>dotN ((aa.getD j []).take k) (clN aa k i) k) m
theorem dotK_len (aa:List (List Int)) (k i m:Nat):(dotK aa k i m).length=m:=by simp [dotK]
theorem dotK_all (aa:List (List Int)) (k i:Nat):dotK aa k i k=clN aa k (i+1):=clN_next aa k i
theorem take_len {aa:List (List Int)} (h:rowsSq aa) {j k:Nat} (hj:j < aa.length) (hk:k≤aa.length):((aa.getD j []).take k).length=k:=by
 rw [List.length_take,(h.1.2 j hj).1]; omega
theorem one_ge {x:List Int} {m:Nat} (h:m≤x.length) :∀j,j < [x].length→m≤([x].getD j []).length:=fun j hj=>by
 have e:j=0:=by simpa using hj
 subst e; exact h
theorem linW.stp {x:LinD} {n:Nat} (h:linW x n):(∀ i,i < x.2.1.length→n≤(x.2.1.getD i []).length)∧(∀ i,i < x.2.2.1.length→x.1.toNat≤(x.2.2.1.getD i []).length)∧(∀ i,i < x.2.2.2.1.length→n≤(x.2.2.2.1.getD i []).length)∧(∀ i,i < x.2.2.2.2.length→x.1.toNat≤(x.2.2.2.2.getD i []).length) :=
 ⟨fun i hi=>Nat.le_of_eq (h.a.2 i (by rw [← h.a.1]; exact hi)).1.symm,fun i hi=>Nat.le_of_eq (h.b.2 i (by rw [← h.b.1]; exact hi)).1.symm,fun i hi=>Nat.le_of_eq (h.c.2 i hi).1.symm,fun i hi=>Nat.le_of_eq (h.d.2 i (by rw [← h.d.1]; exact hi)).1.symm⟩
def stepC' (x:LinD) (s f:List Int):Prop:=linW x s.length∧f.length=x.1.toNat∧s.length≤1000∧x.2.2.2.1.length≤1000
theorem linW.n {x:LinD} {n:Nat} (h:linW x n):x.2.1.length=n:=h.a.1
theorem rsp_stepC {x:LinD} (h:linW x x.2.1.length) (h1:x.2.1.length≤1000) (h2:x.2.2.2.1.length≤1000) (i:Int) (t:Nat):stepC' x (rspS x i t) (rspF x i t):=⟨by rw [rspS_len]; exact h,rspF_len _ _ _,by rw [rspS_len]; exact h1,h2⟩
theorem rsp_step (x:LinD) (i:Int) (t:Nat):stepL x (rspS x i t) (rspF x i t)=(rspS x i (t+1),rspO x i t):=rfl
structure linOkP (p:PatchD):Prop where
 ok:patchB p=true
 lin:linB p=true
 w:linW (linM (trimP p)) (linM (trimP p)).2.1.length
 n:(linM (trimP p)).2.1.length≤24
 i:(linM (trimP p)).1=p.1
 o:(linM (trimP p)).2.2.2.1.length=p.2.2.2.length
 i4:0≤p.1∧p.1≤4
 o4:p.2.2.2.length≤4
theorem linOk_of {p:PatchD} (h:linCode p=0):linOkP p:=by
 have hP:patchB p=true:=by
  cases h':patchB p with
  | true=>rfl
  | false=>rw [linCode_1 h'] at h; cases h
 have hl:linB p=true:=by
  cases h':linB p with
  | true=>rfl
  | false=>rw [linCode_6 hP h'] at h; cases h
 have hc:cellN (trimP p).2.2.1≤24:=by
  by_cases h2:24 < cellN (trimP p).2.2.1
  · rw [linCode_5 hP hl h2] at h; cases h
  · omega
 have hF:=(patchB_parts (trim_patch hP)).1
 have hp:=(formedB_parts (patchB_parts hP).1)
 have hw:=linM_w hF
 have ha:(linM (trimP p)).2.1.length=cellN (trimP p).2.2.1:=hw.a.1
 exact ⟨hP,hl,by rw [ha]; exact hw,by omega,rfl,by show (matC _ _ _).length=_; rw [matC_len]; simp [trimP,keepP,clsM],⟨hp.2.2.2.1,hp.2.2.2.2.1⟩,hp.2.1⟩
theorem linOk_sq {p:PatchD} (h:linOkP p):rowsSq (linM (trimP p)).2.1:=⟨h.w.a,by have:=h.n; omega⟩
theorem trn_render {p:PatchD} (h:linOkP p) {i o:Int} (hi:0≤i∧i < p.1) (ho:0≤o∧o < p.2.2.2.length) (n:Nat):(renderL p (impI p.1.toNat i) n).getD o.toNat []=rspL (linM (trimP p)) i o n:=render_rsp h.ok h.lin hi ho n
theorem linR_2 (p:PatchD):(linR p).2=linCode p:=by
 by_cases h:linCode p=0
 · rw [linR_t h,h]
 · rw [linR_f h]
theorem linR_x {p:PatchD} {x:LinD} {c:Int} (h:linR p=(x,c)):c=linCode p∧(linCode p=0→linM (trimP p)=x):=by
 have h2:=linR_2 p
 rw [h] at h2
 refine ⟨h2,fun h0=>?_⟩
 rw [linR_t h0] at h
 exact congrArg Prod.fst h
theorem linOk_x {p:PatchD} {ni:Int} {la lb lc ld:List (List Int)} (hk:linOkP p) (h:linM (trimP p)=(ni,la,lb,lc,ld)):linW (ni,la,lb,lc,ld) la.length∧la.length≤24∧ni=p.1∧lc.length=p.2.2.2.length∧rowsSq la:=by
 have hw:=hk.w; have hn:=hk.n; have hi:=hk.i; have ho:=hk.o; have hs:=linOk_sq hk
 rw [h] at hw hn hi ho hs
 exact ⟨hw,hn,hi,ho,hs⟩
theorem trn_row {p:PatchD} (hk:linOkP p) {x:LinD} (hx:linM (trimP p)=x) {i o:Int} (hi:0≤i∧i < p.1) (ho:0≤o∧o < p.2.2.2.length) (n:Nat) {Y:List (List Int)} (hY:renderL p ((List.replicate p.1.toNat ([]:List Int)).set i.toNat [1]) n=Y):Y.length=p.2.2.2.length∧Y.getD o.toNat []=rspL x i o n:=by
 have hF:=(patchB_parts hk.ok).1
 have hin:insOk p (impI p.1.toNat i):=impI_ok (by omega) i
 have h1:=renderL_len hF hin n
 have h2:=trn_render hk hi ho n
 rw [hx] at h2
 unfold impI at h1 h2
 rw [hY] at h1 h2
 exact ⟨h1,h2⟩
/-! What the laws' own functions compute of transfer functions. -/
instance:DecidableEq TrD:=instDecidableEqProd
end Go.Proofs.YtflaacndokbddaaGreat
