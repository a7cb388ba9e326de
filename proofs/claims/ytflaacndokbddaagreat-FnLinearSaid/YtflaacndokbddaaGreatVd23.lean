/-
  Texts of this claim, joined (part 23). No condition beyond those of the theorems.
-/
import Derived.Test.YtflaacndokbddaaGreatVd21
import Derived.Test.YtflaacndokbddaaGreatVd22
import Derived.Test.YtflaacndokbddaaGreatVd02
namespace Go.Proofs.YtflaacndokbddaaGreat
open Go.RowKit
set_option linter.unusedSimpArgs false
set_option linter.unusedVariables false
/-! Draws: signals of n samples. -/
def smpD (n:Int):DM (List Int):=itD (snocD l01D) n.toNat []
theorem smpD_cost:Cost 72 (smpD 12):=(Cost.it (snocD_cost l01D_cost) 12 []).le (by omega)
def inpS (ts:List (List Int)):DM (List (List Int)):=bnd (smpD 12) fun x s=>(ts++[x],s)
theorem inpS_cost (ts:List (List Int)):Cost 72 (inpS ts):=smpD_cost.bnd fun _=>Cost.pure _
def inpL (cd:List Int) (n:Nat):List (List Int):=(itD inpS n [] (cd,0,0)).1
theorem smps_draw :∀(k:Nat) {n:Nat} {s s':SrcD} {xs:List Int},srcOk n s→6 * k≤n→itD (snocD l01D) k [] s=(xs,s')→xs.length=k∧smps xs=true:=by
 intro k
 induction k with
 | zero=>intro n s s' xs _ _ e; simp only[itD,Prod.mk.injEq] at e; rw [← e.1]; exact ⟨rfl,rfl⟩
 | succ k ih =>
   intro n s s' xs hs hn e
   rcases h1:itD (snocD l01D) k [] s with ⟨ys,s1⟩
   have h2:=itD_succ h1
   rw [e] at h2
   have hs1:=(Cost.it (snocD_cost l01D_cost) k []).at hs (by omega) h1
   rcases h3:l01D s1 with ⟨x,s2⟩
   rw [snocD,bnd_of h3] at h2
   have h4:=l01D_smp hs1 (by omega) h3
   obtain ⟨i1,i2⟩:=ih hs (by omega) h1
   simp only[Prod.mk.injEq] at h2
   rw [h2.1]
   refine ⟨by rw [List.length_append,i1]; rfl,smps_iff.2 fun z hz=>?_⟩
   rcases List.mem_append.1 hz with hz | hz
   · exact smps_iff.1 i2 z hz
   · rw [List.mem_singleton.1 hz]; exact h4
theorem inp_draw :∀(k:Nat) {n:Nat} {s s':SrcD} {ts:List (List Int)},srcOk n s→72 * k≤n→itD inpS k [] s=(ts,s')→ts.length=k∧∀ a∈ts,a.length=12∧smps a=true:=by
 intro k
 induction k with
 | zero=>intro n s s' ts _ _ e; simp only[itD,Prod.mk.injEq] at e; rw [← e.1]; exact ⟨rfl,fun a ha=>by cases ha⟩
 | succ k ih =>
   intro n s s' ts hs hn e
   rcases h1:itD inpS k [] s with ⟨ys,s1⟩
   have h2:=itD_succ h1
   rw [e] at h2
   have hs1:=(Cost.it inpS_cost k []).at hs (by omega) h1
   rcases h3:smpD 12 s1 with ⟨x,s2⟩
   rw [inpS,bnd_of h3] at h2
   have h4:=smps_draw 12 hs1 (by omega) h3
   obtain ⟨i1,i2⟩:=ih hs (by omega) h1
   simp only[Prod.mk.injEq] at h2
   rw [h2.1]
   refine ⟨by rw [List.length_append,i1]; rfl,fun a ha=>?_⟩
   rcases List.mem_append.1 ha with ha | ha
   · exact i2 a ha
   · rw [List.mem_singleton.1 ha]; exact h4
theorem inpL_ok {cd:List Int} (h :∀b∈cd,0≤b∧b≤255) {n:Nat} (hn:n≤4):(inpL cd n).length=n∧∀ a∈inpL cd n,a.length=12∧smps a=true:=by
 rcases e:itD inpS n [] (cd,0,0) with ⟨ts,s⟩
 have:=inp_draw n (n:=400) (s:=(cd,0,0)) ⟨h,by simp,by simp⟩ (by omega) e
 unfold inpL; rw [e]; exact this
/-! Systems that the tests take. -/
def rowB (n:Int) (r:List Int):Bool:=decide ((r.length:Int)=n) && smps r
def mtbB (R:List (List Int)) (m n:Int):Bool:=decide ((R.length:Int)=m) && R.all (rowB n)
theorem mtbB_f {R:List (List Int)} {m n:Int} (h:¬ (R.length:Int)=m):mtbB R m n=false:=by unfold mtbB; rw [decide_eq_false h]; rfl
theorem mtbB_t {R:List (List Int)} {m n:Int} (h:(R.length:Int)=m):mtbB R m n=R.all (rowB n):=by unfold mtbB; rw [decide_eq_true h]; rfl
theorem mtbB_ok {R:List (List Int)} {m n:Nat} (h:rowsOk R m n):mtbB R m n=true:=by
 rw [mtbB_t (by rw [h.1])]
 refine List.all_eq_true.2 fun r hr=>?_
 obtain ⟨i,hi,rfl⟩:=List.mem_iff_getElem.1 hr
 have h2:=h.2 i (by rw [← h.1]; exact hi)
 have e:R.getD i []=R[i]:=by simp [List.getD,hi]
 rw [e] at h2
 unfold rowB
 rw [decide_eq_true (by rw [h2.1]),h2.2]; rfl
def linOkB (x:LinD):Bool:=decide ((x.2.1.length:Int)≤24) && inR x.1 0 4 && decide ((x.2.2.2.1.length:Int)≤4) && mtbB x.2.1 x.2.1.length x.2.1.length && mtbB x.2.2.1 x.2.1.length x.1 && mtbB x.2.2.2.1 x.2.2.2.1.length x.2.1.length && mtbB x.2.2.2.2 x.2.2.2.1.length x.1
theorem linOkB_t {x:LinD} (h:linW x x.2.1.length) (h1:x.2.1.length≤24) (h2:x.2.2.2.1.length≤4):linOkB x=true:=by
 have hi:((x.1.toNat:Nat):Int)=x.1:=Int.toNat_of_nonneg h.i0
 have t1:=mtbB_ok h.a
 have t2:=mtbB_ok h.b
 have t3:=mtbB_ok h.c
 have t4:=mtbB_ok h.d
 rw [hi] at t2 t4
 unfold linOkB
 rw [decide_eq_true (by omega),inR_t h.i0 h.i4,decide_eq_true (by omega),t1,t2,t3,t4]
 rfl
def apK (R S:List (List Int)) (x y:List Int) (k:Nat):List Int:=(List.range k).map fun i=>wrap32 (dotN (R.getD i []) x (R.getD i []).length+dotN (S.getD i []) y (S.getD i []).length)
theorem apK_next (R S:List (List Int)) (x y:List Int) (k:Nat):apK R S x y k++[wrap32 (dotN (R.getD k []) x (R.getD k []).length+dotN (S.getD k []) y (S.getD k []).length)]=apK R S x y (k+1):=map_range_next (fun i=>wrap32 (dotN (R.getD i []) x (R.getD i []).length+dotN (S.getD i []) y (S.getD i []).length)) k
theorem apK_len (R S:List (List Int)) (x y:List Int) (k:Nat):(apK R S x y k).length=k:=by simp [apK]
def apOk (R S:List (List Int)) (x y:List Int):Prop:=R.length≤1000∧R.length≤S.length∧x.length≤1000∧y.length≤1000∧(∀ i,i < R.length→(R.getD i []).length≤x.length)∧∀ i,i < S.length→(S.getD i []).length≤y.length
def slOk (x:LinD) (s f:List Int):Prop:=linOkB x=true∧linW x x.2.1.length∧x.2.1.length≤24∧x.2.2.2.1.length≤4∧s.length=x.2.1.length∧(f.length:Int)=x.1∧smps s=true∧smps f=true
theorem slOk.ap {x:LinD} {s f:List Int} (h:slOk x s f):apOk x.2.1 x.2.2.1 s f∧apOk x.2.2.2.1 x.2.2.2.2 s f:=by
 obtain ⟨_,hW,h1,h2,h3,h4,_,_⟩:=h
 have h5:=hW.i4
 have h6:f.length=x.1.toNat:=by omega
 have b1:=hW.b.1
 have d1:=hW.d.1
 refine ⟨⟨by omega,by omega,by omega,by omega,fun i hi=>?_,fun i hi=>?_⟩,⟨by omega,by omega,by omega,by omega,fun i hi=>?_,fun i hi=>?_⟩⟩
 · rw [(hW.a.2 i hi).1,h3]; exact Nat.le_refl _
 · rw [(hW.b.2 i (by omega)).1,h6]; exact Nat.le_refl _
 · rw [(hW.c.2 i hi).1,h3]; exact Nat.le_refl _
 · rw [(hW.d.2 i (by omega)).1,h6]; exact Nat.le_refl _
def scR (p:PatchD):Int × Int:=match patchB p with
 | false=>(0,1)
 | true=>((cntT p:Int),0)
theorem scR_f {p:PatchD} (h:patchB p=false):scR p=(0,1):=by unfold scR; rw [h]
theorem scR_t {p:PatchD} (h:patchB p=true):scR p=((cntT p:Int),0):=by unfold scR; rw [h]
/-! The law's loop. -/
def lnS (q:PatchD) (ins:List (List Int)) (t:Nat):List Int:=(stN q ins t).flatten
def frK (ins:List (List Int)) (t k:Nat):List Int:=(List.range k).map fun i=>(ins.getD i []).getD t 0
theorem frK_next (ins:List (List Int)) (t k:Nat):frK ins t k++[(ins.getD k []).getD t 0]=frK ins t (k+1):=map_range_next (fun i=>(ins.getD i []).getD t 0) k
theorem frK_len (ins:List (List Int)) (t k:Nat):(frK ins t k).length=k:=by simp [frK]
theorem frK_all (ins:List (List Int)) (t:Nat):frK ins t ins.length=frameAt ins (t:Int):=ext_getD (by simp [frK,frameAt]) fun j=>by
 by_cases h:j < ins.length
 · unfold frK; rw [range_at _ h,frameAt_at h,Int.toNat_natCast]
 · rw [getD_ge (by rw [frK_len]; omega),getD_ge (by simp [frameAt]; omega)]
structure flOk (p:PatchD) (x:LinD) (ins:List (List Int)):Prop where
 hP:patchB p=true
 hp:linP (trimP p)
 hx:linM (trimP p)=x
 hin:insOk p ins
 h12 :∀a∈ins,a.length=12
 w:linW x x.2.1.length
 n:x.2.1.length≤24
 i:x.1=p.1
 o:x.2.2.2.1.length=p.2.2.2.length
 o4:p.2.2.2.length≤4
theorem fl_outs (p:PatchD) (ins:List (List Int)) (t:Nat):(outsL (trimP p) (valN (trimP p) ins t)).length=p.2.2.2.length:=by
 rw [outsL_len]; simp [trimP,keepP,clsM]
section
variable {p:PatchD} {x:LinD} {ins:List (List Int)} (h:flOk p x ins)
include h
theorem flOk.hF:formedB (trimP p)=true:=(patchB_parts (trim_patch h.hP)).1
theorem flOk.hinT:insOk (trimP p) ins:=h.hin
theorem flOk.cell:cellN (trimP p).2.2.1=x.2.1.length:=by have:=(linM_w h.hF).a.1; rw [h.hx] at this; exact this.symm
theorem flOk.len (t:Nat):(lnS (trimP p) ins t).length=x.2.1.length:=by
 unfold lnS; rw [flat_len (stN_ok h.hF h.hinT t),h.cell]
theorem flOk.zero:lnS (trimP p) ins 0=List.replicate x.2.1.length 0:=by
 unfold lnS; rw [stN_zero,start_flat h.hp,h.cell]; rfl
theorem flOk.smp (t:Nat):smps (lnS (trimP p) ins t)=true:=smps_iff.2 fun z hz=>by
 have hS:=stN_ok h.hF h.hinT t
 obtain ⟨l,hl,hz⟩:=List.mem_flatten.1 hz
 obtain ⟨i,hi,rfl⟩:=List.mem_iff_getElem.1 hl
 have hi':i < (trimP p).2.2.1.length:=by rw [← hS.1]; exact hi
 have h2:=(hS.2 i hi').2
 have e:(stN (trimP p) ins t).getD i []=(stN (trimP p) ins t)[i]:=by simp [List.getD,hi]
 rw [e] at h2
 exact smps_iff.1 h2 _ hz
theorem flOk.sl (t:Nat):slOk x (lnS (trimP p) ins t) (frameAt ins (t:Int)):=by
 obtain ⟨f1,f2⟩:=frameAt_ok (p:=p) h.hin (t:Int)
 exact ⟨linOkB_t h.w h.n (by have:=h.o; have:=h.o4; omega),h.w,h.n,by have:=h.o; have:=h.o4; omega,h.len t,by rw [f1,h.i],h.smp t,f2⟩
theorem flOk.step (t:Nat):apM x.2.1 x.2.2.1 (lnS (trimP p) ins t) (frameAt ins (t:Int))=lnS (trimP p) ins (t+1)∧apM x.2.2.2.1 x.2.2.2.2 (lnS (trimP p) ins t) (frameAt ins (t:Int))=outsL (trimP p) (valN (trimP p) ins t):=by
 have:=st_step h.hF h.hp h.hinT t
 rw [h.hx] at this
 exact ⟨this.1.symm,this.2.symm⟩
theorem flOk.eq {t i:Nat} (ht:t < 12) (hi:i < p.2.2.2.length):(outsL (trimP p) (valN (trimP p) ins t)).getD i 0=((renderL p ins 12).getD i []).getD t 0:=by
 rw [trim_render h.hP h.hin]
 exact (colN h.hF h.hinT (by simp [trimP,keepP,clsM]; exact hi) 12 ht).symm
theorem flOk.rows {i:Nat} (hi:i < p.2.2.2.length):((renderL p ins 12).getD i []).length=12:=lenN (patchB_parts h.hP).1 h.hin hi 12
theorem flOk.rlen:(renderL p ins 12).length=p.2.2.2.length:=renderL_len (patchB_parts h.hP).1 h.hin 12
theorem flOk.row {i:Nat} (hi:i < ins.length):(ins.getD i []).length=12:=h.h12 _ (getD_mem hi)
end
theorem linC_lin {cd:List Int} (h :∀b∈cd,0≤b∧b≤255):patchB (linC cd)=true∧linB (linC cd)=true:=by
 obtain ⟨a,b,_⟩:=linC_ok h
 refine ⟨a,List.all_eq_true.2 fun i hi=>?_⟩
 have hr:=need_rng (p:=linC cd)
 obtain ⟨k,hk,rfl⟩:=List.mem_iff_getElem.1 hi
 have h2:=hr k hk
 have e:(needF (linC cd)).getD k 0=(needF (linC cd))[k]:=by simp [List.getD,hk]
 rw [e] at h2
 have h3:=lin_at b (i:=((needF (linC cd))[k]).toNat) (by omega)
 unfold linKB
 unfold linK at h3
 simp only[List.contains_cons,List.contains_nil,Bool.or_eq_true,beq_iff_eq,Bool.or_false]
 omega
theorem fl_of {cd mr:List Int} (h :∀b∈cd,0≤b∧b≤255) (h2 :∀b∈mr,0≤b∧b≤255) {x:LinD} (hl0:linCode (linC cd)=0) (hx:linM (trimP (linC cd))=x):flOk (linC cd) x (inpL mr (linC cd).1.toNat):=by
 have hk:=linOk_of hl0
 have hw:=hk.w; have hn:=hk.n; have hi:=hk.i; have ho:=hk.o
 rw [hx] at hw hn hi ho
 obtain ⟨a1,a2⟩:=inpL_ok h2 (n:=(linC cd).1.toNat) (by have:=hk.i4; omega)
 exact ⟨hk.ok,trim_linP hk.lin,hx,⟨by rw [a1]; have:=hk.i4; omega,fun a ha=>⟨by rw [(a2 a ha).1]; decide,(a2 a ha).2⟩⟩,fun a ha=>(a2 a ha).1,hw,hn,hi,ho,hk.o4⟩
theorem fl_5 {cd:List Int} (h :∀b∈cd,0≤b∧b≤255) (hl:¬ linCode (linC cd)=0):linCode (linC cd)=5∧24 < cntT (linC cd):=by
 obtain ⟨a,b⟩:=linC_lin h
 have h1 :∀p:PatchD,patchB p=true→linB p=true→(linCode p=0↔cntT p≤24)∧(linCode p=0∨linCode p=5):=fun p hP hl=>by
  rw [cntT_trim]
  by_cases h:24 < cellN (trimP p).2.2.1
  · rw [linCode_5 hP hl h]; exact ⟨⟨fun e=>(by cases e),fun e=>by omega⟩,Or.inr rfl⟩
  · rw [linCode_0 hP hl (by omega)]; exact ⟨⟨fun _=>by omega,fun _=>rfl⟩,Or.inl rfl⟩
 obtain ⟨c,d⟩:=h1 _ a b
 refine ⟨d.resolve_left hl,?_⟩
 by_cases e:cntT (linC cd)≤24
 · exact absurd (c.2 e) hl
 · omega
theorem fl_n {p:PatchD} {x:LinD} (hP:patchB p=true) (hx:linM (trimP p)=x):cntT p=x.2.1.length:=by
 rw [cntT_trim]
 have:=(linM_w (patchB_parts (trim_patch hP)).1).a.1
 rw [hx] at this; exact this.symm
theorem aseq_take {P:Program} {G:TypeId→Option Ty} {T:Tab} {all l:List Oper} {σ:St} {K:St→Prop} (n:Nat) (hn:Nat.ble l.length n=true) (h:aseq P G T all (l.take n) σ K):aseq P G T all l σ K:=by
 rwa [List.take_of_length_le (Nat.le_of_ble_eq_true hn)] at h
open Go.RowKit
def St.freeR (σ:St) (n:Nat):St:=match σ.look n with
 | some (.row e t xs [])=>⟨freeBL n e t xs σ.tm,freeBO n e t xs σ.ob⟩
 | _=>σ
theorem Wk_freeR (σ:St) (n:Nat) (hn:5 < n):Wk σ (σ.freeR n):=fun R0 w0 R a w hs=>by
 unfold St.freeR
 split
 case h_2=>exact ⟨R,hs⟩
 rename_i e t xs he
 obtain ⟨R',hR'⟩ :∃R':Rz,R'={ R with root:=fun b=>if R.root b=n then 0 else R.root b }:=⟨_,rfl⟩
 have hok :∀S b,okS R S b→okS R' S b:=fun S b hb=>by
  show R'.root b=0∨R'.root b∈S
  rw [hR']
  simp only
  split
  · exact .inl rfl
  · exact hb
 have hrt :∀b m,m≠n→R.root b=m→R'.root b=m:=fun b m hm hb=>by rw [hR']; simp [hb,hm]
 have hbk :∀m,R'.bk m=R.bk m:=fun m=>by rw [hR']
 have hhd :∀m,R'.hd m=R.hd m:=fun m=>by rw [hR']
 have hC :∀(c:CV) (u:Value),VRc R w c u→VRc R' w (c.kill [] [n]) u:=fun c u h=>by
  unfold CV.kill
  split
  · trivial
  · rename_i hh
    simp only[CV.hit,Bool.or_eq_true,not_or,Bool.not_eq_true] at hh
    have hI:=any_false hh.2
    cases c with
    | sc v=>exact h
    | rd S e t xs=>exact Rd.mono h (hok S)
    | pt S t x k =>
      obtain ⟨b,q,us,rfl,h1,h2,h3,h4⟩:=h
      exact ⟨b,q,us,rfl,hok S b h1,h2,h3,h4.mono (hok S)⟩
    | ow m=>show u=_; rw [hhd]; exact h
    | po m k=>show u=.pointer (some ⟨_,k,none⟩); rw [hbk]; exact h
    | pe m i wd k=>show u=.pointer (some ⟨_,i * wd+k,none⟩); rw [hbk]; exact h
    | sub m i wd o e t xs =>
      have hm:m≠n:=by have:=hI m (by simp [CV.ids]); simpa using this
      obtain ⟨h1,h2,h3⟩:=h
      refine ⟨by rw [hbk]; exact h1,by rw [hbk]; exact hrt _ _ hm h2,?_⟩
      rcases h3 with h3 | ⟨b,cap,cur,k1,k2,k3,k4,k5,k6,k7⟩
      · exact .inl h3
      · exact .inr ⟨b,cap,cur,k1,hrt _ _ hm k2,k3,k4,k5,k6,fun j hj=>(k7 j hj).mono (hok [])⟩
    | pi m i wd o j t x k =>
      have hm:m≠n:=by have:=hI m (by simp [CV.ids]); simpa using this
      obtain ⟨b,l,cap,us,h1,h2,h3,h4,h5,h6,h7⟩:=h
      exact ⟨b,l,cap,us,by rw [hbk]; exact h1,by rw [hbk]; exact hrt _ _ hm h2,hrt _ _ hm h3,h4,h5,h6,h7.mono (hok [m])⟩
    | fn f l =>
      have h:u=_:=h
      show u=_
      rw [h]
      congr 2
      exact List.map_congr_left fun m _=>by rw [hbk]
    | bot=>trivial
 have hCs :∀(l:List CV) (us:List Value),VRs R w l us→VRs R' w (l.map (CV.kill [] [n])) us:=by
  intro l
  induction l with
  | nil=>intro us h; exact h
  | cons c l ih=>intro us h; obtain ⟨u,us',rfl,h1,h2⟩:=h; exact ⟨u,us',rfl,hC c u h1,ih us' h2⟩
 have hA :∀(x:AV) (u:Value),VR R w x u→VR R' w (x.kill [] [n]) u:=by
  intro x
  refine AV.rec (motive_1:=fun x=>∀ u,VR R w x u→VR R' w (x.kill [] [n]) u) (motive_2:=fun l=>∀ us,VRt R w l us→VRt R' w (AV.killL [] [n] l) us) ?_ ?_ ?_ ?_ ?_ x
  · intro c u h; simp only[VR,AV.kill] at h ⊢; exact hC c u h
  · intro l u h; simp only[VR,AV.kill] at h ⊢; obtain ⟨us,rfl,h1⟩:=h; exact ⟨us,rfl,hCs l _ h1⟩
  · intro l ih u h; simp only[VR,AV.kill] at h ⊢; obtain ⟨us,rfl,h1⟩:=h; exact ⟨us,rfl,ih _ h1⟩
  · intro us h; simpa only [VRt,AV.killL] using h
  · intro x l h1 h2 us h; simp only[VRt,AV.killL] at h ⊢; obtain ⟨u,us',rfl,h3,h4⟩:=h; exact ⟨u,us',rfl,h1 u h3,h2 us' h4⟩
 have hok2 :∀b,okS R [n] b→okS R' [] b:=fun b hb=>by
  left
  rw [hR']
  simp only
  rcases hb with hb | hb
  · split<;>simp_all
  · simp at hb; rw [if_pos hb]
 have hrow:Rd (okS R' []) w (.row e t) [R.hd n] xs:=by
  have h1:=row_reads (p:=.ow n) hs (u:=R.hd n) rfl (e:=e) (t:=t) (xs:=xs) (by simp [rowOf,he])
  have h2:srcOf σ (.ow n)=[n]:=by simp [srcOf,he]
  rw [h2] at h1
  exact h1.mono hok2
 have hD :∀(c:CV) (u:Value),VRc R w c u→VRc R' w (freeCV n e t xs c) u:=fun c u h=>by
  unfold freeCV
  split
  · rename_i m
    split
    · rename_i e1
      subst e1
      have h:u=_:=h
      show Rd _ _ _ _ _
      rw [h]; exact hrow
    · show u=_; rw [hhd]; exact h
  · exact hC _ _ h
 have hDs :∀(l:List CV) (us:List Value),VRs R w l us→VRs R' w (l.map (freeCV n e t xs)) us:=by
  intro l
  induction l with
  | nil=>intro us h; exact h
  | cons c l ih=>intro us h; obtain ⟨u,us',rfl,h1,h2⟩:=h; exact ⟨u,us',rfl,hD c u h1,ih us' h2⟩
 have hL :∀(l:List AV) (us:List Value),VRt R w l us→VRt R' w (freeBL n e t xs l) us:=by
  intro l
  induction l with
  | nil=>intro us h; simpa only [VRt,freeBL] using h
  | cons x l ih =>
    intro us h
    simp only[VRt,freeBL] at h ⊢
    obtain ⟨u,us',rfl,h1,h2⟩:=h
    refine ⟨u,us',rfl,?_,ih us' h2⟩
    unfold freeBA
    split
    · simp only[VR] at h1 ⊢; exact hD _ _ h1
    · simp only[VR] at h1 ⊢
      obtain ⟨vs,rfl,h3⟩:=h1
      exact ⟨vs,rfl,hDs _ _ h3⟩
    · exact hA _ _ h1
 have hO :∀l,obsOk R w l→obsOk R' w (freeBO n e t xs l):=by
  intro l
  induction l with
  | nil=>intro _ p hp; simp [freeBO] at hp
  | cons q l ih =>
    intro hl p hp
    have h1:=hl q List.mem_cons_self
    have ih':=ih (fun p hp=>hl p (List.mem_cons_of_mem _ hp))
    simp only[freeBO] at hp
    split at hp
    · exact ih' p hp
    · rename_i hq
      obtain ⟨m,o⟩:=q
      simp only at hq h1 hp
      cases o with
      | box cs =>
        simp only[List.mem_cons] at hp
        rcases hp with rfl | hp
        · obtain ⟨us,T,g1,g2,g3⟩:=h1
          exact ⟨us,T,by simp only; rw [hbk]; exact g1,by simp only; rw [hbk]; exact hrt _ _ hq g2,hDs _ _ g3⟩
        · exact ih' p hp
      | row e' t' xs' S' =>
        simp only[List.mem_cons] at hp
        rcases hp with rfl | hp
        · rcases h1 with ⟨g1,g2⟩ | ⟨cap,cur,g1,g2,g3,g4,g5,g6,g7⟩
          · exact .inl ⟨by simp only; rw [hhd]; exact g1,g2⟩
          · exact .inr ⟨cap,cur,by simp only; rw [hhd,hbk]; exact g1,by simp only; rw [hbk]; exact hrt _ _ hq g2,by simp only; rw [hbk]; exact g3,g4,g5,g6,fun i hi=>(g7 i hi).mono (hok S')⟩
        · exact ih' p hp
      | tree e' t' xs' h' =>
        simp only[List.mem_cons] at hp
        rcases hp with rfl | hp
        · rcases h1 with ⟨g1,g2⟩ | ⟨cap,cur,g1,g2,g3,g4,g5,g6,g7,g8⟩
          · exact .inl ⟨by simp only; rw [hhd]; exact g1,g2⟩
          · exact .inr ⟨cap,cur,by simp only; rw [hhd,hbk]; exact g1,by simp only; rw [hbk]; exact hrt _ _ hq g2,by simp only; rw [hbk]; exact g3,g4,g5,g6,fun i hi hh=>(g7 i hi hh).mv fun c b l k _ hr hlt=>⟨rfl,hrt _ _ hq hr⟩,by simp only; rw [hbk]; exact g8⟩
        · exact ih' p hp
 have hv:=hL _ _ hs.tm
 refine ⟨R',?_,hv,hO _ hs.ob,hs.os,hs.tape,hs.output,hs.grow,fun b hb hr=>?_,fun m h1 h2=>⟨(hhd m).trans (hs.pl m h1 h2).1,(hbk m).trans (hs.pl m h1 h2).2⟩,hs.defers⟩
 · have:=hv.length; simp only; rw [← this]; simp
 · obtain ⟨k1,k2⟩:=hs.keep b hb hr
   refine ⟨k1,?_⟩
   rw [hR']
   simp only
   rw [if_neg (by rw [k2]; omega)]
   exact k2
attribute [go_sem] St.freeR
end Go.Proofs.YtflaacndokbddaaGreat
