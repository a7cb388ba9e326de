/-
  Texts of this claim, joined (part 21). No condition beyond those of the theorems.
-/
import Derived.Test.YtgmabhkmiokiaaaGreatVa19
import Derived.Test.YtgmabhkmiokiaaaGreatVa20
import Derived.Test.YtgmabhkmiokiaaaGreatVa02
import Derived.Test.YtgmabhkmiokiaaaGreatVa13
import Derived.Test.YtgmabhkmiokiaaaGreatVa06
import Derived.Test.YtgmabhkmiokiaaaGreatVa04
namespace Go.Proofs.YtgmabhkmiokiaaaGreat
open Go.RowKit
set_option linter.unusedSimpArgs false
set_option linter.unusedVariables false
/-! Draws: signals of n samples. -/
/-! Systems that the tests take. -/
/-! The law's loop. -/
def lnS (q:PatchD) (ins:List (List Int)) (t:Nat):List Int:=(stN q ins t).flatten
structure flOk (p:PatchD) (x:LinD) (ins:List (List Int)):Prop where
 hP:patchB p=true
 hp:linP (trimP p)
 hx:linM (trimP p)=x
 hin:insOk p ins
 h12 :∀a∈ins,a.length=12
 w:linW x x.2.1.length
 n:x.2.1.length≤24
 i:x.1=p.1
 o:x.2.2.2.1.length=p.2.2.2.length
 o4:p.2.2.2.length≤4
section
variable {p:PatchD} {x:LinD} {ins:List (List Int)} (h:flOk p x ins)
include h
theorem flOk.hF:formedB (trimP p)=true:=(patchB_parts (trim_patch h.hP)).1
theorem flOk.hinT:insOk (trimP p) ins:=h.hin
theorem flOk.cell:cellN (trimP p).2.2.1=x.2.1.length:=by have:=(linM_w h.hF).a.1; rw [h.hx] at this; exact this.symm
theorem flOk.len (t:Nat):(lnS (trimP p) ins t).length=x.2.1.length:=by
 unfold lnS; rw [flat_len (stN_ok h.hF h.hinT t),h.cell]
theorem flOk.zero:lnS (trimP p) ins 0=List.replicate x.2.1.length 0:=by
 unfold lnS; rw [stN_zero,start_flat h.hp,h.cell]; rfl
theorem flOk.smp (t:Nat):smps (lnS (trimP p) ins t)=true:=smps_iff.2 fun z hz=>by
 have hS:=stN_ok h.hF h.hinT t
 obtain ⟨l,hl,hz⟩:=List.mem_flatten.1 hz
 obtain ⟨i,hi,rfl⟩:=List.mem_iff_getElem.1 hl
 have hi':i < (trimP p).2.2.1.length:=by rw [← hS.1]; exact hi
 have h2:=(hS.2 i hi').2
 have e:(stN (trimP p) ins t).getD i []=(stN (trimP p) ins t)[i]:=by simp [List.getD,hi]
 rw [e] at h2;exact smps_iff.1 h2 _ hz
theorem flOk.step (t:Nat):apM x.2.1 x.2.2.1 (lnS (trimP p) ins t) (frameAt ins (t:Int))=lnS (trimP p) ins (t+1)∧apM x.2.2.2.1 x.2.2.2.2 (lnS (trimP p) ins t) (frameAt ins (t:Int))=outsL (trimP p) (valN (trimP p) ins t):=by
 have:=st_step h.hF h.hp h.hinT t
 rw [h.hx] at this;exact ⟨this.1.symm,this.2.symm⟩
theorem flOk.rows {i:Nat} (hi:i < p.2.2.2.length):((renderL p ins 12).getD i []).length=12:=lenN (patchB_parts h.hP).1 h.hin hi 12
theorem flOk.row {i:Nat} (hi:i < ins.length):(ins.getD i []).length=12:=h.h12 _ (getD_mem hi)
end
theorem linC_lin {cd:List Int} (h :∀b∈cd,0≤b∧b≤255):patchB (linC cd)=true∧linB (linC cd)=true:=by
 obtain ⟨a,b,_⟩:=linC_ok h
 refine ⟨a,List.all_eq_true.2 fun i hi=>?_⟩
 have hr:=need_rng (p:=linC cd)
 obtain ⟨k,hk,rfl⟩:=List.mem_iff_getElem.1 hi
 have h2:=hr k hk
 have e:(needF (linC cd)).getD k 0=(needF (linC cd))[k]:=by simp [List.getD,hk]
 rw [e] at h2;have h3:=lin_at b (i:=((needF (linC cd))[k]).toNat) (by omega)
 unfold linKB;unfold linK at h3;simp only[List.contains_cons,List.contains_nil,Bool.or_eq_true,beq_iff_eq,Bool.or_false];omega
open Go.RowKit
def St.freeR (σ:St) (n:Nat):St:=match σ.look n with
 | some (.row e t xs [])=>⟨freeBL n e t xs σ.tm,freeBO n e t xs σ.ob⟩
 | _=>σ
theorem Wk_freeR (σ:St) (n:Nat) (hn:5 < n):Wk σ (σ.freeR n):=fun R0 w0 R a w hs=>by
 unfold St.freeR
 split
 case h_2=>exact ⟨R,hs⟩
 rename_i e t xs he
 obtain ⟨R',hR'⟩ :∃R':Rz,R'={ R with root:=fun b=>if R.root b=n then 0 else R.root b }:=⟨_,rfl⟩
 have hok :∀S b,okS R S b→okS R' S b:=fun S b hb=>by
  show R'.root b=0∨R'.root b∈S
  rw [hR']
  simp only
  split
  · exact .inl rfl
  · exact hb
 have hrt :∀b m,m≠n→R.root b=m→R'.root b=m:=fun b m hm hb=>by rw [hR']; simp [hb,hm]
 have hbk :∀m,R'.bk m=R.bk m:=fun m=>by rw [hR']
 have hhd :∀m,R'.hd m=R.hd m:=fun m=>by rw [hR']
 have hC :∀(c:CV) (u:Value),VRc R w c u→VRc R' w (c.kill [] [n]) u:=fun c u h=>by
  unfold CV.kill
  split
  · trivial
  · rename_i hh
    simp only[CV.hit,Bool.or_eq_true,not_or,Bool.not_eq_true] at hh
    have hI:=any_false hh.2
    cases c with
    | sc v=>exact h
    | rd S e t xs=>exact Rd.mono h (hok S)
    | pt S t x k =>
      obtain ⟨b,q,us,rfl,h1,h2,h3,h4⟩:=h;exact ⟨b,q,us,rfl,hok S b h1,h2,h3,h4.mono (hok S)⟩
    | ow m=>show u=_; rw [hhd]; exact h
    | po m k=>show u=.pointer (some ⟨_,k,none⟩); rw [hbk]; exact h
    | pe m i wd k=>show u=.pointer (some ⟨_,i * wd+k,none⟩); rw [hbk]; exact h
    | sub m i wd o e t xs =>
      have hm:m≠n:=by have:=hI m (by simp [CV.ids]); simpa using this
      obtain ⟨h1,h2,h3⟩:=h;refine ⟨by rw [hbk]; exact h1,by rw [hbk]; exact hrt _ _ hm h2,?_⟩
      rcases h3 with h3 | ⟨b,cap,cur,k1,k2,k3,k4,k5,k6,k7⟩
      · exact .inl h3
      · exact .inr ⟨b,cap,cur,k1,hrt _ _ hm k2,k3,k4,k5,k6,fun j hj=>(k7 j hj).mono (hok [])⟩
    | pi m i wd o j t x k =>
      have hm:m≠n:=by have:=hI m (by simp [CV.ids]); simpa using this
      obtain ⟨b,l,cap,us,h1,h2,h3,h4,h5,h6,h7⟩:=h;exact ⟨b,l,cap,us,by rw [hbk]; exact h1,by rw [hbk]; exact hrt _ _ hm h2,hrt _ _ hm h3,h4,h5,h6,h7.mono (hok [m])⟩
    | fn f l =>
      have h:u=_:=h
      show u=_
      rw [h]
      congr 2
      exact List.map_congr_left fun m _=>by rw [hbk]
    | bot=>trivial
 have hCs :∀(l:List CV) (us:List Value),VRs R w l us→VRs R' w (l.map (CV.kill [] [n])) us:=by
  intro l
  induction l with
  | nil=>intro us h; exact h
  | cons c l ih=>intro us h; obtain ⟨u,us',rfl,h1,h2⟩:=h; exact ⟨u,us',rfl,hC c u h1,ih us' h2⟩
 have hA :∀(x:AV) (u:Value),VR R w x u→VR R' w (x.kill [] [n]) u:=by
  intro x;refine AV.rec (motive_1:=fun x=>∀ u,VR R w x u→VR R' w (x.kill [] [n]) u) (motive_2:=fun l=>∀ us,VRt R w l us→VRt R' w (AV.killL [] [n] l) us) ?_ ?_ ?_ ?_ ?_ x
  · intro c u h; simp only[VR,AV.kill] at h ⊢; exact hC c u h
  · intro l u h; simp only[VR,AV.kill] at h ⊢; obtain ⟨us,rfl,h1⟩:=h; exact ⟨us,rfl,hCs l _ h1⟩
  · intro l ih u h; simp only[VR,AV.kill] at h ⊢; obtain ⟨us,rfl,h1⟩:=h; exact ⟨us,rfl,ih _ h1⟩
  · intro us h; simpa only [VRt,AV.killL] using h
  · intro x l h1 h2 us h; simp only[VRt,AV.killL] at h ⊢; obtain ⟨u,us',rfl,h3,h4⟩:=h; exact ⟨u,us',rfl,h1 u h3,h2 us' h4⟩
 have hok2 :∀b,okS R [n] b→okS R' [] b:=fun b hb=>by
  left
  rw [hR']
  simp only
  rcases hb with hb | hb
  · split<;>simp_all
  · simp at hb; rw [if_pos hb]
 have hrow:Rd (okS R' []) w (.row e t) [R.hd n] xs:=by
  have h1:=row_reads (p:=.ow n) hs (u:=R.hd n) rfl (e:=e) (t:=t) (xs:=xs) (by simp [rowOf,he])
  have h2:srcOf σ (.ow n)=[n]:=by simp [srcOf,he]
  rw [h2] at h1;exact h1.mono hok2
 have hD :∀(c:CV) (u:Value),VRc R w c u→VRc R' w (freeCV n e t xs c) u:=fun c u h=>by
  unfold freeCV
  split
  · rename_i m
    split
    · rename_i e1
      subst e1;have h:u=_:=h
      show Rd _ _ _ _ _
      rw [h]; exact hrow
    · show u=_; rw [hhd]; exact h
  · exact hC _ _ h
 have hDs :∀(l:List CV) (us:List Value),VRs R w l us→VRs R' w (l.map (freeCV n e t xs)) us:=by
  intro l
  induction l with
  | nil=>intro us h; exact h
  | cons c l ih=>intro us h; obtain ⟨u,us',rfl,h1,h2⟩:=h; exact ⟨u,us',rfl,hD c u h1,ih us' h2⟩
 have hL :∀(l:List AV) (us:List Value),VRt R w l us→VRt R' w (freeBL n e t xs l) us:=by
  intro l
  induction l with
  | nil=>intro us h; simpa only [VRt,freeBL] using h
  | cons x l ih =>
    intro us h
    simp only[VRt,freeBL] at h ⊢
    obtain ⟨u,us',rfl,h1,h2⟩:=h;refine ⟨u,us',rfl,?_,ih us' h2⟩
    unfold freeBA
    split
    · simp only[VR] at h1 ⊢; exact hD _ _ h1
    · simp only[VR] at h1 ⊢
      obtain ⟨vs,rfl,h3⟩:=h1;exact ⟨vs,rfl,hDs _ _ h3⟩
    · exact hA _ _ h1
 have hO :∀l,obsOk R w l→obsOk R' w (freeBO n e t xs l):=by
  intro l
  induction l with
  | nil=>intro _ p hp; simp [freeBO] at hp
  | cons q l ih =>
    intro hl p hp
    have h1:=hl q List.mem_cons_self
    have ih':=ih (fun p hp=>hl p (List.mem_cons_of_mem _ hp))
    simp only[freeBO] at hp
    split at hp
    · exact ih' p hp
    · rename_i hq
      obtain ⟨m,o⟩:=q;simp only at hq h1 hp
      cases o with
      | box cs =>
        simp only[List.mem_cons] at hp
        rcases hp with rfl | hp
        · obtain ⟨us,T,g1,g2,g3⟩:=h1;exact ⟨us,T,by simp only; rw [hbk]; exact g1,by simp only; rw [hbk]; exact hrt _ _ hq g2,hDs _ _ g3⟩
        · exact ih' p hp
      | row e' t' xs' S' =>
        simp only[List.mem_cons] at hp
        rcases hp with rfl | hp
        · rcases h1 with ⟨g1,g2⟩ | ⟨cap,cur,g1,g2,g3,g4,g5,g6,g7⟩
          · exact .inl ⟨by simp only; rw [hhd]; exact g1,g2⟩
          · exact .inr ⟨cap,cur,by simp only; rw [hhd,hbk]; exact g1,by simp only; rw [hbk]; exact hrt _ _ hq g2,by simp only; rw [hbk]; exact g3,g4,g5,g6,fun i hi=>(g7 i hi).mono (hok S')⟩
        · exact ih' p hp
      | tree e' t' xs' h' =>
        simp only[List.mem_cons] at hp
        rcases hp with rfl | hp
        · rcases h1 with ⟨g1,g2⟩ | ⟨cap,cur,g1,g2,g3,g4,g5,g6,g7,g8⟩
          · exact .inl ⟨by simp only; rw [hhd]; exact g1,g2⟩
          · exact .inr ⟨cap,cur,by simp only; rw [hhd,hbk]; exact g1,by simp only; rw [hbk]; exact hrt _ _ hq g2,by simp only; rw [hbk]; exact g3,g4,g5,g6,fun i hi hh=>(g7 i hi hh).mv fun c b l k _ hr hlt=>⟨rfl,hrt _ _ hq hr⟩,by simp only; rw [hbk]; exact g8⟩
        · exact ih' p hp
 have hv:=hL _ _ hs.tm
 refine ⟨R',?_,hv,hO _ hs.ob,hs.os,hs.tape,hs.output,hs.grow,fun b hb hr=>?_,fun m h1 h2=>⟨(hhd m).trans (hs.pl m h1 h2).1,(hbk m).trans (hs.pl m h1 h2).2⟩,hs.defers⟩
 · have:=hv.length; simp only; rw [← this]; simp
 · obtain ⟨k1,k2⟩:=hs.keep b hb hr
   refine ⟨k1,?_⟩
   rw [hR']
   simp only
   rw [if_neg (by rw [k2]; omega)]
   exact k2
attribute [go_sem] St.freeR
set_option maxRecDepth 100000
set_option maxHeartbeats 8000000
def K_l09Draw:GCon where
  ps:=[.po 0]
  os:=[.box [.rd ((.row 5 (.int .u8))),.rd (.int .i64),.rd (.int .u64)]]
  c:=fun x=>srcOk 1304 (x.2.1.1,x.2.1.2.1,x.2.1.2.2.1)
  r:=fun x=>.agg [.sc (.int .i64 (linD (x.2.1.1,x.2.1.2.1,x.2.1.2.2.1)).1.1),.ow 10,.ow 11,.ow 12]
  o:=fun x=>[(30,.box [.rd [] 5 (.int .u8) ((linD (x.2.1.1,x.2.1.2.1,x.2.1.2.2.1)).2.1),.sc (.int .i64 ((linD (x.2.1.1,x.2.1.2.1,x.2.1.2.2.1)).2.2.1)),.sc (.int .u64 ((linD (x.2.1.1,x.2.1.2.1,x.2.1.2.2.1)).2.2.2))]),(10,.tree 26 (.row 2 (.int .i64)) ((linD (x.2.1.1,x.2.1.2.1,x.2.1.2.2.1)).1.2.1) none),(11,.tree 93 ((.prod (.int .i64) (.prod (.int .i64) (.prod (.int .i64) (.row 2 (.int .i64)))))) ((linD (x.2.1.1,x.2.1.2.1,x.2.1.2.2.1)).1.2.2.1) none),(12,.row 2 (.int .i64) ((linD (x.2.1.1,x.2.1.2.1,x.2.1.2.2.1)).1.2.2.2) [])]
  ok:=by
    rintro ⟨⟨_,_⟩,⟨⟨(cd:List Int),(pt:Int),(sd:Int),_⟩,_⟩⟩
    exact ⟨rfl,rfl,by decide⟩
theorem l09Draw_ok:GenT Tryz.prog 14 K_l09Draw:=by
  refine gen_of_body Tryz.func14 rfl ?_
  have hres:Tryz.f14.results.toList=[.cell 2 28]:=rfl
  rintro ⟨⟨_,_⟩,⟨⟨(cd:List Int),(pt:Int),(sd:Int),_⟩,_⟩⟩ hc hL hO
  simp only[K_l09Draw,go_sem] at hL
  simp only[K_l09Draw,go_sem] at hO
  simp only[K_l09Draw,St.init,St.initG,Tryz.ntmps14,go_sem] 
  have hs0:srcOk 1304 (cd,pt,sd):=hc
  rcases hr1:pickD 2 (cd,pt,sd) with ⟨v1,u1,p1,q1⟩
  obtain ⟨hs1,hv1,hb1,hz1⟩:=pickD_at hs0 (by omega) hr1
  have hs1:srcOk _ (u1,p1,q1):=hs1
  rcases hr2:pickD 2 (u1,p1,q1) with ⟨v2,u2,p2,q2⟩
  obtain ⟨hs2,hv2,hb2,hz2⟩:=pickD_at hs1 (by omega) hr2
  have hs2:srcOk _ (u2,p2,q2):=hs2
  have hb1:=hb1 (by omega)
  have hb2:=hb2 (by omega)
  have hw1:IntKind.i64.wrap (1+v1)=1+v1:=wrapI (by omega)
  have hw2:IntKind.i64.wrap (1+v2)=1+v2:=wrapI (by omega)
  rcases hr3:l07D (1+v1) (1+v2) 9 true (u2,p2,q2) with ⟨⟨pi,ts,ns,os⟩,u3,p3,q3⟩
  have zq1:0≤1+v1:=by omega
  have zq2:1+v1≤4:=by omega
  have zq3:0≤1+v2:=by omega
  have zq4:1+v2≤4:=by omega
  have zq5:(1:Int)≤9:=by omega
  have zq6:(9:Int)≤20:=by omega
  refine oS fun _ hK1=>?_;refine oW T_l07Draw_ok ?_;simp only[go_sem];repeat (with_reducible first | refine oA ?_ | refine And.intro (by first | exact sLe | with_unfolding_all exact ⟨hs2.le (by omega),zq1,zq2,zq3,zq4,zq5,zq6⟩) ?_)
  refine hK1 _ ?_;refine oS fun _ hK2=>?_;refine oW T_l07Draw_ok ?_;simp only[hr1,hw1,go_sem];repeat (with_reducible first | refine oA ?_ | refine And.intro (by first | exact sLe | with_unfolding_all exact ⟨hs2.le (by omega),zq1,zq2,zq3,zq4,zq5,zq6⟩) ?_)
  refine hK2 _ ?_;refine oS fun _ hK3=>?_;refine oW T_l07Draw_ok ?_;simp only[hr2,hw2,go_sem];repeat (with_reducible first | refine oA ?_ | refine And.intro (by first | exact sLe | with_unfolding_all exact ⟨hs2.le (by omega),zq1,zq2,zq3,zq4,zq5,zq6⟩) ?_)
  refine hK3 _ ?_;refine oS fun _ hK4=>?_;refine oW T_l07Draw_ok ?_;simp (maxSteps:=2000000)only[List.nodup_cons,List.nodup_nil,List.not_mem_nil,not_false_eq_true,hr3,go_sem];repeat (with_reducible first | refine oA ?_ | refine And.intro (by first | exact sLe | with_unfolding_all exact ⟨hs2.le (by omega),zq1,zq2,zq3,zq4,zq5,zq6⟩) ?_)
  refine hK4 _ ?_;refine AWP_ret ?_;simp only[hres,go_sem]
  first
   | exact oG
   | refine ⟨oG,?_⟩
     have hq:linD (cd,pt,sd)=((pi,ts,ns,os),u3,p3,q3):=by simp only[linD,bnd,hr1,hr2,hr3]
     simp only[hq];try ((repeat' refine And.intro ?_ ?_)<;>first | rfl | trivial | (congr 1; done))
def T_l09Draw:Tab:=fun f=>if f=14 then some (.g K_l09Draw) else T_l07Draw f
theorem T_l09Draw_ok:TabOk Tryz.prog T_l09Draw:=tabG l09Draw_ok (fnOk_of Tryz.func14 rfl (by decide)) T_l07Draw_ok
attribute [go_sem] T_l09Draw K_l09Draw
def K_e8Linear:Con:=⟨[.val ((.row 5 (.int .u8)))],[⟨(.prod (.int .i64) (.prod (.row 26 (.row 2 (.int .i64))) (.prod (.row 93 (.prod (.int .i64) (.prod (.int .i64) (.prod (.int .i64) (.row 2 (.int .i64)))))) (.row 2 (.int .i64))))),false⟩],fun x=>∀ b∈(x.1:List Int),0≤b∧b≤255,fun x=>linC x.1⟩
theorem e8Linear_ok:PureT Tryz.prog 5 K_e8Linear:=by
  refine pure_of_body Tryz.func5 rfl ?_
  have hres:Tryz.f5.results.toList=[.cell 2 28]:=rfl
  rintro ⟨(cd:List Int),_⟩ hc hL
  simp only[K_e8Linear,go_sem] at hL
  simp only[K_e8Linear,St.init,St.initG,Tryz.ntmps5,go_sem] 
  have hcd :∀b∈cd,0≤b∧b≤255:=hc
  have hs0:srcOk 3000 (cd,0,0):=⟨hcd,by simp,by simp⟩
  rcases hr1:linD (cd,0,0) with ⟨⟨pi,ts,ns,os⟩,u1,p1,q1⟩
  refine oS fun _ hK1=>?_;refine oW T_l09Draw_ok ?_;simp only[go_sem];repeat (with_reducible first | refine oA ?_ | refine And.intro (by first | exact hs0.le (by omega) | with_unfolding_all exact hs0.le (by omega)) ?_)
  refine hK1 _ ?_;refine oS fun _ hK2=>?_;refine oW T_l09Draw_ok ?_;simp only[go_sem];repeat (with_reducible first | refine oA ?_ | refine And.intro (by first | exact hs0.le (by omega) | with_unfolding_all exact hs0.le (by omega)) ?_)
  refine hK2 _ ?_;refine oS fun _ hK3=>?_;refine oW T_l09Draw_ok ?_;simp only[List.nodup_cons,List.nodup_nil,List.not_mem_nil,not_false_eq_true,hr1,go_sem];repeat (with_reducible first | refine oA ?_ | refine And.intro (by first | exact hs0.le (by omega) | with_unfolding_all exact hs0.le (by omega)) ?_)
  refine hK3 _ ?_;refine AWP_wk (Wk_freeB _ 212 (by decide)) ?_;simp (maxSteps:=2000000)only[go_sem];refine AWP_wk (Wk_freeB _ 213 (by decide)) ?_;simp (maxSteps:=2000000)only[go_sem];refine AWP_wk (Wk_freeR _ 214 (by decide)) ?_;simp (maxSteps:=2000000)only[go_sem];refine AWP_ret ?_;simp only[hres,go_sem]
  first
   | exact oF
   | refine ⟨?_,oF⟩
     have hq:linC cd=(pi,ts,ns,os):=by simp only[linC,hr1]
     simp only[hq];try ((repeat' refine And.intro ?_ ?_)<;>first | rfl | trivial | (congr 1; done))
def T_e8Linear:Tab:=fun f=>if f=5 then some (.p K_e8Linear) else T_l09Draw f
theorem T_e8Linear_ok:TabOk Tryz.prog T_e8Linear:=tabP e8Linear_ok (fnOk_of Tryz.func5 rfl (by decide)) T_l09Draw_ok
attribute [go_sem] T_e8Linear K_e8Linear
def T_e8Inputs:Tab:=T_e8Linear
theorem T_e8Inputs_ok:TabOk Tryz.prog T_e8Inputs:=T_e8Linear_ok
attribute [go_sem] T_e8Inputs
set_option maxRecDepth 100000
set_option maxHeartbeats 1000000
def K_clone:Con:=⟨[.val ((.row 2 (.int .i64)))],[⟨(.row 2 (.int .i64)),true⟩],fun x=>x.1.length≤1099511627776,fun x=>x.1⟩
theorem clone_ok:PureT Tryz.prog 82 K_clone:=by
  refine pure_of_body Tryz.func82 rfl ?_
  have hres:Tryz.f82.results.toList=[.tmp 2]:=rfl
  rintro ⟨(xs:List Int),_⟩ hc hL
  simp only[K_clone,go_sem] at hL
  simp only[K_clone,St.init,St.initG,Tryz.ntmps82,go_sem] 
  have hx:xs.length≤1099511627776:=hc
  refine oS fun _ hK1=>?_;refine oW T_kinds_ok ?_;simp only[go_sem];refine hK1 _ ?_;refine oS fun _ hK2=>?_;refine oW T_kinds_ok ?_;simp only[go_sem];repeat (with_reducible refine oA ?_)
  refine hK2 _ ?_;refine AWP_ret ?_;simp only[hres,go_sem];first | exact oF | exact oFr
def T_clone:Tab:=fun f=>if f=82 then some (.p K_clone) else T_kinds f
theorem T_clone_ok:TabOk Tryz.prog T_clone:=tabP clone_ok (fnOk_of Tryz.func82 rfl (by decide)) T_kinds_ok
attribute [go_sem] T_clone K_clone
def K_clones:Con:=⟨[.val ((.row 26 (.row 2 (.int .i64))))],[⟨(.row 26 (.row 2 (.int .i64))),true⟩],fun x=>fitsL x.1,fun x=>x.1⟩
theorem clones_ok:PureT Tryz.prog 119 K_clones:=by
  refine pure_of_body Tryz.func119 rfl ?_
  have hres:Tryz.f119.results.toList=[.tmp 2]:=rfl
  rintro ⟨(xs:List (List Int)),_⟩ hc hL
  simp only[K_clones,go_sem] at hL
  simp only[K_clones,St.init,St.initG,Tryz.ntmps119,go_sem] 
  obtain ⟨hx,hy⟩:=(show fitsL xs from hc)
  refine oS fun _ hK1=>?_;refine oW T_clone_ok ?_;simp only[go_sem];refine hK1 _ ?_;refine oS fun _ hK2=>?_;refine oW T_clone_ok ?_;simp only[List.nodup_nil,go_sem];repeat (with_reducible refine oA ?_)
  refine hK2 _ ?_;refine oS fun _ hK3=>?_;refine oS fun _ hK4=>?_;refine oW T_clone_ok ?_;simp only[go_sem];refine hK4 _ ?_;refine AWP_block ?_;refine AWP_loop_k (ι:={ k:Nat // k≤xs.length }) (fun k=>⟨[zz,zz,zz,.c (.ow 9001),zz,zz,zz,.c (.rd [] 26 (.row 2 (.int .i64)) (xs)),.c (.sc (.int .i64 (xs.length))),.c (.sc (.int .i64 (k.1))),zz,zz,zz,zz,zz,zz,zz,zz,zz,zz],[(9001,.tree 26 (.row 2 (.int .i64)) (xs.take k.1) none)]⟩) (fun k=>xs.length - k.1) ⟨0,by simp⟩ ?_ ?_
  ·
   refine oK ?_;simp (maxSteps:=2000000)only[go_sem];all_goals (first | rfl | ((repeat' refine And.intro ?_ ?_)<;>first | rfl | simp))
  rintro ⟨k,hk⟩ K5 hL5
  have htk:(List.take k xs).length≤1099511627776:=by rw [List.length_take]; omega
  have hyk:k < xs.length→(xs.getD k []).length≤1099511627776:=fun h=>hy _ (getD_mem h)
  refine oS fun _ hK6=>?_;refine oW T_clone_ok ?_;simp only[go_sem];refine hK6 _ ?_;refine oS fun _ hK7=>?_;refine oC rfl ?_ ?_
  ·
   intro c0;refine AWP_skip ?_;simp only[go_sem];refine hK7 _ ?_;refine oS fun _ hK8=>?_;refine AWP_block ?_;refine oS fun _ hK9=>?_;refine oW T_clone_ok ?_;simp only[go_sem];repeat (with_reducible refine oA ?_)
   refine hK9 _ ?_;refine oW T_clone_ok ?_;simp (maxSteps:=2000000)only[List.nodup_cons,List.nodup_nil,List.not_mem_nil,not_false_eq_true,go_sem];repeat (with_reducible first | refine oA ?_ | refine And.intro (by first | omega) ?_)
   refine hK8 _ ?_;refine oW T_clone_ok ?_;simp only[go_sem];refine hL5 ⟨k+1,by omega⟩ _ (oK ?_) ?_
   ·
    simp (maxSteps:=2000000)only[go_sem];all_goals first | rfl | exact wk (by omega) | exact ⟨wk (by omega),by rw [take_next (xs:=xs) (k:=k) (d:=[]) (by omega)]⟩
   ·
    first | (simp only[]; omega) | omega | (simp; omega)
  intro c0;refine AWP_exit ?_;simp only[go_sem];refine hK3 _ ?_;refine oS fun _ hK10=>?_;refine oW T_clone_ok ?_;simp only[go_sem];refine hK10 _ ?_;refine AWP_ret ?_;simp only[hres,go_sem];first | exact oF | (refine ⟨?_,oF⟩; exact List.take_of_length_le (by omega))
def T_clones:Tab:=fun f=>if f=119 then some (.p K_clones) else T_clone f
theorem T_clones_ok:TabOk Tryz.prog T_clones:=tabP clones_ok (fnOk_of Tryz.func119 rfl (by decide)) T_clone_ok
attribute [go_sem] T_clones K_clones
def T_shiftedNode:Tab:=T_clones
attribute [go_sem] T_shiftedNode
end Go.Proofs.YtgmabhkmiokiaaaGreat
