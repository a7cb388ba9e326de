/-
  Texts of this claim, joined (part 25). No condition beyond those of the theorems.
-/
import Derived.Test.YtenjbehedcegdaaGreatQ02
import Derived.Maps.OwnOps
import Derived.Maps.Views
import Derived.Test.YtenjbehedcegdaaGreatQ22
set_option linter.unusedSimpArgs false
set_option linter.unusedVariables false
namespace Go.Proofs.YtenjbehedcegdaaGreat
open Go.RowKit
theorem C9 {P:Program} {G:TypeId→Option Ty} {T:G4} {all l:List Oper} {σ:St} {K:St→Prop} (n:Nat) (hn:Nat.ble l.length n=true) (h:A6Q P G T all (l.take n) σ K):A6Q P G T all l σ K:=by
 rwa [List.take_of_length_le (Nat.le_of_ble_eq_true hn)] at h
open Go.RowKit
def St.freeR (σ:St) (n:Nat):St:=match σ.look n with
 | some (.row e t xs [])=>⟨A00 n e t xs σ.tm,k9 n e t xs σ.ob⟩
 | _=>σ
theorem B6Y (σ:St) (n:Nat) (hn:5 < n):Wk σ (σ.freeR n):=fun R0 w0 R a w hs=>by
 unfold St.freeR
 split
 case h_2=>exact⟨R,hs⟩
 rename_i e t xs he
 obtain⟨R',hR'⟩:∃R':Rz,R'={ R with root:=fun b=>if R.root b=n then 0 else R.root b }:=⟨_,rfl⟩
 have hok:∀S b,okS R S b→okS R' S b:=fun S b hb=>by
  show R'.root b=0∨R'.root b∈S
  rw[hR']
  simp only
  split
  · exact .inl rfl
  · exact hb
 have hrt:∀b m,m≠n→R.root b=m→R'.root b=m:=fun b m hm hb=>by rw[hR'];simp[hb,hm]
 have hbk:∀m,R'.bk m=R.bk m:=fun m=>by rw[hR']
 have hhd:∀m,R'.hd m=R.hd m:=fun m=>by rw[hR']
 have hC:∀(c:CV) (u:Value),VRc R w c u→VRc R' w (c.kill [] [n]) u:=fun c u h=>by
  unfold CV.kill
  split
  · trivial
  · rename_i hh
    simp only[CV.hit,Bool.or_eq_true,not_or,Bool.not_eq_true] at hh
    have hI:=W4 hh.2
    cases c with
    | sc v=>exact h
    | rd S e t xs=>exact Rd.mono h (hok S)
    | pt S t x k =>
      obtain⟨b,q,us,rfl,h1,h2,h3,h4⟩:=h;exact⟨b,q,us,rfl,hok S b h1,h2,h3,h4.mono (hok S)⟩
    | ow m=>show u=_;rw[hhd];exact h
    | po m k=>show u=.pointer (some ⟨_,k,none⟩);rw[hbk];exact h
    | pe m i wd k=>show u=.pointer (some ⟨_,i * wd+k,none⟩);rw[hbk];exact h
    | sub m i wd o e t xs =>
      have hm:m≠n:=by have:=hI m (by simp[CV.ids]);simpa using this
      obtain⟨h1,h2,h3⟩:=h;refine⟨by rw[hbk];exact h1,by rw[hbk];exact hrt _ _ hm h2,?_⟩
      rcases h3 with h3|⟨b,cap,cur,k1,k2,k3,k4,k5,k6,k7⟩
      · exact .inl h3
      · exact .inr ⟨b,cap,cur,k1,hrt _ _ hm k2,k3,k4,k5,k6,fun j hj=>(k7 j hj).mono (hok [])⟩
    | pi m i wd o j t x k =>
      have hm:m≠n:=by have:=hI m (by simp[CV.ids]);simpa using this
      obtain⟨b,l,cap,us,h1,h2,h3,h4,h5,h6,h7⟩:=h;exact⟨b,l,cap,us,by rw[hbk];exact h1,by rw[hbk];exact hrt _ _ hm h2,hrt _ _ hm h3,h4,h5,h6,h7.mono (hok [m])⟩
    | fn f l =>
      have h:u=_:=h
      show u=_
      rw[h]
      congr 2
      exact List.map_congr_left fun m _=>by rw[hbk]
    | bot=>trivial
 have hCs:∀(l:List CV) (us:List Value),VRs R w l us→VRs R' w (l.map (CV.kill [] [n])) us:=by
  intro l
  induction l with
  | nil=>intro us h;exact h
  | cons c l ih=>intro us h;obtain⟨u,us',rfl,h1,h2⟩:=h;exact⟨u,us',rfl,hC c u h1,ih us' h2⟩
 have hA:∀(x:AV) (u:Value),VR R w x u→VR R' w (x.kill [] [n]) u:=by
  intro x;refine AV.rec (motive_1:=fun x=>∀u,VR R w x u→VR R' w (x.kill [] [n]) u) (motive_2:=fun l=>∀us,VRt R w l us→VRt R' w (AV.killL [] [n] l) us) ?_ ?_ ?_ ?_ ?_ x
  · intro c u h;simp only[VR,AV.kill] at h ⊢;exact hC c u h
  · intro l u h;simp only[VR,AV.kill] at h ⊢;obtain⟨us,rfl,h1⟩:=h;exact⟨us,rfl,hCs l _ h1⟩
  · intro l ih u h;simp only[VR,AV.kill] at h ⊢;obtain⟨us,rfl,h1⟩:=h;exact⟨us,rfl,ih _ h1⟩
  · intro us h;simpa only [VRt,AV.killL] using h
  · intro x l h1 h2 us h;simp only[VRt,AV.killL] at h ⊢;obtain⟨u,us',rfl,h3,h4⟩:=h;exact⟨u,us',rfl,h1 u h3,h2 us' h4⟩
 have hok2:∀b,okS R [n] b→okS R' [] b:=fun b hb=>by
  left
  rw[hR']
  simp only
  rcases hb with hb|hb
  · split<;>simp_all
  · simp at hb;rw[if_pos hb]
 have hrow:Rd (okS R' []) w (.row e t) [R.hd n] xs:=by
  have h1:=o6 (p:=.ow n) hs (u:=R.hd n) rfl (e:=e) (t:=t) (xs:=xs) (by simp[d6,he])
  have h2:x6 σ (.ow n)=[n]:=by simp[x6,he]
  rw[h2] at h1;exact h1.mono hok2
 have hD:∀(c:CV) (u:Value),VRc R w c u→VRc R' w (A06 n e t xs c) u:=fun c u h=>by
  unfold A06
  split
  · rename_i m
    split
    · rename_i e1
      subst e1;have h:u=_:=h
      show Rd _ _ _ _ _
      rw[h];exact hrow
    · show u=_;rw[hhd];exact h
  · exact hC _ _ h
 have hDs:∀(l:List CV) (us:List Value),VRs R w l us→VRs R' w (l.map (A06 n e t xs)) us:=by
  intro l
  induction l with
  | nil=>intro us h;exact h
  | cons c l ih=>intro us h;obtain⟨u,us',rfl,h1,h2⟩:=h;exact⟨u,us',rfl,hD c u h1,ih us' h2⟩
 have hL:∀(l:List AV) (us:List Value),VRt R w l us→VRt R' w (A00 n e t xs l) us:=by
  intro l
  induction l with
  | nil=>intro us h;simpa only [VRt,A00] using h
  | cons x l ih =>
    intro us h
    simp only[VRt,A00] at h ⊢
    obtain⟨u,us',rfl,h1,h2⟩:=h;refine⟨u,us',rfl,?_,ih us' h2⟩
    unfold A9N
    split
    · simp only[VR] at h1 ⊢;exact hD _ _ h1
    · simp only[VR] at h1 ⊢
      obtain⟨vs,rfl,h3⟩:=h1;exact⟨vs,rfl,hDs _ _ h3⟩
    · exact hA _ _ h1
 have hO:∀l,obsOk R w l→obsOk R' w (k9 n e t xs l):=by
  intro l
  induction l with
  | nil=>intro _ p hp;simp[k9] at hp
  | cons q l ih =>
    intro hl p hp
    have h1:=hl q List.mem_cons_self
    have ih':=ih (fun p hp=>hl p (List.mem_cons_of_mem _ hp))
    simp only[k9] at hp
    split at hp
    · exact ih' p hp
    · rename_i hq
      obtain⟨m,o⟩:=q;simp only at hq h1 hp
      cases o with
      | box cs =>
        simp only[List.mem_cons] at hp
        rcases hp with rfl|hp
        · obtain⟨us,T,g1,g2,g3⟩:=h1;exact⟨us,T,by simp only;rw[hbk];exact g1,by simp only;rw[hbk];exact hrt _ _ hq g2,hDs _ _ g3⟩
        · exact ih' p hp
      | row e' t' xs' S' =>
        simp only[List.mem_cons] at hp
        rcases hp with rfl|hp
        · rcases h1 with⟨g1,g2⟩|⟨cap,cur,g1,g2,g3,g4,g5,g6,g7⟩
          · exact .inl ⟨by simp only;rw[hhd];exact g1,g2⟩
          · exact .inr ⟨cap,cur,by simp only;rw[hhd,hbk];exact g1,by simp only;rw[hbk];exact hrt _ _ hq g2,by simp only;rw[hbk];exact g3,g4,g5,g6,fun i hi=>(g7 i hi).mono (hok S')⟩
        · exact ih' p hp
      | tree e' t' xs' h' =>
        simp only[List.mem_cons] at hp
        rcases hp with rfl|hp
        · rcases h1 with⟨g1,g2⟩|⟨cap,cur,g1,g2,g3,g4,g5,g6,g7,g8⟩
          · exact .inl ⟨by simp only;rw[hhd];exact g1,g2⟩
          · exact .inr ⟨cap,cur,by simp only;rw[hhd,hbk];exact g1,by simp only;rw[hbk];exact hrt _ _ hq g2,by simp only;rw[hbk];exact g3,g4,g5,g6,fun i hi hh=>(g7 i hi hh).mv fun c b l k _ hr hlt=>⟨rfl,hrt _ _ hq hr⟩,by simp only;rw[hbk];exact g8⟩
        · exact ih' p hp
      | map t' xs' S' =>
        simp only[List.mem_cons] at hp
        rcases hp with rfl|hp
        · obtain⟨es,ck,g1,g2,g3,g4,g5⟩:=h1;exact⟨es,ck,by simp only;rw[hhd,hbk];exact g1,by simp only;rw[hbk];exact hrt _ _ hq g2,by simp only;rw[hbk];exact g3,g4,fun i hi=>(g5 i hi).mono (hok S')⟩
        · exact ih' p hp
 have hv:=hL _ _ hs.tm
 refine⟨R',?_,hv,hO _ hs.ob,hs.os,hs.tape,hs.output,hs.grow,fun b hb hr=>?_,fun m h1 h2=>⟨(hhd m).trans (hs.pl m h1 h2).1,(hbk m).trans (hs.pl m h1 h2).2⟩,hs.defers,hs.glob⟩
 · have:=hv.length;simp only;rw[←this];simp
 · obtain⟨k1,k2⟩:=hs.keep b hb hr
   refine⟨k1,?_⟩
   rw[hR']
   simp only
   rw[if_neg (by rw[k2];omega)]
   exact k2
attribute [go_sem] St.freeR
open Go.Maps (Keyed)
theorem B46 {H:Type} {P:Program} {e:TypeId} (he:P.underlying e=some .bool) {v:Value} {z:DataW H × List MemPlace} (h:plainElem P e v=some z):∃x,v=.bool x∧z=(.lit (.bool x),[]):=by
 unfold plainElem at h;rw[he] at h;cases v<;>simp at h
 exact⟨_,rfl,h.symm⟩
theorem B0P {H:Type} {P:Program} {w:World} {k t e:TypeId} {b n:Nat} {D:DataW H} (h:w.ownsMap P k (plainElem P e) b n D) (K:Keyed P k) (ht:P.underlying t=some (.map k e)) (he:P.underlying e=some .bool) (hz:(zeroValue e).run P w=.ok (.bool false) w)
 {key:Value} {kl:Lit} (hkey:Go.keyOf P k key=some kl):∃x,(Instr.lookup t (.map (some b)) key false).run P w=.ok (.bool x) w∧D.atKey kl (.lit (.bool false))=.lit (.bool x):=by
 obtain⟨v,ps,hrun,hv⟩:=h.lookup K ht hz (plainElem_bool he false) hkey
 obtain⟨x,rfl,hx⟩:=B46 he hv
 simp only[Prod.mk.injEq] at hx
 exact⟨x,hrun,hx.1⟩
open Go.Maps
section
variable {H:Type}
abbrev kN (i:Nat):Lit:=.int .i64 (i:Int)
abbrev dI (x:Int):DataW H:=.lit (.int .i64 x)
abbrev dB (x:Bool):DataW H:=.lit (.bool x)
theorem B6C {i j:Nat} (h:i≠j):kN i≠kN j:=fun e=>by
 have:(i:Int)=(j:Int):=by injection e
 omega
theorem B17 {α:Type} {l:List α} {i j:Nat} {x d:α} (hi:i < l.length):(l.set i x).getD j d=if i=j then x else l.getD j d:=by
 by_cases h:i=j
 · subst h;rw[if_pos rfl,List.getD_eq_getElem?_getD,List.getElem?_set_self hi];rfl
 · rw[if_neg h,List.getD_eq_getElem?_getD,List.getElem?_set_ne h,←List.getD_eq_getElem?_getD]
structure MapI (D:DataW H) (c:List Int):Prop where
 im:IsMap D
 len:c.length=24
 at_:∀i,i < 24→D.atKey (kN i) (dI 0)=dI (c.getD i 0)
 hs:∀i,i < 24→c.getD i 0≠0→has D (kN i)=true
 kr:∀x:Int,has D (.int .i64 x)=true→0≤x∧x≤23
structure MapT (D:DataW H) (s:List Bool):Prop where
 im:IsMap D
 len:s.length=24
 at_:∀i,i < 24→D.atKey (kN i) (dB false)=dB (s.getD i false)
theorem MapI.start:MapI (.map []:DataW H) (List.replicate 24 0):=by
 refine⟨isMap_empty,by simp,fun i hi=>?_,fun i hi h=>?_,fun x h=>by cases h⟩
 · have e:(List.replicate 24 (0:Int)).getD i 0=0:=by rw[List.getD_eq_getElem?_getD,List.getElem?_replicate];split<;>rfl
   rw[e];rfl
 · exact absurd (show (List.replicate 24 (0:Int)).getD i 0=0 by rw[List.getD_eq_getElem?_getD,List.getElem?_replicate];split<;>rfl) h
theorem MapT.start:MapT (.map []:DataW H) (List.replicate 24 false):=by
 refine⟨isMap_empty,by simp,fun i hi=>?_⟩
 have e:(List.replicate 24 false).getD i false=false:=by rw[List.getD_eq_getElem?_getD,List.getElem?_replicate];split<;>rfl
 rw[e];rfl
theorem MapI.put {D:DataW H} {c:List Int} (h:MapI D c) {i:Nat} (hi:i < 24) {v:Int} (hv:v≠0):MapI (D.put (kN i) (dI v)) (c.set i v):=by
 have hl:=h.len
 refine⟨h.im.put _ _,by rw[List.length_set];exact hl,fun j hj=>?_,fun j hj hn=>?_,fun x hx=>?_⟩
 · rw[B17 (by omega)]
   by_cases e:i=j
   · subst e;rw[if_pos rfl];exact atKey_put_same (k:=kN i) h.im trivial _ _
   · rw[if_neg e,atKey_put_other (B6C (fun g=>e g.symm))];exact h.at_ j hj
 · by_cases e:i=j
   · subst e;exact has_put_same (k:=kN i) h.im trivial _
   · rw[B17 (by omega),if_neg e] at hn
     rw[has_put_other (B6C (fun g=>e g.symm))];exact h.hs j hj hn
 · by_cases e:x=(i:Int)
   · omega
   · rw[has_put_other (fun g=>e (by injection g))] at hx
     exact h.kr x hx
theorem MapT.put {D:DataW H} {s:List Bool} (h:MapT D s) {i:Nat} (hi:i < 24) (v:Bool):MapT (D.put (kN i) (dB v)) (s.set i v):=by
 have hl:=h.len
 refine⟨h.im.put _ _,by rw[List.length_set];exact hl,fun j hj=>?_⟩
 rw[B17 (by omega)]
 by_cases e:i=j
 · subst e;rw[if_pos rfl];exact atKey_put_same (k:=kN i) h.im trivial _ _
 · rw[if_neg e,atKey_put_other (B6C (fun g=>e g.symm))];exact h.at_ j hj
theorem MapI.look {D:DataW H} {c:List Int} (h:MapI D c) {x y:Int} (hx:0≤x∧x≤23) (hy:D.atKey (.int .i64 x) (.lit (.int .i64 0))=.lit (.int .i64 y)):y=c.getD x.toNat 0:=by
 have:=h.at_ x.toNat (by omega)
 unfold kN dI at this;rw[Int.toNat_of_nonneg hx.1,hy] at this
 injection this with e
 injection e
theorem MapT.look {D:DataW H} {s:List Bool} (h:MapT D s) {x:Int} {y:Bool} (hx:0≤x∧x≤23) (hy:D.atKey (.int .i64 x) (.lit (.bool false))=.lit (.bool y)):y=s.getD x.toNat false:=by
 have:=h.at_ x.toNat (by omega)
 unfold kN dB at this;rw[Int.toNat_of_nonneg hx.1,hy] at this
 injection this with e
 injection e
end
theorem B4F {code:List A1} {k:Nat} (h:A0o code k=none):∀m,k≤m→A0o code m=none:=by
 intro m hm
 induction hm with
 | refl=>exact h
 | step _ ih=>show (A0o code _).bind _=none;rw[ih];rfl
theorem B3I {code:List A1} {k:Nat} (hk:k≤code.length) (h:A0o code k=none):A47 code=false:=by unfold A47;rw[B4F h _ hk]
section
variable {code:List A1} {k:Nat} {c:List Int} {s:List Bool} (h:A0o code k=some (c,s))
include h
theorem B3o (hk:k < code.length) (h18:¬(code.getD k x0).1=18) (h0:¬c.getD (xN (code.getD k x0)).toNat 0=0):A47 code=false:=by
 refine B3I (k:=k+1) hk ?_
 show (A0o code k).bind (A1D (code.getD k x0))=none
 rw[h];show A1D (code.getD k x0) (c,s)=none
 unfold A1D;rw[decide_eq_false h18,decide_eq_false h0]
theorem B66 (h18:¬(code.getD k x0).1=18) (h0:c.getD (xN (code.getD k x0)).toNat 0=0):A0o code (k+1)=some (c.set (xN (code.getD k x0)).toNat (code.getD k x0).1,s):=by
 show (A0o code k).bind (A1D (code.getD k x0))=_
 rw[h];show A1D (code.getD k x0) (c,s)=_
 unfold A1D;rw[decide_eq_false h18,decide_eq_true h0]
theorem B0O (hk:k < code.length) (h18:(code.getD k x0).1=18) (h0:¬(c.getD (xN (code.getD k x0)).toNat 0=6∧s.getD (xN (code.getD k x0)).toNat false=false)):A47 code=false:=by
 refine B3I (k:=k+1) hk ?_
 show (A0o code k).bind (A1D (code.getD k x0))=none
 rw[h];show A1D (code.getD k x0) (c,s)=none
 unfold A1D;rw[decide_eq_true h18];simp only
 cases g:(decide (c.getD (xN (code.getD k x0)).toNat 0=6) && !s.getD (xN (code.getD k x0)).toNat false) with
 | false=>rfl
 | true=>simp only[Bool.and_eq_true,decide_eq_true_eq,Bool.not_eq_true'] at g;exact absurd g h0
theorem B3e (h18:(code.getD k x0).1=18) (h0:c.getD (xN (code.getD k x0)).toNat 0=6) (h1:s.getD (xN (code.getD k x0)).toNat false=false):A0o code (k+1)=some (c,s.set (xN (code.getD k x0)).toNat true):=by
 show (A0o code k).bind (A1D (code.getD k x0))=_
 rw[h];show A1D (code.getD k x0) (c,s)=_
 unfold A1D;rw[decide_eq_true h18];simp only
 rw[decide_eq_true h0,h1];rfl
theorem B7L (hk:k=code.length):A47 code=B4R (c,s):=by subst hk;unfold A47;rw[h]
end
theorem B99 {H:Type} {D:DataW H} {c:List Int} {s:List Bool} (hM:MapI D c) (h:∀x:Int,has D (.int .i64 x)=true→¬(c.getD x.toNat 0=6∧s.getD x.toNat false=false)):B4R (c,s)=true:=by
 refine List.all_eq_true.2 fun i hi=>?_
 have hi:=List.mem_range.1 hi
 cases g:(decide ((c,s).1.getD i 0=6) && !(c,s).2.getD i false) with
 | false=>rfl
 | true =>
   simp only[Bool.and_eq_true,decide_eq_true_eq,Bool.not_eq_true'] at g
   have hh:=hM.hs i hi (by rw[g.1];decide)
   exact absurd (by rw[Int.toNat_natCast];exact g) (h (i:Int) hh)
theorem B9R {c:List Int} {s:List Bool} {x:Int} (hx:0≤x∧x≤23) (h1:c.getD x.toNat 0=6) (h2:s.getD x.toNat false=false):B4R (c,s)=false:=by
 cases g:B4R (c,s) with
 | false=>rfl
 | true =>
   have:=List.all_eq_true.1 g x.toNat (List.mem_range.2 (by omega))
   simp only[h1,h2,decide_true,Bool.not_false,Bool.and_self,Bool.not_true] at this
   cases this
end Go.Proofs.YtenjbehedcegdaaGreat
