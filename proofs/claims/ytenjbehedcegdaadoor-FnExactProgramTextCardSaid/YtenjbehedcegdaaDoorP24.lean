/-
  Texts of this claim, joined (part 24). No condition beyond those of the theorems.
-/
import Derived.Test.YtenjbehedcegdaaDoorP20
import Derived.Test.YtenjbehedcegdaaDoorP23
import Derived.Maps.OwnOps
import Derived.Maps.Views
namespace Go.Proofs.YtenjbehedcegdaaDoor
open Go.RowKit
set_option linter.unusedSimpArgs false
set_option linter.unusedVariables false
set_option maxRecDepth 100000
set_option maxHeartbeats 1000000
def K_fmtInt:Con:=⟨[.val (.int .i64),.val (.int .i64)],[⟨.str,true⟩],fun x=>x.2.1=10∧-9223372036854775808≤x.1∧x.1≤9223372036854775807,fun x=>bs (Lib.itoa x.1)⟩
theorem fmtInt_ok:PureT Tryd.prog 52 K_fmtInt:=by
  refine pure_liftG fun ⟨(x:Int),(y:Int),_⟩ hc R w vs hg hv=>?_
  obtain⟨hy,h0,h1⟩:=(show y=10∧-9223372036854775808≤x∧x≤9223372036854775807 from hc)
  subst hy
  obtain⟨us,e,hv⟩:=vrt_sc hv
  obtain⟨us2,e2,hv⟩:=vrt_sc hv
  have e3:=vrt_nil hv
  subst e3 e2
  have e4:=arr_of e
  subst e4
  exact(Tryd.strconv_FormatInt_10 x h0 h1 w (tab10 hg)).mono fun _ _ ⟨he,k,os,hk⟩=>⟨_,he,vr_sc _,obsOk_nil _ _,by rw[hk];exact below_grownS w k os⟩
def T_fmtInt:Tab:=fun f=>if f=52 then some (.p K_fmtInt) else T0 f
theorem T_fmtInt_ok:TabOk Tryd.prog T_fmtInt:=tabP fmtInt_ok (fnOk_of Tryd.func52 rfl (by decide)) T0_ok
attribute [go_sem] T_fmtInt K_fmtInt
def K_decimal:Con:=⟨[.val (.int .i64)],[⟨.str,true⟩],fun x=>-9223372036854775808≤x.1∧x.1≤9223372036854775807,fun x=>bs (Lib.itoa x.1)⟩
theorem decimal_ok:PureT Tryd.prog 39 K_decimal:=by
  refine pure_of_body Tryd.func39 rfl ?_
  have hres:Tryd.f39.results.toList=[.tmp 2]:=rfl
  rintro⟨(n:Int),_⟩ hc hL
  simp only[K_decimal,go_sem] at hL
  simp only[K_decimal,St.init,St.initG,Tryd.ntmps39,go_sem] 
  have hn:-9223372036854775808≤n∧n≤9223372036854775807:=hc
  refine oS fun _ hK1=>?_
  refine oW T_fmtInt_ok ?_
  simp only[go_sem]
  refine hK1 _ ?_
  refine oS fun _ hK2=>?_
  refine oW T_fmtInt_ok ?_
  simp only[go_sem]
  repeat(with_reducible first|refine oA ?_|refine And.intro (by first|exact hn) ?_)
  refine hK2 _ ?_
  refine AWP_ret ?_
  simp only[hres,go_sem]
  first|exact oF|exact oFr
def T_decimal:Tab:=fun f=>if f=39 then some (.p K_decimal) else T_fmtInt f
theorem T_decimal_ok:TabOk Tryd.prog T_decimal:=tabP decimal_ok (fnOk_of Tryd.func39 rfl (by decide)) T_fmtInt_ok
attribute [go_sem] T_decimal K_decimal
open Go.Maps (Keyed)
theorem elem_bool {H:Type} {P:Program} {e:TypeId} (he:P.underlying e=some .bool) {v:Value} {z:DataW H × List MemPlace} (h:plainElem P e v=some z):∃x,v=.bool x∧z=(.lit (.bool x),[]):=by
 unfold plainElem at h
 rw[he] at h
 cases v<;>simp at h
 exact⟨_,rfl,h.symm⟩
theorem lookup_bool {H:Type} {P:Program} {w:World} {k t e:TypeId} {b n:Nat} {D:DataW H} (h:w.ownsMap P k (plainElem P e) b n D) (K:Keyed P k) (ht:P.underlying t=some (.map k e)) (he:P.underlying e=some .bool) (hz:(zeroValue e).run P w=.ok (.bool false) w)
 {key:Value} {kl:Lit} (hkey:Go.keyOf P k key=some kl):∃x,(Instr.lookup t (.map (some b)) key false).run P w=.ok (.bool x) w∧D.atKey kl (.lit (.bool false))=.lit (.bool x):=by
 obtain⟨v,ps,hrun,hv⟩:=h.lookup K ht hz (plainElem_bool he false) hkey
 obtain⟨x,rfl,hx⟩:=elem_bool he hv
 simp only[Prod.mk.injEq] at hx
 exact⟨x,hrun,hx.1⟩
open Go.Maps
section
variable {H:Type}
abbrev kN (i:Nat):Lit:=.int .i64 (i:Int)
abbrev dI (x:Int):DataW H:=.lit (.int .i64 x)
abbrev dB (x:Bool):DataW H:=.lit (.bool x)
theorem kN_ne {i j:Nat} (h:i≠j):kN i≠kN j:=fun e=>by
 have:(i:Int)=(j:Int):=by injection e
 omega
theorem set_at {α:Type} {l:List α} {i j:Nat} {x d:α} (hi:i < l.length):(l.set i x).getD j d=if i=j then x else l.getD j d:=by
 by_cases h:i=j
 · subst h;rw[if_pos rfl,List.getD_eq_getElem?_getD,List.getElem?_set_self hi];rfl
 · rw[if_neg h,List.getD_eq_getElem?_getD,List.getElem?_set_ne h,←List.getD_eq_getElem?_getD]
structure MapI (D:DataW H) (c:List Int):Prop where
 im:IsMap D
 len:c.length=24
 at_:∀i,i < 24→D.atKey (kN i) (dI 0)=dI (c.getD i 0)
 hs:∀i,i < 24→c.getD i 0≠0→has D (kN i)=true
 kr:∀x:Int,has D (.int .i64 x)=true→0≤x∧x≤23
structure MapT (D:DataW H) (s:List Bool):Prop where
 im:IsMap D
 len:s.length=24
 at_:∀i,i < 24→D.atKey (kN i) (dB false)=dB (s.getD i false)
theorem MapI.start:MapI (.map []:DataW H) (List.replicate 24 0):=by
 refine⟨isMap_empty,by simp,fun i hi=>?_,fun i hi h=>?_,fun x h=>by cases h⟩
 · have e:(List.replicate 24 (0:Int)).getD i 0=0:=by rw[List.getD_eq_getElem?_getD,List.getElem?_replicate];split<;>rfl
   rw[e];rfl
 · exact absurd (show (List.replicate 24 (0:Int)).getD i 0=0 by rw[List.getD_eq_getElem?_getD,List.getElem?_replicate];split<;>rfl) h
theorem MapT.start:MapT (.map []:DataW H) (List.replicate 24 false):=by
 refine⟨isMap_empty,by simp,fun i hi=>?_⟩
 have e:(List.replicate 24 false).getD i false=false:=by rw[List.getD_eq_getElem?_getD,List.getElem?_replicate];split<;>rfl
 rw[e];rfl
theorem MapI.put {D:DataW H} {c:List Int} (h:MapI D c) {i:Nat} (hi:i < 24) {v:Int} (hv:v≠0):MapI (D.put (kN i) (dI v)) (c.set i v):=by
 have hl:=h.len
 refine⟨h.im.put _ _,by rw[List.length_set];exact hl,fun j hj=>?_,fun j hj hn=>?_,fun x hx=>?_⟩
 · rw[set_at (by omega)]
   by_cases e:i=j
   · subst e;rw[if_pos rfl];exact atKey_put_same (k:=kN i) h.im trivial _ _
   · rw[if_neg e,atKey_put_other (kN_ne (fun g=>e g.symm))];exact h.at_ j hj
 · by_cases e:i=j
   · subst e;exact has_put_same (k:=kN i) h.im trivial _
   · rw[set_at (by omega),if_neg e] at hn
     rw[has_put_other (kN_ne (fun g=>e g.symm))];exact h.hs j hj hn
 · by_cases e:x=(i:Int)
   · omega
   · rw[has_put_other (fun g=>e (by injection g))] at hx
     exact h.kr x hx
theorem MapT.put {D:DataW H} {s:List Bool} (h:MapT D s) {i:Nat} (hi:i < 24) (v:Bool):MapT (D.put (kN i) (dB v)) (s.set i v):=by
 have hl:=h.len
 refine⟨h.im.put _ _,by rw[List.length_set];exact hl,fun j hj=>?_⟩
 rw[set_at (by omega)]
 by_cases e:i=j
 · subst e;rw[if_pos rfl];exact atKey_put_same (k:=kN i) h.im trivial _ _
 · rw[if_neg e,atKey_put_other (kN_ne (fun g=>e g.symm))];exact h.at_ j hj
theorem MapI.look {D:DataW H} {c:List Int} (h:MapI D c) {x y:Int} (hx:0≤x∧x≤23) (hy:D.atKey (.int .i64 x) (.lit (.int .i64 0))=.lit (.int .i64 y)):y=c.getD x.toNat 0:=by
 have:=h.at_ x.toNat (by omega)
 unfold kN dI at this
 rw[Int.toNat_of_nonneg hx.1,hy] at this
 injection this with e
 injection e
theorem MapT.look {D:DataW H} {s:List Bool} (h:MapT D s) {x:Int} {y:Bool} (hx:0≤x∧x≤23) (hy:D.atKey (.int .i64 x) (.lit (.bool false))=.lit (.bool y)):y=s.getD x.toNat false:=by
 have:=h.at_ x.toNat (by omega)
 unfold kN dB at this
 rw[Int.toNat_of_nonneg hx.1,hy] at this
 injection this with e
 injection e
end
end Go.Proofs.YtenjbehedcegdaaDoor
