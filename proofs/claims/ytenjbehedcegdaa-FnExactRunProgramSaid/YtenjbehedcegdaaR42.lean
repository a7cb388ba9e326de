/-
  Texts of this claim, joined (part 42). No condition beyond those of the theorems.
-/
import Derived.Maps.OwnOps
import Derived.Maps.Views
import Derived.Test.YtenjbehedcegdaaR19
namespace Go.Proofs.Ytenjbehedcegdaa
open Go.Maps (Keyed)
theorem elem_bool {H:Type} {P:Program} {e:TypeId} (he:P.underlying e=some .bool) {v:Value} {z:DataW H × List MemPlace} (h:plainElem P e v=some z):∃x,v=.bool x∧z=(.lit (.bool x),[]):=by
 unfold plainElem at h
 rw[he] at h
 cases v<;>simp at h
 exact⟨_,rfl,h.symm⟩
theorem lookup_bool {H:Type} {P:Program} {w:World} {k t e:TypeId} {b n:Nat} {D:DataW H} (h:w.ownsMap P k (plainElem P e) b n D) (K:Keyed P k) (ht:P.underlying t=some (.map k e)) (he:P.underlying e=some .bool) (hz:(zeroValue e).run P w=.ok (.bool false) w)
 {key:Value} {kl:Lit} (hkey:Go.keyOf P k key=some kl):∃x,(Instr.lookup t (.map (some b)) key false).run P w=.ok (.bool x) w∧D.atKey kl (.lit (.bool false))=.lit (.bool x):=by
 obtain⟨v,ps,hrun,hv⟩:=h.lookup K ht hz (plainElem_bool he false) hkey
 obtain⟨x,rfl,hx⟩:=elem_bool he hv
 simp only[Prod.mk.injEq] at hx
 exact⟨x,hrun,hx.1⟩
open Go.Maps
set_option linter.unusedVariables false
section
variable {H:Type}
abbrev kN (i:Nat):Lit:=.int .i64 (i:Int)
abbrev dI (x:Int):DataW H:=.lit (.int .i64 x)
abbrev dB (x:Bool):DataW H:=.lit (.bool x)
theorem kN_ne {i j:Nat} (h:i≠j):kN i≠kN j:=fun e=>by
 have:(i:Int)=(j:Int):=by injection e
 omega
theorem set_at {α:Type} {l:List α} {i j:Nat} {x d:α} (hi:i < l.length):(l.set i x).getD j d=if i=j then x else l.getD j d:=by
 by_cases h:i=j
 · subst h;rw[if_pos rfl,List.getD_eq_getElem?_getD,List.getElem?_set_self hi];rfl
 · rw[if_neg h,List.getD_eq_getElem?_getD,List.getElem?_set_ne h,←List.getD_eq_getElem?_getD]
structure MapI (D:DataW H) (c:List Int):Prop where
 im:IsMap D
 len:c.length=24
 at_:∀i,i < 24→D.atKey (kN i) (dI 0)=dI (c.getD i 0)
 hs:∀i,i < 24→c.getD i 0≠0→has D (kN i)=true
 kr:∀x:Int,has D (.int .i64 x)=true→0≤x∧x≤23
structure MapT (D:DataW H) (s:List Bool):Prop where
 im:IsMap D
 len:s.length=24
 at_:∀i,i < 24→D.atKey (kN i) (dB false)=dB (s.getD i false)
theorem MapI.start:MapI (.map []:DataW H) (List.replicate 24 0):=by
 refine⟨isMap_empty,by simp,fun i hi=>?_,fun i hi h=>?_,fun x h=>by cases h⟩
 · have e:(List.replicate 24 (0:Int)).getD i 0=0:=by rw[List.getD_eq_getElem?_getD,List.getElem?_replicate];split<;>rfl
   rw[e];rfl
 · exact absurd (show (List.replicate 24 (0:Int)).getD i 0=0 by rw[List.getD_eq_getElem?_getD,List.getElem?_replicate];split<;>rfl) h
theorem MapT.start:MapT (.map []:DataW H) (List.replicate 24 false):=by
 refine⟨isMap_empty,by simp,fun i hi=>?_⟩
 have e:(List.replicate 24 false).getD i false=false:=by rw[List.getD_eq_getElem?_getD,List.getElem?_replicate];split<;>rfl
 rw[e];rfl
theorem MapI.put {D:DataW H} {c:List Int} (h:MapI D c) {i:Nat} (hi:i < 24) {v:Int} (hv:v≠0):MapI (D.put (kN i) (dI v)) (c.set i v):=by
 have hl:=h.len
 refine⟨h.im.put _ _,by rw[List.length_set];exact hl,fun j hj=>?_,fun j hj hn=>?_,fun x hx=>?_⟩
 · rw[set_at (by omega)]
   by_cases e:i=j
   · subst e;rw[if_pos rfl];exact atKey_put_same (k:=kN i) h.im trivial _ _
   · rw[if_neg e,atKey_put_other (kN_ne (fun g=>e g.symm))];exact h.at_ j hj
 · by_cases e:i=j
   · subst e;exact has_put_same (k:=kN i) h.im trivial _
   · rw[set_at (by omega),if_neg e] at hn
     rw[has_put_other (kN_ne (fun g=>e g.symm))];exact h.hs j hj hn
 · by_cases e:x=(i:Int)
   · omega
   · rw[has_put_other (fun g=>e (by injection g))] at hx
     exact h.kr x hx
theorem MapT.put {D:DataW H} {s:List Bool} (h:MapT D s) {i:Nat} (hi:i < 24) (v:Bool):MapT (D.put (kN i) (dB v)) (s.set i v):=by
 have hl:=h.len
 refine⟨h.im.put _ _,by rw[List.length_set];exact hl,fun j hj=>?_⟩
 rw[set_at (by omega)]
 by_cases e:i=j
 · subst e;rw[if_pos rfl];exact atKey_put_same (k:=kN i) h.im trivial _ _
 · rw[if_neg e,atKey_put_other (kN_ne (fun g=>e g.symm))];exact h.at_ j hj
theorem MapI.look {D:DataW H} {c:List Int} (h:MapI D c) {x y:Int} (hx:0≤x∧x≤23) (hy:D.atKey (.int .i64 x) (.lit (.int .i64 0))=.lit (.int .i64 y)):y=c.getD x.toNat 0:=by
 have:=h.at_ x.toNat (by omega)
 unfold kN dI at this
 rw[Int.toNat_of_nonneg hx.1,hy] at this
 injection this with e
 injection e
theorem MapT.look {D:DataW H} {s:List Bool} (h:MapT D s) {x:Int} {y:Bool} (hx:0≤x∧x≤23) (hy:D.atKey (.int .i64 x) (.lit (.bool false))=.lit (.bool y)):y=s.getD x.toNat false:=by
 have:=h.at_ x.toNat (by omega)
 unfold kN dB at this
 rw[Int.toNat_of_nonneg hx.1,hy] at this
 injection this with e
 injection e
end
theorem hasK_none {code:List InstrD} {k:Nat} (h:hasK code k=none):∀m,k≤m→hasK code m=none:=by
 intro m hm
 induction hm with
 | refl=>exact h
 | step _ ih=>show (hasK code _).bind _=none;rw[ih];rfl
theorem hasB_no {code:List InstrD} {k:Nat} (hk:k≤code.length) (h:hasK code k=none):hasB code=false:=by unfold hasB;rw[hasK_none h _ hk]
section
variable {code:List InstrD} {k:Nat} {c:List Int} {s:List Bool} (h:hasK code k=some (c,s))
include h
theorem has_twice (hk:k < code.length) (h18:¬(code.getD k x0).1=18) (h0:¬c.getD (xN (code.getD k x0)).toNat 0=0):hasB code=false:=by
 refine hasB_no (k:=k+1) hk ?_
 show (hasK code k).bind (hasS (code.getD k x0))=none
 rw[h]
 show hasS (code.getD k x0) (c,s)=none
 unfold hasS
 rw[decide_eq_false h18,decide_eq_false h0]
theorem has_node (h18:¬(code.getD k x0).1=18) (h0:c.getD (xN (code.getD k x0)).toNat 0=0):hasK code (k+1)=some (c.set (xN (code.getD k x0)).toNat (code.getD k x0).1,s):=by
 show (hasK code k).bind (hasS (code.getD k x0))=_
 rw[h]
 show hasS (code.getD k x0) (c,s)=_
 unfold hasS
 rw[decide_eq_false h18,decide_eq_true h0]
theorem has_lone (hk:k < code.length) (h18:(code.getD k x0).1=18) (h0:¬(c.getD (xN (code.getD k x0)).toNat 0=6∧s.getD (xN (code.getD k x0)).toNat false=false)):hasB code=false:=by
 refine hasB_no (k:=k+1) hk ?_
 show (hasK code k).bind (hasS (code.getD k x0))=none
 rw[h]
 show hasS (code.getD k x0) (c,s)=none
 unfold hasS
 rw[decide_eq_true h18]
 simp only
 cases g:(decide (c.getD (xN (code.getD k x0)).toNat 0=6) && !s.getD (xN (code.getD k x0)).toNat false) with
 | false=>rfl
 | true=>simp only[Bool.and_eq_true,decide_eq_true_eq,Bool.not_eq_true'] at g;exact absurd g h0
theorem has_store (h18:(code.getD k x0).1=18) (h0:c.getD (xN (code.getD k x0)).toNat 0=6) (h1:s.getD (xN (code.getD k x0)).toNat false=false):hasK code (k+1)=some (c,s.set (xN (code.getD k x0)).toNat true):=by
 show (hasK code k).bind (hasS (code.getD k x0))=_
 rw[h]
 show hasS (code.getD k x0) (c,s)=_
 unfold hasS
 rw[decide_eq_true h18]
 simp only
 rw[decide_eq_true h0,h1];rfl
theorem has_end (hk:k=code.length):hasB code=hasE (c,s):=by subst hk;unfold hasB;rw[h]
end
theorem hasE_t {H:Type} {D:DataW H} {c:List Int} {s:List Bool} (hM:MapI D c) (h:∀x:Int,has D (.int .i64 x)=true→¬(c.getD x.toNat 0=6∧s.getD x.toNat false=false)):hasE (c,s)=true:=by
 refine List.all_eq_true.2 fun i hi=>?_
 have hi:=List.mem_range.1 hi
 cases g:(decide ((c,s).1.getD i 0=6) && !(c,s).2.getD i false) with
 | false=>rfl
 | true =>
   simp only[Bool.and_eq_true,decide_eq_true_eq,Bool.not_eq_true'] at g
   have hh:=hM.hs i hi (by rw[g.1];decide)
   exact absurd (by rw[Int.toNat_natCast];exact g) (h (i:Int) hh)
theorem hasE_f {c:List Int} {s:List Bool} {x:Int} (hx:0≤x∧x≤23) (h1:c.getD x.toNat 0=6) (h2:s.getD x.toNat false=false):hasE (c,s)=false:=by
 cases g:hasE (c,s) with
 | false=>rfl
 | true =>
   have:=List.all_eq_true.1 g x.toNat (List.mem_range.2 (by omega))
   simp only[h1,h2,decide_true,Bool.not_false,Bool.and_self,Bool.not_true] at this
   cases this
end Go.Proofs.Ytenjbehedcegdaa
