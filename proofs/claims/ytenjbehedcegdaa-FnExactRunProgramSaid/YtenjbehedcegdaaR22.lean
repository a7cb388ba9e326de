/-
  Texts of this claim, joined (part 22). No condition beyond those of the theorems.
-/
import Derived.Test.YtenjbehedcegdaaR21
namespace Go.Proofs.Ytenjbehedcegdaa
open Go.RowKit
set_option linter.unusedSimpArgs false
set_option linter.unusedVariables false
theorem runR_1 {g:ProgD} {ins:List (List Int)} {n:Int} (h:progB g=false):runR g ins n=([],1):=by unfold runR;rw[h]
theorem runR_2 {g:ProgD} {ins:List (List Int)} {n:Int} (h:progB g=true) (h2:(decide ((ins.length:Int)=g.1) && ins.all l03B && inR n 0 4000)=false):runR g ins n=([],2):=by unfold runR;rw[h];simp only;rw[h2]
theorem runR_0 {g:ProgD} {ins:List (List Int)} {n:Int} (h:progB g=true) (h2:(decide ((ins.length:Int)=g.1) && ins.all l03B && inR n 0 4000)=true):runR g ins n=(runO g ins n.toNat,0):=by unfold runR;rw[h];simp only;rw[h2]
structure RunC (g:ProgD) (ins:List (List Int)) (n:Int):Prop where
 pr:progB g=true
 ln:(ins.length:Int)=g.1
 al:ins.all l03B=true
 nr:0≤n∧n≤4000
theorem RunC.of {g:ProgD} {ins:List (List Int)} {n:Int} (h:progB g=true) (h2:(decide ((ins.length:Int)=g.1) && ins.all l03B && inR n 0 4000)=true):RunC g ins n:=by
 simp only[Bool.and_eq_true,decide_eq_true_eq] at h2
 exact⟨h,h2.1.1,h2.1.2,inR_iff.1 h2.2⟩
section
variable {g:ProgD} {ins:List (List Int)} {n:Int} (h:RunC g ins n)
include h
theorem RunC.ok:ProgOk g:=progB_ok h.pr
theorem RunC.frame (t:Int):((frameAt ins t).length:Int)=g.1∧smps (frameAt ins t)=true:=by
 have hs:sigB (g.1,[],[],[]) ins=true:=by unfold sigB;rw[h.al,decide_eq_true h.ln];rfl
 exact frameAt_ok (p:=(g.1,[],[],[])) (sigB_iff.1 hs) t
theorem RunC.run (t:Nat):RunOk g (runG g ins t):=runG_ok h.ok (fun t=>(h.frame t).2) t
theorem RunC.ref (t:Nat):RefOk g ((runG g ins t).1,byI g.2.2.2.1 (runG g ins t).2):=⟨_,h.run t,rfl⟩
theorem RunC.step (t:Nat):refK g (frameAt ins (t:Int)) ((runG g ins t).1,byI g.2.2.2.1 (runG g ins t).2) g.2.2.2.1.length=((runG g ins (t+1)).1,byI g.2.2.2.1 (runG g ins (t+1)).2) :=
 refK_eq h.ok (h.frame t).2 (h.run t) _ (Nat.le_refl _)
theorem RunC.out {m:Nat} (hm:m < g.2.2.2.2.length):0≤g.2.2.2.2.getD m 0∧g.2.2.2.2.getD m 0 < g.2.1:=by
 have hG:=h.ok
 have hi:=wrt_idx (r:=g.2.1) (code:=g.2.2.2.1) (os:=g.2.2.2.2) (fun x hx h18=>by
  obtain⟨k,hk,rfl⟩:=List.mem_iff_getElem.1 hx
  have e:g.2.2.2.1.getD k x0=g.2.2.2.1[k]:=by simp[List.getD,hk]
  have h1:=hG.ins k hk
  rw[e] at h1
  exact(ins_parts h1.1).2.2.2.1 h18) hG.wr
 have:=idxs_at hi (getD_mem (d:=0) hm)
 omega
end
theorem outX_at {g:ProgD} {m:Nat} (hm:m < g.2.2.2.2.length) (rg:List Int):(outX g rg).getD m 0=rg.getD (g.2.2.2.2.getD m 0).toNat 0:=by simp[outX,List.getD,hm]
theorem outX_len (g:ProgD) (rg:List Int):(outX g rg).length=g.2.2.2.2.length:=by simp[outX]
theorem runO_len (g:ProgD) (ins:List (List Int)):∀t,(runO g ins t).length=g.2.2.2.2.length:=by
 intro t
 induction t with
 | zero=>simp[runO]
 | succ t ih=>show (addOut (runO g ins t) _).length=_;rw[addOut_len (by rw[ih,outX_len]),outX_len]
theorem runO_row (g:ProgD) (ins:List (List Int)) {m:Nat} (hm:m < g.2.2.2.2.length):∀t,((runO g ins t).getD m []).length=t:=by
 intro t
 induction t with
 | zero=>simp[runO,List.getD,hm]
 | succ t ih =>
   show ((addOut (runO g ins t) (outX g (runG g ins (t+1)).1)).getD m []).length=_
   rw[addOut_at (by rw[runO_len];exact hm) (by rw[outX_len];exact hm)]
   simp only[List.length_append,List.length_cons,List.length_nil]
   omega
theorem sig_next {ok:Bool} {ins:List (List Int)} {k:Nat} (h:(ok && (ins.take k).all l03B)=true) (hk:k < ins.length):(ok && (ins.take (k+1)).all l03B)=l03B (ins.getD k []):=by
 simp only[Bool.and_eq_true] at h
 have e:ins.take (k+1)=ins.take k++[ins.getD k []]:=by rw[List.take_succ_eq_append_getElem hk,show ins.getD k []=ins[k] by simp[List.getD,hk]]
 rw[e,List.all_append,h.1,h.2];simp
theorem sig_stop {ok:Bool} {ins:List (List Int)} {k:Nat} (h:(ok && (ins.take k).all l03B)=false):(ok && ins.all l03B)=false:=by
 cases ok with
 | false=>rfl
 | true =>
   simp only[Bool.true_and] at h ⊢
   cases e:ins.all l03B with
   | false=>rfl
   | true =>
     have:(ins.take k).all l03B=true:=List.all_eq_true.2 fun x hx=>List.all_eq_true.1 e x (List.mem_of_mem_take hx)
     rw[this] at h;cases h
theorem sig_com {a b c v:Bool} (h:(a && c && b)=v):(a && b && c)=v:=by rw[←h];cases a<;>cases b<;>cases c<;>rfl
theorem sig_fin {ok v:Bool} {ins:List (List Int)} {k:Nat} (h:(ok && (ins.take k).all l03B)=v) (hk:ins.length≤k∨v=false):(ok && ins.all l03B)=v:=by
 rcases hk with hk|rfl
 · rwa [List.take_of_length_le hk] at h
 · exact sig_stop h
theorem map_nextI {xs:List InstrD} {k:Nat} (h:k < xs.length):(xs.take k).map startI++[startI (xs.getD k x0)]=(xs.take (k+1)).map startI:=by
 rw[List.take_succ_eq_append_getElem h,List.map_append]
 simp[List.getD,h]
end Go.Proofs.Ytenjbehedcegdaa
