/-
  Texts of this claim, joined (part 41). No condition beyond those of the theorems.
-/
import Derived.Test.YtenjbehedcegdaaR22
import Derived.Test.YtenjbehedcegdaaR05
namespace Go.Proofs.Ytenjbehedcegdaa
open Go.RowKit
set_option linter.unusedSimpArgs false
set_option linter.unusedVariables false
section
variable {ts:List (List Int)} {fr:List Int} {x:InstrD} {r:List Int} {B:List (List Int)}
theorem stpX_18 (h:x.1=18):stpX ts fr x (r,B)=(r,B.set (xN x).toNat ((B.getD (xN x).toNat []).drop 1++[r.getD ((xF x).getD 0 0).toNat 0])):=by unfold stpX;rw[decide_eq_true h]
theorem stpX_6 (h:x.1=6):stpX ts fr x (r,B)=(r.set (xT x).toNat ((B.getD (xN x).toNat []).getD 0 0),B):=by
 unfold stpX;rw[decide_eq_false (show ¬x.1=18 by omega),decide_eq_true h]
theorem stpX_n (h:¬x.1=18) (h6:¬x.1=6) (h1:¬x.1=1):stpX ts fr x (r,B)=(r.set (xT x).toNat (outV x.1 x.2.1 ts ((xF x).map fun q=>r.getD q.toNat 0) (B.getD (xN x).toNat [])),
 B.set (xN x).toNat (nextV x.1 ((xF x).map fun q=>r.getD q.toNat 0) (B.getD (xN x).toNat []) (outV x.1 x.2.1 ts ((xF x).map fun q=>r.getD q.toNat 0) (B.getD (xN x).toNat [])))):=by
 unfold stpX inX;rw[decide_eq_false h,decide_eq_false h6,decide_eq_false h1]
theorem stpX_1 (h:x.1=1) (hB:B.getD (xN x).toNat []=[]) (hl:(xN x).toNat < B.length):stpX ts fr x (r,B)=(r.set (xT x).toNat (fr.getD x.2.1.toNat 0),B):=by
 unfold stpX inX
 rw[decide_eq_false (show ¬x.1=18 by omega),decide_eq_false (show ¬x.1=6 by omega),decide_eq_true h]
 simp only
 rw[show nextV x.1 [fr.getD x.2.1.toNat 0] (B.getD (xN x).toNat []) (outV x.1 x.2.1 ts [fr.getD x.2.1.toNat 0] (B.getD (xN x).toNat []))=[] from nextV_none (by omega) (by omega) (by omega) (by omega) (by omega) (by omega) (by omega)]
 refine Prod.ext ?_ ?_
 · show r.set _ (outV x.1 _ _ _ _)=_
   rw[h];rfl
 · show B.set (xN x).toNat []=B
   refine List.ext_getElem (by simp) fun i h1 h2=>?_
   rw[List.getElem_set]
   split
   · rename_i e;subst e
     rw[show B.getD (xN x).toNat []=B[(xN x).toNat] by simp[List.getD,hl]] at hB
     exact hB.symm
   · rfl
end
section
variable {g:ProgD} (hG:ProgOk g) {st:RunSt} (h:RunOk g st) {k:Nat} (hk:k < g.2.2.2.1.length)
include hG h hk
theorem RunOk.dly (h6:(g.2.2.2.1.getD k x0).1=6):1≤(st.2.getD (xN (g.2.2.2.1.getD k x0)).toNat []).length∧(st.2.getD (xN (g.2.2.2.1.getD k x0)).toNat []).length≤16:=by
 have h1:=(h.ss k hk (by omega)).1
 have h4:=(ins_parts (hG.ins k hk).1).2.2.2.2.1 h6
 have h5:(startV (nodeX (g.2.2.2.1.getD k x0))).length=(g.2.2.2.1.getD k x0).2.1.toNat:=startV_six h6
 rw[h1,h5]
 omega
theorem RunOk.sto (h18:(g.2.2.2.1.getD k x0).1=18):1≤(st.2.getD (xN (g.2.2.2.1.getD k x0)).toNat []).length∧(st.2.getD (xN (g.2.2.2.1.getD k x0)).toNat []).length≤16:=by
 obtain⟨q,h1,h2,h3⟩:=prog_store hG hk h18
 have:=RunOk.dly hG h (k:=q) (by omega) h2
 rwa [h3] at this
omit hG in
theorem RunOk.inp (h1:(g.2.2.2.1.getD k x0).1=1):st.2.getD (xN (g.2.2.2.1.getD k x0)).toNat []=[]:=by
 have h2:=(h.ss k hk (by omega)).1
 have h3:startV (nodeX (g.2.2.2.1.getD k x0))=[]:=startV_none (kd:=(g.2.2.2.1.getD k x0).1) (by omega) (by omega) (by omega) (by omega) (by omega) (by omega) (by omega)
 rw[h3] at h2
 exact List.eq_nil_of_length_eq_zero h2
theorem RunOk.stp {fr:List Int} (hfs:smps fr=true) (h18:¬(g.2.2.2.1.getD k x0).1=18) (h6:¬(g.2.2.2.1.getD k x0).1=6) (h1:¬(g.2.2.2.1.getD k x0).1=1) :
 stepC (nodeX (g.2.2.2.1.getD k x0)) g.2.2.1 ((xF (g.2.2.2.1.getD k x0)).map fun q=>st.1.getD q.toNat 0) (st.2.getD (xN (g.2.2.2.1.getD k x0)).toNat []):=by
 have:=stepC_of (run_ins (fr:=fr) hG hfs h hk h18 h6)
 unfold inX at this
 rwa [decide_eq_false h1] at this
end
theorem strK_18 {code:List InstrD} {k:Nat} (h:(code.getD k x0).1=18):strK code (k+1)=strK code k:=by
 show (match decide ((code.getD k x0).1=18) with|true=>strK code k|false=>_)=_
 rw[decide_eq_true h]
theorem strK_n {code:List InstrD} {k:Nat} (h:¬(code.getD k x0).1=18):strK code (k+1)=(strK code k).set (xN (code.getD k x0)).toNat (startV (nodeX (code.getD k x0))):=by
 show (match decide ((code.getD k x0).1=18) with|true=>strK code k|false=>_)=_
 rw[decide_eq_false h]
theorem prog_os {g:ProgD} (hG:ProgOk g):idxs g.2.1 g.2.2.2.2=true :=
 wrt_idx (r:=g.2.1) (code:=g.2.2.2.1) (os:=g.2.2.2.2) (fun x hx h18=>by
  obtain⟨k,hk,rfl⟩:=List.mem_iff_getElem.1 hx
  have e:g.2.2.2.1.getD k x0=g.2.2.2.1[k]:=by simp[List.getD,hk]
  have h1:=hG.ins k hk
  rw[e] at h1
  exact(ins_parts h1.1).2.2.2.1 h18) hG.wr
def lastR (g:ProgD) (ins:List (List Int)):Nat→List Int
 | 0=>List.replicate g.1.toNat 0
 | t+1=>frameAt ins (t:Int)
theorem frameAt_length (ins:List (List Int)) (t:Int):(frameAt ins t).length=ins.length:=by simp[frameAt]
theorem lastR_len {g:ProgD} {ins:List (List Int)} (h:(ins.length:Int)=g.1):∀t,(lastR g ins t).length=ins.length:=by
 intro t
 cases t with
 | zero=>simp only[lastR,List.length_replicate];omega
 | succ t=>exact frameAt_length _ _
theorem runR_bd (g:ProgD) (ins:List (List Int)) (n:Int):cntA List.length (runR g ins n).1≤1000000:=by
 cases hP:progB g with
 | false=>rw[runR_1 hP];simp[cntA]
 | true =>
   cases hS:(decide ((ins.length:Int)=g.1) && ins.all l03B && inR n 0 4000) with
   | false=>rw[runR_2 hP hS];simp[cntA]
   | true =>
     rw[runR_0 hP hS]
     have hC:=RunC.of hP hS
     have h4:=hC.ok.ol
     obtain⟨n1,n2⟩:=hC.nr
     have hl:=runO_len g ins n.toNat
     have:=cntA_one (ct:=List.length) (c:=4000) (xs:=runO g ins n.toNat) fun l hl2=>by
      obtain⟨m,hm,rfl⟩:=List.mem_iff_getElem.1 hl2
      have h5:=runO_row g ins (m:=m) (by omega) n.toNat
      rw[show (runO g ins n.toNat).getD m []=(runO g ins n.toNat)[m] by simp[List.getD,hm]] at h5
      omega
     show cntA List.length (runO g ins n.toNat)≤1000000
     rw[hl] at this
     omega
end Go.Proofs.Ytenjbehedcegdaa
