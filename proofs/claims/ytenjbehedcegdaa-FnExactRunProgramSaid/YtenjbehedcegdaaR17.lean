/-
  Texts of this claim, joined (part 17). No condition beyond those of the theorems.
-/
import Derived.Test.YtenjbehedcegdaaR16
namespace Go.Proofs.Ytenjbehedcegdaa
open Go.RowKit
set_option linter.unusedSimpArgs false
set_option linter.unusedVariables false
structure RunOk (g:ProgD) (st:RunSt):Prop where
 rl:st.1.length=g.2.1.toNat
 rs:smps st.1=true
 sl:st.2.length=24
 ss:∀k,k < g.2.2.2.1.length→¬(g.2.2.2.1.getD k x0).1=18→(st.2.getD (xN (g.2.2.2.1.getD k x0)).toNat []).length=(startV (nodeX (g.2.2.2.1.getD k x0))).length∧smps (st.2.getD (xN (g.2.2.2.1.getD k x0)).toNat [])=true
theorem startV_six {n:NodeD} (h:n.1=6):(startV n).length=n.2.1.toNat:=by rw[startV_len,if_pos h]
theorem strK_len (code:List InstrD):∀k,(strK code k).length=24:=by
 intro k
 induction k with
 | zero=>simp[strK]
 | succ k ih =>
   unfold strK
   split
   · exact ih
   · rw[List.length_set];exact ih
theorem startV_smp2 (n:NodeD) (h:smp n.2.1=true):smps (startV n)=true:=by
 unfold startV
 have hz:∀m,smps (List.replicate m (0:Int))=true:=fun m=>smps_iff.2 fun y hy=>by rw[(List.mem_replicate.1 hy).2];rfl
 repeat' split
 all_goals first|exact hz _|rfl|exact smps_iff.2 fun y hy=>by rw[List.mem_singleton.1 hy];exact h
section
variable {g:ProgD} (hG:ProgOk g)
include hG
theorem prog_pair:∃s,PairOk g.2.2.2.1 g.2.2.2.1.length s:=by obtain⟨s,_,h⟩:=pair_ok hG.pr;exact⟨s,h⟩
theorem prog_uniq {q k:Nat} (hq:q < g.2.2.2.1.length) (hk:k < g.2.2.2.1.length) (h1:¬(g.2.2.2.1.getD q x0).1=18) (h2:¬(g.2.2.2.1.getD k x0).1=18) (e:(xN (g.2.2.2.1.getD q x0)).toNat=(xN (g.2.2.2.1.getD k x0)).toNat):q=k:=by
 obtain⟨s,h⟩:=prog_pair hG
 have a:=(ins_parts (hG.ins q hq).1).1
 have b:=(ins_parts (hG.ins k hk).1).1
 exact h.uniq q k hq hk h1 h2 (by omega)
theorem prog_store {k:Nat} (hk:k < g.2.2.2.1.length) (h:(g.2.2.2.1.getD k x0).1=18):∃q,q < k∧(g.2.2.2.1.getD q x0).1=6∧xN (g.2.2.2.1.getD q x0)=xN (g.2.2.2.1.getD k x0):=by
 obtain⟨s,hp⟩:=prog_pair hG
 exact hp.sto k hk h
section
variable {fr:List Int} (hfl:(fr.length:Int)=g.1) (hfs:smps fr=true) {st:RunSt} (h:RunOk g st) {k:Nat} (hk:k < g.2.2.2.1.length)
include hfs h hk
theorem run_ins (hn:¬(g.2.2.2.1.getD k x0).1=18) (h6:¬(g.2.2.2.1.getD k x0).1=6):stepOk (nodeX (g.2.2.2.1.getD k x0)) g.2.2.1 (inX fr st.1 (g.2.2.2.1.getD k x0)) (st.2.getD (xN (g.2.2.2.1.getD k x0)).toNat []):=by
 obtain⟨_,h2,_,_,_,hB⟩:=ins_parts (hG.ins k hk).1
 have hs:=h.ss k hk hn
 have hB:=hB hn h6
 generalize g.2.2.2.1.getD k x0=x at *
 refine⟨hB,hG.ts,?_,hs.1,?_,hs.2⟩
 · unfold inX insN
   by_cases c:x.1=1
   · rw[decide_eq_true c,decide_eq_true (show (nodeX x).1=1 from c)];rfl
   · rw[decide_eq_false c,decide_eq_false (show ¬(nodeX x).1=1 from c)];simp[nodeX]
 · unfold inX
   by_cases c:x.1=1
   · rw[decide_eq_true c]
     exact smps_iff.2 fun y hy=>by rw[List.mem_singleton.1 hy];exact smps_at hfs _
   · rw[decide_eq_false c]
     exact smps_iff.2 fun y hy=>by
      obtain⟨q,_,rfl⟩:=List.mem_map.1 hy
      exact smps_at h.rs _
theorem run_step:RunOk g (stpX g.2.2.1 fr (g.2.2.2.1.getD k x0) st):=by
 obtain⟨h1,h2,_,h4,h5,_⟩:=ins_parts (hG.ins k hk).1
 unfold stpX
 by_cases c:(g.2.2.2.1.getD k x0).1=18
 · rw[decide_eq_true c]
   refine⟨h.rl,h.rs,by simp only[List.length_set];exact h.sl,fun q hq hqn=>?_⟩
   simp only
   rw[getD_set (by rw[h.sl];omega)]
   split
   · rename_i e
     obtain⟨d,hd,hd6,hdn⟩:=prog_store hG hk c
     have hd18:¬(g.2.2.2.1.getD d x0).1=18:=by omega
     have eq:q=d:=prog_uniq hG hq (by omega) hqn hd18 (by rw[hdn];exact e.symm)
     subst eq
     have hs:=h.ss q hq hqn
     rw[e]
     have hA:=(ins_parts (hG.ins q hq).1).2.2.2.2.1 hd6
     have hl:=startV_six (n:=nodeX (g.2.2.2.1.getD q x0)) hd6
     have hl2:(nodeX (g.2.2.2.1.getD q x0)).2.1=(g.2.2.2.1.getD q x0).2.1:=rfl
     rw[hl2] at hl
     refine⟨?_,smps_iff.2 fun y hy=>?_⟩
     · rw[List.length_append,List.length_drop,List.length_singleton]
       omega
     · rcases List.mem_append.1 hy with hy|hy
       · exact smps_iff.1 hs.2 y (List.mem_of_mem_drop hy)
       · rw[List.mem_singleton.1 hy];exact smps_at h.rs _
   · exact h.ss q hq hqn
 · rw[decide_eq_false c]
   simp only
   have hs:=h.ss k hk c
   by_cases c6:(g.2.2.2.1.getD k x0).1=6
   · rw[decide_eq_true c6]
     exact⟨by simp only[List.length_set];exact h.rl,smps_set h.rs (smps_at hs.2 _),h.sl,h.ss⟩
   · rw[decide_eq_false c6]
     have hst:=run_ins hG hfs h hk c c6
     have ho:=outV_smp hst
     have hx:=nextV_ok hst ho
     refine⟨by simp only[List.length_set];exact h.rl,smps_set h.rs ho,by simp only[List.length_set];exact h.sl,fun q hq hqn=>?_⟩
     simp only
     rw[getD_set (by rw[h.sl];omega)]
     split
     · rename_i e
       have eq:q=k:=prog_uniq hG hq hk hqn c e.symm
       subst eq
       exact hx
     · exact h.ss q hq hqn
end
theorem run_all {fr:List Int} (hfs:smps fr=true) {st:RunSt} (h:RunOk g st):∀k,k≤g.2.2.2.1.length→RunOk g (runK g fr st k):=by
 intro k
 induction k with
 | zero=>intro _;exact h
 | succ k ih=>intro hk;exact run_step hG hfs (ih (by omega)) (by omega)
theorem strK_at:∀k,k≤g.2.2.2.1.length→∀q,q < k→¬(g.2.2.2.1.getD q x0).1=18→(strK g.2.2.2.1 k).getD (xN (g.2.2.2.1.getD q x0)).toNat []=startV (nodeX (g.2.2.2.1.getD q x0)):=by
 intro k
 induction k with
 | zero=>intro _ q hq;omega
 | succ k ih =>
   intro hk q hq hn
   unfold strK
   by_cases c:(g.2.2.2.1.getD k x0).1=18
   · rw[decide_eq_true c]
     have:q≠k:=fun e=>by subst e;exact hn c
     exact ih (by omega) q (by omega) hn
   · rw[decide_eq_false c]
     simp only
     have hb:=(ins_parts (hG.ins k (by omega)).1).1
     rw[getD_set (by rw[strK_len];omega)]
     split
     · rename_i e
       have:q=k:=prog_uniq hG (by omega) (by omega) hn c e.symm
       subst this;rfl
     · rename_i e
       have:q≠k:=fun h=>e (by rw[h])
       exact ih (by omega) q (by omega) hn
theorem runG_ok {ins:List (List Int)} (hin:∀t:Nat,smps (frameAt ins (t:Int))=true):∀t,RunOk g (runG g ins t):=by
 intro t
 induction t with
 | zero =>
   refine⟨by simp[runG],?_,strK_len _ _,fun k hk hn=>?_⟩
   · exact smps_iff.2 fun y hy=>by rw[(List.mem_replicate.1 hy).2];rfl
   · have e:=strK_at hG _ (Nat.le_refl _) k hk hn
     show ((strK g.2.2.2.1 g.2.2.2.1.length).getD _ []).length=_∧smps ((strK g.2.2.2.1 g.2.2.2.1.length).getD _ [])=true
     rw[e]
     refine⟨rfl,startV_smp2 _ ?_⟩
     obtain⟨_,_,_,_,h5,h6⟩:=ins_parts (hG.ins k hk).1
     by_cases c6:(g.2.2.2.1.getD k x0).1=6
     · have:=h5 c6;exact smp_iff.2 ⟨by show _≤(g.2.2.2.1.getD k x0).2.1;omega,by show (g.2.2.2.1.getD k x0).2.1≤_;omega⟩
     · exact(nodeB_ab (h6 hn c6)).1
 | succ t ih=>exact run_all hG (hin t) ih _ (Nat.le_refl _)
end
end Go.Proofs.Ytenjbehedcegdaa
