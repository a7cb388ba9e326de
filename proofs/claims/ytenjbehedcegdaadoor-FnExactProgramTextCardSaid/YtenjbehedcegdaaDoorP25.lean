/-
  Texts of this claim, joined (part 25). No condition beyond those of the theorems.
-/
import Derived.Test.YtenjbehedcegdaaDoorP22
import Derived.Test.YtenjbehedcegdaaDoorP24
import Derived.Test.YtenjbehedcegdaaDoorP06
import Derived.Test.YtenjbehedcegdaaDoorP05
namespace Go.Proofs.YtenjbehedcegdaaDoor
open Go.Maps
set_option linter.unusedVariables false
theorem hasK_none {code:List InstrD} {k:Nat} (h:hasK code k=none):∀m,k≤m→hasK code m=none:=by
 intro m hm
 induction hm with
 | refl=>exact h
 | step _ ih=>show (hasK code _).bind _=none;rw[ih];rfl
theorem hasB_no {code:List InstrD} {k:Nat} (hk:k≤code.length) (h:hasK code k=none):hasB code=false:=by unfold hasB;rw[hasK_none h _ hk]
section
variable {code:List InstrD} {k:Nat} {c:List Int} {s:List Bool} (h:hasK code k=some (c,s))
include h
theorem has_twice (hk:k < code.length) (h18:¬(code.getD k x0).1=18) (h0:¬c.getD (xN (code.getD k x0)).toNat 0=0):hasB code=false:=by
 refine hasB_no (k:=k+1) hk ?_
 show (hasK code k).bind (hasS (code.getD k x0))=none
 rw[h]
 show hasS (code.getD k x0) (c,s)=none
 unfold hasS
 rw[decide_eq_false h18,decide_eq_false h0]
theorem has_node (h18:¬(code.getD k x0).1=18) (h0:c.getD (xN (code.getD k x0)).toNat 0=0):hasK code (k+1)=some (c.set (xN (code.getD k x0)).toNat (code.getD k x0).1,s):=by
 show (hasK code k).bind (hasS (code.getD k x0))=_
 rw[h]
 show hasS (code.getD k x0) (c,s)=_
 unfold hasS
 rw[decide_eq_false h18,decide_eq_true h0]
theorem has_lone (hk:k < code.length) (h18:(code.getD k x0).1=18) (h0:¬(c.getD (xN (code.getD k x0)).toNat 0=6∧s.getD (xN (code.getD k x0)).toNat false=false)):hasB code=false:=by
 refine hasB_no (k:=k+1) hk ?_
 show (hasK code k).bind (hasS (code.getD k x0))=none
 rw[h]
 show hasS (code.getD k x0) (c,s)=none
 unfold hasS
 rw[decide_eq_true h18]
 simp only
 cases g:(decide (c.getD (xN (code.getD k x0)).toNat 0=6) && !s.getD (xN (code.getD k x0)).toNat false) with
 | false=>rfl
 | true=>simp only[Bool.and_eq_true,decide_eq_true_eq,Bool.not_eq_true'] at g;exact absurd g h0
theorem has_store (h18:(code.getD k x0).1=18) (h0:c.getD (xN (code.getD k x0)).toNat 0=6) (h1:s.getD (xN (code.getD k x0)).toNat false=false):hasK code (k+1)=some (c,s.set (xN (code.getD k x0)).toNat true):=by
 show (hasK code k).bind (hasS (code.getD k x0))=_
 rw[h]
 show hasS (code.getD k x0) (c,s)=_
 unfold hasS
 rw[decide_eq_true h18]
 simp only
 rw[decide_eq_true h0,h1];rfl
theorem has_end (hk:k=code.length):hasB code=hasE (c,s):=by subst hk;unfold hasB;rw[h]
end
theorem hasE_t {H:Type} {D:DataW H} {c:List Int} {s:List Bool} (hM:MapI D c) (h:∀x:Int,has D (.int .i64 x)=true→¬(c.getD x.toNat 0=6∧s.getD x.toNat false=false)):hasE (c,s)=true:=by
 refine List.all_eq_true.2 fun i hi=>?_
 have hi:=List.mem_range.1 hi
 cases g:(decide ((c,s).1.getD i 0=6) && !(c,s).2.getD i false) with
 | false=>rfl
 | true =>
   simp only[Bool.and_eq_true,decide_eq_true_eq,Bool.not_eq_true'] at g
   have hh:=hM.hs i hi (by rw[g.1];decide)
   exact absurd (by rw[Int.toNat_natCast];exact g) (h (i:Int) hh)
theorem hasE_f {c:List Int} {s:List Bool} {x:Int} (hx:0≤x∧x≤23) (h1:c.getD x.toNat 0=6) (h2:s.getD x.toNat false=false):hasE (c,s)=false:=by
 cases g:hasE (c,s) with
 | false=>rfl
 | true =>
   have:=List.all_eq_true.1 g x.toNat (List.mem_range.2 (by omega))
   simp only[h1,h2,decide_true,Bool.not_false,Bool.and_self,Bool.not_true] at this
   cases this
open Go.RowKit
set_option linter.unusedSimpArgs false
set_option maxRecDepth 100000
set_option maxHeartbeats 1000000
def T_clones:Tab:=T_kinds
attribute [go_sem] T_clones
def T_shiftedNode:Tab:=T_clones
attribute [go_sem] T_shiftedNode
end Go.Proofs.YtenjbehedcegdaaDoor
