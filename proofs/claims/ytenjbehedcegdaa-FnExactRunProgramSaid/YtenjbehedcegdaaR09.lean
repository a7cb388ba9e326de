/-
  Texts of this claim, joined (part 9). No condition beyond those of the theorems.
-/
import Derived.Test.YtenjbehedcegdaaR08
namespace Go.Proofs.Ytenjbehedcegdaa
open Go.RowKit
set_option linter.unusedSimpArgs false
set_option linter.unusedVariables false
def fromX (x:InstrD):Nat:=x.2.2.2.2.1.length
def szXs (t:List InstrD):Nat:=t.length+cntA fromX t
def szG (g:ProgD):Nat:=szL g.2.2.1+szXs g.2.2.2.1+g.2.2.2.2.length
def fitsX (t:List InstrD):Prop:=t.length≤1099511627776∧∀l∈t,l.2.2.2.2.1.length≤1099511627776
def fitsG (g:ProgD):Prop:=fitsL g.2.2.1∧fitsX g.2.2.2.1∧g.2.2.2.2.length≤1099511627776
theorem ctXs (t:List InstrD):cntA ctX t=5 * t.length+cntA fromX t:=by
 induction t with
 | nil=>rfl
 | cons x l ih=>simp only[cntA,ih,List.length_cons,ctX,fromX];omega
theorem ctG_le (g:ProgD):ctG g≤5 * szG g:=by
 unfold ctG szG szL szXs;rw[ctXs];omega
theorem fitsG_sz {g:ProgD} (h:szG g≤1099511627776):fitsG g:=by
 unfold szG szL szXs at h
 exact⟨⟨by omega,fun l hl=>by have:=cnt_mem (ct:=List.length) hl;omega⟩,⟨by omega,fun l hl=>by have:=cnt_mem (ct:=fromX) hl;simp only[fromX] at this;omega⟩,by omega⟩
end Go.Proofs.Ytenjbehedcegdaa
