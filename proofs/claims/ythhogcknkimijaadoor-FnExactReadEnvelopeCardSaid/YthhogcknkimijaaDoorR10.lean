/-
  Texts of this claim, joined (part 10). No condition beyond those of the theorems.
-/
import Derived.Test.YthhogcknkimijaaDoorR08
import Derived.Test.YthhogcknkimijaaDoorR09
namespace Go.Proofs.YthhogcknkimijaaDoor
open Go.RowKit
set_option linter.unusedSimpArgs false
set_option linter.unusedVariables false
abbrev SegD:=Int × Int
abbrev EnvD:=Int × List (Int × Int) × Int
def segB (s:SegD):Bool:=inR s.1 0 4000 && inR s.2 0 65536
def envB (e:EnvD):Bool:=e.2.1.all segB && (inR e.1 0 65536 && (inR e.2.2 0 4000 && decide (e.2.1.length≤8)))
theorem envB_parts {e:EnvD} (h:envB e=true):e.2.1.all segB=true∧inR e.1 0 65536=true∧inR e.2.2 0 4000=true∧e.2.1.length≤8:=by
 simp only[envB,Bool.and_eq_true,decide_eq_true_eq] at h
 exact⟨h.1,h.2.1,h.2.2.1,h.2.2.2⟩
def mkSg (k:Int) (_:SegD):SegD:=(k,k+1)
def ctSg (_:SegD):Nat:=2
abbrev markSg (k:Int) (t:List SegD):List SegD:=markA mkSg ctSg k t
theorem cntSg (t:List SegD):cntA ctSg t=2 * t.length:=by
 induction t with
 | nil=>rfl
 | cons x l ih=>simp only[cntA,ih,ctSg,List.length_cons];omega
theorem heldSg_mark (k:Int) (t:List SegD):heldA mkSg ctSg k (markSg k t)=k+(2 * t.length:Nat):=by
 rw[heldA_mark (mk:=mkSg) (ct:=ctSg) (fun _ _=>rfl) (fun _ _=>rfl),cntSg]
end Go.Proofs.YthhogcknkimijaaDoor
