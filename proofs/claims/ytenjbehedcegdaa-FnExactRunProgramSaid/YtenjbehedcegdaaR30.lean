/-
  Texts of this claim, joined (part 30). No condition beyond those of the theorems.
-/
import Derived.Test.YtenjbehedcegdaaR02
set_option linter.unusedSimpArgs false
set_option linter.unusedVariables false
namespace Go.Proofs.Ytenjbehedcegdaa
open Go.RowKit
theorem aseq_take {P:Program} {G:TypeId→Option Ty} {T:Tab} {all l:List Oper} {σ:St} {K:St→Prop} (n:Nat) (hn:Nat.ble l.length n=true) (h:aseq P G T all (l.take n) σ K):aseq P G T all l σ K:=by
 rwa [List.take_of_length_le (Nat.le_of_ble_eq_true hn)] at h
open Go.RowKit
def St.freeR (σ:St) (n:Nat):St:=match σ.look n with
 | some (.row e t xs [])=>⟨freeBL n e t xs σ.tm,freeBO n e t xs σ.ob⟩
 | _=>σ
attribute [go_sem] St.freeR
end Go.Proofs.Ytenjbehedcegdaa
