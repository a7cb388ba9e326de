/-
  Texts of this claim, joined (part 11). No condition beyond those of the theorems.
-/
import Derived.Lib.ItoaNum
import Derived.Lib.ItoaMem
namespace Go.Proofs.YthhogcknkimijaaDoor
set_option linter.unusedVariables false
def decD (u:Nat):List UInt8:=if u=0 then [] else Lib.decDigits u
theorem decD_step {u:Nat} (h:u≠0):decD u=decD (u / 10)++[UInt8.ofNat (48+u % 10)]:=by
 unfold decD
 rw[if_neg h,Lib.decDigits]
 by_cases h10:u < 10
 · rw[dif_pos h10,if_pos (by omega),List.nil_append,Nat.mod_eq_of_lt h10]
 · rw[dif_neg h10,if_neg (by omega)]
theorem decD_len (u:Nat) (h:u < 10 ^ 19):(decD u).length≤20:=by
 have key : ∀ (k u : Nat), u < 10 ^ k → (decD u).length ≤ k := by
  intro k
  induction k with
  | zero => intro u h; have : u = 0 := by omega
            subst this;exact Nat.le_refl _
  | succ k ih =>
    intro u h
    by_cases c:u=0
    · subst c;exact Nat.zero_le _
    · rw[decD_step c,List.length_append]
      have:=ih (u / 10) (by rw[Nat.pow_succ] at h;omega)
      simp only[List.length_singleton]
      omega
 have:=key 19 u h
 omega
theorem tdiv10 (k:Int):(k.tdiv 10).natAbs=k.natAbs / 10:=Int.natAbs_tdiv k 10
end Go.Proofs.YthhogcknkimijaaDoor
