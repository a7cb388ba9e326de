/-
  Texts of this claim, joined (part 14). No condition beyond those of the theorems.
-/
import Derived.Test.YthhogcknkimijaaDoorE13
namespace Go.Proofs.YthhogcknkimijaaDoor
set_option linter.unusedVariables false
set_option linter.unusedSimpArgs false
/-! The parts of a text between bytes. -/
/-! Numerals. -/
theorem dig_nat {d:Nat} (h:d < 10):(UInt8.ofNat (48+d)).toNat=48+d:=by
 rw[UInt8.toNat_ofNat'];omega
theorem dgs_len {u:Nat}:∀{k:Nat},1≤k→u < 10 ^ k→(Lib.decDigits u).length≤k:=by
 intro k hk
 have key:∀(k u:Nat),u < 10 ^ (k+1)→(Lib.decDigits u).length≤k+1:=by
  intro k
  induction k with
  | zero=>intro u h;rw[Lib.decDigits,dif_pos (by omega)];exact Nat.le_refl _
  | succ k ih =>
    intro u h
    rw[Lib.decDigits]
    by_cases c:u < 10
    · rw[dif_pos c];simp
    · rw[dif_neg c,List.length_append]
      have:=ih (u / 10) (by rw[Nat.pow_succ] at h;omega)
      simp only[List.length_singleton];omega
 intro h
 have:=key (k - 1) u (by rw[show k - 1+1=k by omega];exact h)
 omega
theorem itoa_nn {n:Int} (h:0≤n):Lib.itoa n=Lib.decDigits n.toNat:=by unfold Lib.itoa;rw[if_neg (by omega)]
/-! The text. -/
def segT (x:Int × Int):List UInt8:=62::(Lib.itoa x.2++58::Lib.itoa x.1)
def segsT (xs:List (Int × Int)):List UInt8:=xs.flatMap fun x=>32::segT x
def textE (s:Int) (xs:List (Int × Int)) (r:Int):List UInt8:=Lib.itoa s++(segsT xs++32::46::Lib.itoa r)
theorem segsT_snoc (xs:List (Int × Int)) (x:Int × Int):segsT (xs++[x])=segsT xs++32::segT x:=by unfold segsT;rw[List.flatMap_append];simp
section
variable {s r:Int} {xs:List (Int × Int)} (hs:0≤s∧s≤65536) (hx:∀x∈xs,0≤x.1∧x.1≤65536∧0≤x.2∧x.2≤65536) (hr:0≤r∧r≤65536)
end
end Go.Proofs.YthhogcknkimijaaDoor
