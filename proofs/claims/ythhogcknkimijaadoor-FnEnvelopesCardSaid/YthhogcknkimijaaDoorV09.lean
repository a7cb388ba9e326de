/-
  Texts of this claim, joined (part 9). No condition beyond those of the theorems.
-/
import Derived.Test.YthhogcknkimijaaDoorRows
import Derived.Test.YthhogcknkimijaaDoorV02
import Derived.Deep.QuietTactic
import Derived.BigQuiet
import Derived.Lib.Hide
import Derived.Test.YthhogcknkimijaaDoorV08
namespace Go.Proofs.YthhogcknkimijaaDoor
open Go.RowKit
set_option linter.unusedSimpArgs false
set_option linter.unusedVariables false
abbrev SegD:=Int × Int
abbrev EnvD:=Int × List (Int × Int) × Int
def segB (s:SegD):Bool:=inR s.1 0 4000 && inR s.2 0 65536
def envB (e:EnvD):Bool:=e.2.1.all segB && (inR e.1 0 65536 && (inR e.2.2 0 4000 && decide (e.2.1.length≤8)))
theorem envB_parts {e:EnvD} (h:envB e=true):e.2.1.all segB=true∧inR e.1 0 65536=true∧inR e.2.2 0 4000=true∧e.2.1.length≤8:=by
 simp only[envB,Bool.and_eq_true,decide_eq_true_eq] at h
 exact⟨h.1,h.2.1,h.2.2.1,h.2.2.2⟩
def divF2 (a b:Int):Int:=a / b
theorem divF2_lo {a b:Int} (hb:0 < b) (h:a.tmod b < 0):a.tdiv b - 1=a / b:=by
 have e1:=Int.tmod_add_mul_tdiv a b
 have e2:=Int.emod_add_mul_ediv a b
 have e3:=Int.emod_nonneg a (by omega:b≠0)
 have e4:=Int.emod_lt_of_pos a hb
 have e5:-b < a.tmod b:=by have:=Int.lt_tmod_of_pos a hb;omega
 have e6:b * (a.tdiv b)=b * (a / b)+(a % b - a.tmod b):=by omega
 have e7:b * (a.tdiv b - a / b)=a % b - a.tmod b:=by rw[Int.mul_sub];omega
 have h1:a.tdiv b - a / b≤1:=by
  by_cases hh:a.tdiv b - a / b≤1
  · exact hh
  · have:b * 2≤b * (a.tdiv b - a / b):=Int.mul_le_mul_of_nonneg_left (by omega) (by omega)
    omega
 have h2:1≤a.tdiv b - a / b:=by
  by_cases hh:1≤a.tdiv b - a / b
  · exact hh
  · have:b * (a.tdiv b - a / b)≤b * 0:=Int.mul_le_mul_of_nonneg_left (by omega) (by omega)
    omega
 omega
theorem divF2_hi {a b:Int} (hb:0 < b) (h:0≤a.tmod b):a.tdiv b=a / b:=by
 have e1:=Int.tmod_add_mul_tdiv a b
 have e2:=Int.emod_add_mul_ediv a b
 have e3:=Int.emod_nonneg a (by omega:b≠0)
 have e4:=Int.emod_lt_of_pos a hb
 have e5:a.tmod b < b:=Int.tmod_lt_of_pos a hb
 have e7:b * (a.tdiv b - a / b)=a % b - a.tmod b:=by rw[Int.mul_sub];omega
 have h1:a.tdiv b - a / b < 1:=by
  by_cases hh:a.tdiv b - a / b < 1
  · exact hh
  · have:b * 1≤b * (a.tdiv b - a / b):=Int.mul_le_mul_of_nonneg_left (by omega) (by omega)
    omega
 have h2:-1 < a.tdiv b - a / b:=by
  by_cases hh:-1 < a.tdiv b - a / b
  · exact hh
  · have:b * (a.tdiv b - a / b)≤b * (-1):=Int.mul_le_mul_of_nonneg_left (by omega) (by omega)
    omega
 omega
theorem tdiv_rng {a b:Int} (hb:0 < b) (h1:-9223372036854775808≤a) (h2:a≤9223372036854775807):-9223372036854775808≤a.tdiv b∧a.tdiv b≤9223372036854775807∧(a.tmod b < 0→-9223372036854775808≤a.tdiv b - 1):=by
 have e1:=Int.tmod_add_mul_tdiv a b
 have e8:a.tmod b < b:=Int.tmod_lt_of_pos a hb
 have e9:-b < a.tmod b:=by have:=Int.lt_tmod_of_pos a hb;omega
 have e0:(a.tdiv b).natAbs≤a.natAbs:=by
  rw[Int.natAbs_tdiv];exact Nat.div_le_self _ _
 have e2:a.tmod b < 0→-9223372036854775808≤a.tdiv b - 1:=by
  intro h
  by_cases hh:-9223372036854775808≤a.tdiv b - 1
  · exact hh
  · exfalso
    have h3:a.tdiv b≤-9223372036854775808:=by omega
    have h4:b * a.tdiv b≤b * -9223372036854775808:=Int.mul_le_mul_of_nonneg_left h3 (by omega)
    have h5:b * -9223372036854775808≤1 * -9223372036854775808:=Int.mul_le_mul_of_nonpos_right (by omega) (by omega)
    omega
 refine⟨?_,?_,e2⟩
 · omega
 · by_cases ha:0≤a
   · omega
   · by_cases hh:a.tdiv b≤9223372036854775807
     · exact hh
     · have h3:b * 1≤b * a.tdiv b:=Int.mul_le_mul_of_nonneg_left (by omega) (by omega)
       omega
end Go.Proofs.YthhogcknkimijaaDoor
