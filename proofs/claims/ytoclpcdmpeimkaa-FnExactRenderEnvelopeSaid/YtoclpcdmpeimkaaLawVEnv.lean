/-
  ValidEnvelope of both sides; the law FnExactValidEnvelope, walked.
-/
import Derived.Test.YtoclpcdmpeimkaaEnv
namespace Go.Proofs.Ytoclpcdmpeimkaa
open Go.RowKit





theorem szF_in {n : Nat} {m : Int} (h : ¬ szF n m < 0) (hm : m ≤ 1048576) : n ≤ 1048576 ∧ 0 ≤ szF n m ∧ szF n m ≤ 1048576 ∧ szF n m = m - n := by
  unfold szF at *; split at h <;> simp_all <;> omega



end Go.Proofs.Ytoclpcdmpeimkaa
