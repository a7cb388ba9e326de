/-
 Bytes that came in; a2Long.
-/
import Derived.Test.YtflaacndokbddaaDoorMem
namespace Go.Proofs.YtflaacndokbddaaDoor
open Go.RowKit

theorem bytes_of_row {w : World} {a : Option Addr} {len cap : Nat} {zs : List Int} (h : IsRow .u8 w a len cap zs) : ∀ x ∈ zs.take len, 0 ≤ x ∧ x ≤ 255 := by
 rcases h with ⟨rfl, rfl, rfl, rfl⟩ | ⟨x, rfl, hl, hm, hz, hc, hw⟩
 · intro x hx; simp at hx
 · intro y hy
   have := hw y (List.mem_of_mem_take hy)
   simp [Lit.wf, IntKind.min, IntKind.max, IntKind.bits, IntKind.signed] at this
   omega

theorem a2Long_yes (a b : Option Addr) (la ca lb cb : Nat) (w : World) (h : 3000 < la ∨ 3000 < lb) : Calls Tryd.prog 4 #[.slice a la ca, .slice b lb cb] w fun e w' => e = .returned (.bool true) ∧ w = w' := by
 by_cases h1 : 3000 < la
 · have h1' : (3000 : Int) < (la : Int) := by omega
   clear h
   go_enter Tryd.func4, Tryd.ntmps4
   go_wp2
   go_ret
   exact ⟨rfl, rfl⟩
 · have h1' : (la : Int) ≤ 3000 := by omega
   have h2 : (3000 : Int) < (lb : Int) := by omega
   clear h
   go_enter Tryd.func4, Tryd.ntmps4
   go_wp2
   go_ret
   exact ⟨rfl, rfl⟩
theorem a2Long_no (a b : Option Addr) (la ca lb cb : Nat) (w : World) (h : la ≤ 3000 ∧ lb ≤ 3000) : Calls Tryd.prog 4 #[.slice a la ca, .slice b lb cb] w fun e w' => e = .returned (.bool false) ∧ w = w' := by
 have h1 : (la : Int) ≤ 3000 := by omega
 have h2 : (lb : Int) ≤ 3000 := by omega
 go_enter Tryd.func4, Tryd.ntmps4
 go_wp2
 go_ret
 exact ⟨ret_bool (by simp; omega), rfl⟩

end Go.Proofs.YtflaacndokbddaaDoor
