/-
  Texts of this claim, joined (part 29). No condition beyond those of the theorems.
-/
import Derived.Test.YthhogcknkimijaaDoorR20
import Derived.Test.YthhogcknkimijaaDoorR28
import Derived.Test.YthhogcknkimijaaDoorR04
import Derived.Lib.LaidTab
import Derived.Stop.LaidErr
import Derived.Lay
namespace Go.Proofs.YthhogcknkimijaaDoor
open Go.RowKit
set_option linter.unusedVariables false
theorem cellT_of {w : World} (h : Lib.TabIs Tryd.prog w "internal/strconv.uint64pow10" .u64 Lib.pow10Tab) (j : Nat) : w.cell? ⟨0, j, none⟩ = ((List.range 20).map fun i => Value.int .u64 ((10 ^ i : Nat) : Int))[j]? := by
 rw[World.var?_cell (by kernel_rfl) h j]
 simp[Lib.pow10Tab,List.map_map,Function.comp_def]
theorem starES : "*" ++ "errors.errorString" = "*errors.errorString" := by decide
theorem rowES (u : TypeId) (h : Tryd.prog.typeName? 3 u = some "*errors.errorString") : u = 132 :=
 typeName_ptr_named (nm := "errors.errorString") (by rw [starES]; kernel_rfl) (by kernel_rfl) (by decide) u (by rw [starES]; exact h)
theorem glob_all {w:World} (h:laidMet Tryd.prog Rows.fnExactReadEnvelopeRow.laid w) (hs:w.ShapedOpen Tryd.prog):Glob Rz.none w:=fun p hp=>by
 have hh : Lib.TabIs Tryd.prog w "internal/strconv.uint64pow10" .u64 Lib.pow10Tab :=
  Lib.tabIs_of_head (g:=0) (by kernel_rfl) (by kernel_rfl) Tryd.underlying116 Tryd.underlying88 (by kernel_rfl) (by kernel_rfl) h.tail.tail
 obtain ⟨a1, s1, r1, _⟩ := laid_sentinel (n := "strconv.ErrRange") (g := 2) h.tail.tail.tail.tail (by kernel_rfl) (by kernel_rfl) Tryd.underlying79 rowES Tryd.underlying132 Tryd.underlying134 rfl rfl Tryd.underlying9 (by kernel_rfl) (by kernel_rfl)
 obtain ⟨a2, s2, r2, _⟩ := laid_sentinel (n := "strconv.ErrSyntax") (g := 1) h.tail.tail.tail.tail.tail (by kernel_rfl) (by kernel_rfl) Tryd.underlying79 rowES Tryd.underlying132 Tryd.underlying134 rfl rfl Tryd.underlying9 (by kernel_rfl) (by kernel_rfl)
 obtain⟨m,hm⟩:=Go.Proofs.cell_of_shapedOpen_int (zero:=#[.int .i64 0]) (t:=3) (g:=3) hs (of_decide_eq_true (by kernel_rfl)) (by kernel_rfl) rfl (by kernel_rfl) (by kernel_rfl) Tryd.underlying3
 have hc:=cellT_of hh
 have c1:=World.var?_cell (g:=2) (by kernel_rfl) r1 0
 have c2:=World.var?_cell (g:=1) (by kernel_rfl) r2 0
 simp only[glb,List.mem_cons,List.not_mem_nil,or_false] at hp
 rcases hp with rfl|rfl|rfl|rfl
 · exact⟨rfl,World.block_lt_of_cell? w _ (hc 0),hc⟩
 · exact⟨rfl,World.block_lt_of_cell? w _ c2,_,_,c2⟩
 · exact⟨rfl,World.block_lt_of_cell? w _ c1,_,_,c1⟩
 · exact⟨rfl,World.block_lt_of_cell? w _ hm,m,hm⟩
end Go.Proofs.YthhogcknkimijaaDoor
