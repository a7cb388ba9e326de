/-
  Texts of this claim, joined (part 29). No condition beyond those of the theorems.
-/
import Derived.Handed
import Derived.Test.YthhogcknkimijaaDoorRows
import Derived.Test.YthhogcknkimijaaDoorV19
import Derived.Test.YthhogcknkimijaaDoorV04
import Derived.Lib.LaidTab
import Derived.Stop.LaidErr
import Derived.Lay
namespace Go.Proofs.YthhogcknkimijaaDoor
set_option linter.unusedVariables false
theorem handedS {H:Type} {enc:TypeId × Value→H} {C:Checked} {os:Os} {f:FuncId} {fn:Func} {s:ChangeSpec} {X:World→Array Value→Prop} (hX:∀(w w':World) (args:Array Value),w.heap=w'.heap→X w args→X w' args)
 (own:ownKnob C.prog.godebug=none) (started:os.Started) (noInit:C.prog.inits.idxOf? f=none) (hfn:C.prog.funcs[f]?=some fn)
 (witness:∃(w:World) (tape:Tape) (i:Input),w.os=os∧(w.forCall tape i).Shaped C.prog∧i.vars=[]∧Input.okWide C.prog (w.forCall tape i) .any w.heap.size f i ∧
  ((s.pre enc C.prog fn [] false (w.forCall tape i).memory i.args∧X (w.forCall tape i).memory i.args)∧sizedMet enc C.prog fn (OpenSpec.ofChange s) false (w.forCall tape i).memory i.args)∧({}:Assume).holds C.prog (lone (Frame.enter C.prog f i.args .normal) [] (w.forCall tape i)))
 (law:∀(W:World) (base:Nat) (args:Array Value) (ds gs:List (DataW H)) (before:List MemPlace),W.ShapedOpen C.prog →
  (∀(j:Nat) t v,fn.params[j]?=some t→args[j]?=some v→Value.okWide C.prog W .any base t v)→DataW.Whole enc C.prog fn.params.toList s.vars false W args.toList ds gs before→X W args →
  Calls C.prog f args W fun e W'=>∃v,e=.returned v∧s.post enc C.prog fn false true false false W args v W') :
 ReturnsInHanded {} C os f .any (fun w args=>(s.pre enc C.prog fn [] false w args∧X w args)∧sizedMet enc C.prog fn (OpenSpec.ofChange s) false w args) (s.post enc C.prog fn false true false false) :=
 returnsInHanded_of_calls own started noInit witness fun w tape i _ shape _ hok hpre _=>by
  obtain⟨_,_,_,fn',h1,_,_,_,_,hv⟩:=hok
  rw[hfn] at h1
  obtain rfl:=Option.some.inj h1
  obtain⟨⟨⟨ds,gs,before,hw,_⟩,hx⟩,_⟩:=hpre
  refine(law (w.forCall tape i) w.heap.size i.args ds gs before shape hv (DataW.Whole.of_heap (by rfl) hw) (hX _ _ _ (by rfl) hx)).mono fun e W' h=>?_
  obtain⟨v,rfl,hp⟩:=h
  exact ChangeSpec.post_blind hp
open Go.RowKit
theorem cellT_of {w : World} (h : Lib.TabIs Tryd.prog w "internal/strconv.uint64pow10" .u64 Lib.pow10Tab) (j : Nat) : w.cell? ⟨0, j, none⟩ = ((List.range 20).map fun i => Value.int .u64 ((10 ^ i : Nat) : Int))[j]? := by
 rw[World.var?_cell (by kernel_rfl) h j]
 simp[Lib.pow10Tab,List.map_map,Function.comp_def]
theorem starES : "*" ++ "errors.errorString" = "*errors.errorString" := by decide
theorem rowES (u : TypeId) (h : Tryd.prog.typeName? 3 u = some "*errors.errorString") : u = 132 :=
 typeName_ptr_named (nm := "errors.errorString") (by rw [starES]; kernel_rfl) (by kernel_rfl) (by decide) u (by rw [starES]; exact h)
theorem glob_all {w:World} (h:laidMet Tryd.prog Rows.fnExactReadEnvelopeRow.laid w) (hs:w.ShapedOpen Tryd.prog):Glob Rz.none w:=fun p hp=>by
 have hh : Lib.TabIs Tryd.prog w "internal/strconv.uint64pow10" .u64 Lib.pow10Tab :=
  Lib.tabIs_of_head (g:=0) (by kernel_rfl) (by kernel_rfl) Tryd.underlying116 Tryd.underlying88 (by kernel_rfl) (by kernel_rfl) h.tail.tail
 obtain ⟨a1, s1, r1, _⟩ := laid_sentinel (n := "strconv.ErrRange") (g := 2) h.tail.tail.tail.tail (by kernel_rfl) (by kernel_rfl) Tryd.underlying79 rowES Tryd.underlying132 Tryd.underlying134 rfl rfl Tryd.underlying9 (by kernel_rfl) (by kernel_rfl)
 obtain ⟨a2, s2, r2, _⟩ := laid_sentinel (n := "strconv.ErrSyntax") (g := 1) h.tail.tail.tail.tail.tail (by kernel_rfl) (by kernel_rfl) Tryd.underlying79 rowES Tryd.underlying132 Tryd.underlying134 rfl rfl Tryd.underlying9 (by kernel_rfl) (by kernel_rfl)
 obtain⟨m,hm⟩:=Go.Proofs.cell_of_shapedOpen_int (zero:=#[.int .i64 0]) (t:=3) (g:=3) hs (of_decide_eq_true (by kernel_rfl)) (by kernel_rfl) rfl (by kernel_rfl) (by kernel_rfl) Tryd.underlying3
 have hc:=cellT_of hh
 have c1:=World.var?_cell (g:=2) (by kernel_rfl) r1 0
 have c2:=World.var?_cell (g:=1) (by kernel_rfl) r2 0
 simp only[glb,List.mem_cons,List.not_mem_nil,or_false] at hp
 rcases hp with rfl|rfl|rfl|rfl
 · exact⟨rfl,World.block_lt_of_cell? w _ (hc 0),hc⟩
 · exact⟨rfl,World.block_lt_of_cell? w _ c2,_,_,c2⟩
 · exact⟨rfl,World.block_lt_of_cell? w _ c1,_,_,c1⟩
 · exact⟨rfl,World.block_lt_of_cell? w _ hm,m,hm⟩
end Go.Proofs.YthhogcknkimijaaDoor
