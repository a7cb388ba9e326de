/-
 FnExactProgramText: for any program the program's ProgramText returns the text that the reference's returns, and leaves its argument as it was. The row (the table of powers of ten laid) and its tied card; no condition but the card's.
-/
import Derived.Test.YtenjbehedcegdaaDoorP04
import Derived.Test.YtenjbehedcegdaaDoorP39
import Derived.Test.YtenjbehedcegdaaDoorCards
import Derived.Test.YtenjbehedcegdaaDoorTie
import Derived.Lib.LaidTab
import Derived.Stop.LaidErr
import Derived.Lay
import Derived.SevenTiedAt
namespace Go.Proofs.YtenjbehedcegdaaDoor
open Go.ChangeShapes Go.WideShapes Go.ChangeAt Go.RowKit Go.Joins
set_option linter.unusedVariables false
theorem cellT_of {w : World} (h : Lib.TabIs Tryd.prog w "internal/strconv.uint64pow10" .u64 Lib.pow10Tab) (j : Nat) : w.cell? ⟨0, j, none⟩ = ((List.range 20).map fun i => Value.int .u64 ((10 ^ i : Nat) : Int))[j]? := by
 rw[World.var?_cell (by kernel_rfl) h j]
 simp[Lib.pow10Tab,List.map_map,Function.comp_def]
theorem glob_FnExactProgramText {w:World} (h:laidMet Tryd.prog Rows.fnExactProgramTextRow.laid w) (_:w.ShapedOpen Tryd.prog):Glob Rz.none w:=fun p hp=>by
 have hh : Lib.TabIs Tryd.prog w "internal/strconv.uint64pow10" .u64 Lib.pow10Tab :=
  Lib.tabIs_of_head (g:=0) (by kernel_rfl) (by kernel_rfl) Tryd.underlying111 Tryd.underlying103 (by kernel_rfl) (by kernel_rfl) (rest:=[]) h.tail.tail
 have hc:=cellT_of hh
 obtain rfl:=List.mem_singleton.1 hp
 exact⟨rfl,World.block_lt_of_cell? w _ (hc 0),hc⟩
namespace fnExactProgramText
set_option maxRecDepth 100000 in
theorem lifted (os:Os) (started:os.Started) (H:Type) (enc:TypeId × Value→H) :
 ReturnsInHanded {} Tryd.checked os 3 .any (fun w args=>(Rows.fnExactProgramTextSpec.pre enc Tryd.prog Tryd.f3 [] false w args∧laidMetH Tryd.prog Rows.fnExactProgramTextRow.laid w)∧sizedMet enc Tryd.prog Tryd.f3 (OpenSpec.ofChange Rows.fnExactProgramTextSpec) false w args)
  (Rows.fnExactProgramTextSpec.post enc Tryd.prog Tryd.f3 false true false false):=by
 refine handedS (C:=Tryd.checked) (X:=fun w _=>laidMetH Tryd.prog Rows.fnExactProgramTextRow.laid w) (fun _ _ _ hh h=>h.of_heap hh) own started (by kernel_rfl) Tryd.func3
  (ChangeSpec.witness_shaped (enc:=enc) (C:=Tryd.checked) (os:=os) (X:=fun w _=>laidMetH Tryd.prog Rows.fnExactProgramTextRow.laid w) false (World.laidAll Tryd.prog os Rows.fnExactProgramTextRow.laid) #[.agg #[.int .i64 0,.int .i64 0,.slice none 0 0,.slice none 0 0,.slice none 0 0]] 12 (World.laidAll_os _ _ _)
   (World.shaped_of_ZipB (by kernel_rfl) (by kernel_rfl)) (by kernel_rfl) (by kernel_rfl) (by kernel_rfl)
   (by rw[MakeChecks.laidMetH_plain _ _ _ (by kernel_rfl)];exact laidMet_laidAll _ (by kernel_rfl) (by kernel_rfl))) ?_
 intro W base args ds gs before hsh hval0 hW hL
 have hval:∀(j:Nat) t v,Tryd.f3.params[j]?=some t→args[j]?=some v→Value.okWide Tryd.prog W .any base t v:=hval0
 have hW':=hW
 obtain⟨p,q,hA0,hV,rfl,_,_⟩:=hW
 have hA:DataW.TrodAll enc Tryd.prog W 0 (fun _=>true) true Tryd.f3.params.toList args.toList ds p:=hA0
 rw[Tryd.params3] at hA hval
 obtain⟨v0,vs0,d0,ds0,p0,q0,hargs,rfl,rfl,h0,r0⟩:=trodAll_cons hA
 obtain⟨rfl,rfl,rfl⟩:=trodAll_nil r0
 obtain rfl:args=#[v0]:=by cases args;simp_all
 obtain⟨rfl,rfl⟩:=trodVars_none hV
 have k0:=h0
 have lt0:∀x∈p0,x.block < W.heap.size:=by obtain⟨m,hm⟩:=k0;exact DataW.trod_lt m _ _ _ hm
 have hw0:=hval 0 26 v0 rfl rfl
 obtain⟨x0,s0,_⟩:=arg_of (n:=12) (T:=.prod (.int .i64) (.prod (.int .i64) (.prod (.row 24 (.row 2 (.int .i64))) (.prod (.row 53 (.prod (.int .i64) (.prod (.int .i64) (.prod (.int .i64) (.prod (.int .i64) (.prod (.row 2 (.int .i64)) (.int .i64))))))) (.row 2 (.int .i64)))))) (by kernel_rfl) hw0 k0
 rw[MakeChecks.laidMetH_plain _ _ _ (by kernel_rfl)] at hL
 clear hA0 hval0
 refine(law_calls (k:=K_lawPT) lawPT_ok (x:=(x0,())) trivial (vs:=#[v0]) (by exact⟨_,_,rfl,vr_val s0 (.inl ⟨_,_,rfl⟩),rfl⟩) (fun R' w' v hv=>by simpa [outAll,outL,outA,VR,VRc,K_lawPT] using hv) (glob_FnExactProgramText hL hsh)).mono fun e W' ⟨he,bel⟩=>?_
 subst he
 exact⟨_,rfl,_,_,_,[],_,[],hW',trodAll_mk1 (shut_bool Tryd.underlying4 _),(trodAll_cons_mk (Below.trod laidOut (by kernel_rfl) (of_decide_eq_true (by kernel_rfl)) k0 bel lt0) trodAll_mk0),rfl,bel.frame _,fun h=>by cases h⟩
theorem over:Rows.FnExactProgramTextSaid :=
 OpenClaim.holds_of_wide 3 Tryd.f3 rfl rfl rfl rfl rfl rfl rfl ⟨rfl,rfl,rfl,rfl,rfl⟩ rfl rfl rfl rfl rfl (by kernel_rfl) Tryd.func3 (by kernel_rfl)
  (of_decide_eq_true (by kernel_rfl)) (by unfold Func.isWrapper;first|(rw[if_pos (by decide +kernel)];kernel_rfl)|(rw[if_neg (by decide +kernel)];exact⟨rfl,rfl⟩))
  (fun os started H enc _=>lifted os started H enc)
theorem provedCard:Rows.FnExactProgramTextCardSaid :=
 Claim7.holds_tied_plain_at .later [] [.data, .data, .data] true (true, "30994233dc5b0d552fa1d75ea59fd7152e1a04ed9441b35e0b92d594a396a3ba") false over (fun _ h => by cases h) (by kernel_rfl) (fun _ h => by cases h) fnExactProgramText_row_tie rfl ⟨rfl, rfl⟩ (by kernel_rfl) rfl
  (fun f fn hf hfn=>by
   obtain rfl : f = 3 := Option.some.inj ((show Tryd.prog.funcNamed "loop.example/g00903/laws.FnExactProgramText" = some 3 by kernel_rfl).symm.trans hf) |>.symm
   obtain rfl:fn=Tryd.f3:=(Option.some.inj (Tryd.func3.symm.trans hfn)).symm
   exact⟨by kernel_rfl,fun j t ht=>by
    rw[Tryd.params3] at ht
    have hm:t∈[26]:=by simpa using Array.mem_of_getElem? ht
    have hall:([26].all fun u=>!Tryd.prog.wantsStandIn u)=true:=by kernel_rfl
    exact(show Tryd.prog.wantsStandIn t=false by simpa using List.all_eq_true.1 hall t hm)⟩)
  (by kernel_rfl)
#print axioms provedCard
end fnExactProgramText
end Go.Proofs.YtenjbehedcegdaaDoor
