/-
 FnExactReadEnvelope: for any text the program's ReadEnvelope returns what the reference's returns, and shares nothing. The row (with the library's variables that it lists) and its tied card; no condition but the card's.
-/
import Derived.Test.YthhogcknkimijaaDoorR04
import Derived.Test.YthhogcknkimijaaDoorR27
import Derived.Test.YthhogcknkimijaaDoorR29
import Derived.Test.YthhogcknkimijaaDoorCards
import Derived.Test.YthhogcknkimijaaDoorTie
import Derived.Lay
import Derived.SevenTiedAt
namespace Go.Proofs.YthhogcknkimijaaDoor
open Go.ChangeShapes Go.WideShapes Go.ChangeAt Go.RowKit Go.Joins
set_option linter.unusedVariables false
theorem glob_FnExactReadEnvelope {w:World} (h:laidMet Tryd.prog Rows.fnExactReadEnvelopeRow.laid w) (hs:w.ShapedOpen Tryd.prog):Glob Rz.none w:=glob_all h hs
namespace fnExactReadEnvelope
set_option maxRecDepth 100000 in
theorem lifted (os:Os) (started:os.Started) (H:Type) (enc:TypeId × Value→H) :
 ReturnsInHanded {} Tryd.checked os 4 .any (fun w args=>(Rows.fnExactReadEnvelopeSpec.pre enc Tryd.prog Tryd.f4 [] false w args∧laidMetH Tryd.prog Rows.fnExactReadEnvelopeRow.laid w)∧sizedMet enc Tryd.prog Tryd.f4 (OpenSpec.ofChange Rows.fnExactReadEnvelopeSpec) false w args)
  (Rows.fnExactReadEnvelopeSpec.post enc Tryd.prog Tryd.f4 false true false false):=by
 refine handedS (C:=Tryd.checked) (X:=fun w _=>laidMetH Tryd.prog Rows.fnExactReadEnvelopeRow.laid w) (fun _ _ _ hh h=>h.of_heap hh) own started (by kernel_rfl) Tryd.func4
  (ChangeSpec.witness_shaped (enc:=enc) (C:=Tryd.checked) (os:=os) (X:=fun w _=>laidMetH Tryd.prog Rows.fnExactReadEnvelopeRow.laid w) false (World.laidAll Tryd.prog os Rows.fnExactReadEnvelopeRow.laid) #[.string ByteArray.empty] 12 (World.laidAll_os _ _ _)
   (World.shaped_of_ZipB (by kernel_rfl) (by kernel_rfl)) (by kernel_rfl) (by kernel_rfl) (by kernel_rfl)
   (by rw[MakeChecks.laidMetH_plain _ _ _ (by kernel_rfl)];exact laidMet_laidAll _ (by kernel_rfl) (by kernel_rfl))) ?_
 intro W base args ds gs before hsh hval0 hW hL
 have hval:∀(j:Nat) t v,Tryd.f4.params[j]?=some t→args[j]?=some v→Value.okWide Tryd.prog W .any base t v:=hval0
 have hW':=hW
 obtain⟨p,q,hA0,hV,rfl,_,_⟩:=hW
 have hA:DataW.TrodAll enc Tryd.prog W 0 (fun _=>true) true Tryd.f4.params.toList args.toList ds p:=hA0
 rw[Tryd.params4] at hA hval
 obtain⟨v0,vs0,d0,ds0,p0,q0,hargs,rfl,rfl,h0,r0⟩:=trodAll_cons hA
 obtain⟨rfl,rfl,rfl⟩:=trodAll_nil r0
 obtain rfl:args=#[v0]:=by cases args;simp_all
 obtain⟨rfl,rfl⟩:=trodVars_none hV
 have k0:=h0
 have lt0:∀x∈p0,x.block < W.heap.size:=by obtain⟨m,hm⟩:=k0;exact DataW.trod_lt m _ _ _ hm
 have hw0:=hval 0 9 v0 rfl rfl
 obtain⟨a0,rfl,hd0,hp0,w0⟩:=Go.ChangeMaps.open_string Tryd.underlying9 hw0 h0
 obtain⟨x0,s0,_⟩:=arg_of (n:=12) (T:=.str) (by kernel_rfl) hw0 k0
 rw[MakeChecks.laidMetH_plain _ _ _ (by kernel_rfl)] at hL
 clear hA0 hval0
 refine(law_calls (k:=K_lawRdE) lawRdE_ok (x:=(x0,())) trivial (vs:=#[.string a0]) (by exact⟨_,_,rfl,vr_val s0 (.inr rfl),rfl⟩) (fun R' w' v hv=>by simpa [outAll,outL,outA,VR,VRc,K_lawRdE] using hv) (glob_FnExactReadEnvelope hL hsh)).mono fun e W' ⟨he,bel⟩=>?_
 subst he
 exact⟨_,rfl,_,_,_,[],_,[],hW',trodAll_mk1 (shut_bool Tryd.underlying4 _),(trodAll_cons_mk (Below.trod laidOut (by kernel_rfl) (of_decide_eq_true (by kernel_rfl)) k0 bel lt0) trodAll_mk0),rfl,bel.frame _,fun h=>by cases h⟩
theorem over:Rows.FnExactReadEnvelopeSaid :=
 OpenClaim.holds_of_wide 4 Tryd.f4 rfl rfl rfl rfl rfl rfl rfl ⟨rfl,rfl,rfl,rfl,rfl⟩ rfl rfl rfl rfl rfl (by kernel_rfl) Tryd.func4 (by kernel_rfl)
  (of_decide_eq_true (by kernel_rfl)) (by unfold Func.isWrapper;first|(rw[if_pos (by decide +kernel)];kernel_rfl)|(rw[if_neg (by decide +kernel)];exact⟨rfl,rfl⟩))
  (fun os started H enc _=>lifted os started H enc)
theorem provedCard:Rows.FnExactReadEnvelopeCardSaid :=
 Claim7.holds_tied_plain_at .later [] [.data, .data, .data, .data, .sentinel, .sentinel, .pinned] true (true, "7774f8b3e2c0026e0e02d9321f58552f39e79680e92c8f6434d80269049b1bbc") true over (fun _ h => by cases h) (by kernel_rfl) (fun _ h => by cases h) fnExactReadEnvelope_row_tie rfl ⟨rfl, rfl⟩ (by kernel_rfl) rfl
  (fun f fn hf hfn=>by
   obtain rfl : f = 4 := Option.some.inj ((show Tryd.prog.funcNamed "loop.example/g00903/laws.FnExactReadEnvelope" = some 4 by kernel_rfl).symm.trans hf) |>.symm
   obtain rfl:fn=Tryd.f4:=(Option.some.inj (Tryd.func4.symm.trans hfn)).symm
   exact⟨by kernel_rfl,fun j t ht=>by
    rw[Tryd.params4] at ht
    have hm:t∈[9]:=by simpa using Array.mem_of_getElem? ht
    have hall:([9].all fun u=>!Tryd.prog.wantsStandIn u)=true:=by kernel_rfl
    exact(show Tryd.prog.wantsStandIn t=false by simpa using List.all_eq_true.1 hall t hm)⟩)
  (by kernel_rfl)
#print axioms provedCard
end fnExactReadEnvelope
end Go.Proofs.YthhogcknkimijaaDoor
