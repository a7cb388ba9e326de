/-
 FnEnvelopes: for any bytes from which an envelope and a gate are drawn, the levels that RenderEnvelope, LevelAt, EndOfEnvelope and HeldLevel return agree, and the text reads back. The row (with the library variables that it lists) and its tied card; no condition.
-/
import Derived.Test.YthhogcknkimijaaDoorV04
import Derived.Test.YthhogcknkimijaaDoorV28
import Derived.Test.YthhogcknkimijaaDoorV29
import Derived.Test.YthhogcknkimijaaDoorCards
import Derived.Test.YthhogcknkimijaaDoorTie
import Derived.Lay
import Derived.SevenTiedAt
namespace Go.Proofs.YthhogcknkimijaaDoor
open Go.ChangeShapes Go.WideShapes Go.ChangeAt Go.RowKit Go.Joins
set_option linter.unusedVariables false
theorem glob_FnEnvelopes {w:World} (h:laidMet Tryd.prog Rows.fnEnvelopesRow.laid w) (hs:w.ShapedOpen Tryd.prog):Glob Rz.none w:=glob_all h hs
theorem u8_rng {n:Int} (h:(Lit.int .u8 n).wf=true):0≤n∧n≤255:=by
 simp[Lit.wf,IntKind.min,IntKind.max,IntKind.bits,IntKind.signed] at h
 omega
namespace fnEnvelopes
set_option maxRecDepth 100000 in
theorem lifted (os:Os) (started:os.Started) (H:Type) (enc:TypeId × Value→H) :
 ReturnsInHanded {} Tryd.checked os 5 .any (fun w args=>(Rows.fnEnvelopesSpec.pre enc Tryd.prog Tryd.f5 [] false w args∧laidMetH Tryd.prog Rows.fnEnvelopesRow.laid w)∧sizedMet enc Tryd.prog Tryd.f5 (OpenSpec.ofChange Rows.fnEnvelopesSpec) false w args)
  (Rows.fnEnvelopesSpec.post enc Tryd.prog Tryd.f5 false true false false):=by
 refine handedS (C:=Tryd.checked) (X:=fun w _=>laidMetH Tryd.prog Rows.fnEnvelopesRow.laid w) (fun _ _ _ hh h=>h.of_heap hh) own started (by kernel_rfl) Tryd.func5
  (ChangeSpec.witness_shaped (enc:=enc) (C:=Tryd.checked) (os:=os) (X:=fun w _=>laidMetH Tryd.prog Rows.fnEnvelopesRow.laid w) false (World.laidAll Tryd.prog os Rows.fnEnvelopesRow.laid) #[.slice none 0 0,.slice none 0 0] 12 (World.laidAll_os _ _ _)
   (World.shaped_of_ZipB (by kernel_rfl) (by kernel_rfl)) (by kernel_rfl) (by kernel_rfl) (by kernel_rfl)
   (by rw[MakeChecks.laidMetH_plain _ _ _ (by kernel_rfl)];exact laidMet_laidAll _ (by kernel_rfl) (by kernel_rfl))) ?_
 intro W base args ds gs before hsh hval0 hW hL
 have hval:∀(j:Nat) t v,Tryd.f5.params[j]?=some t→args[j]?=some v→Value.okWide Tryd.prog W .any base t v:=hval0
 have hW':=hW
 obtain⟨p,q,hA0,hV,rfl,_,_⟩:=hW
 have hA:DataW.TrodAll enc Tryd.prog W 0 (fun _=>true) true Tryd.f5.params.toList args.toList ds p:=hA0
 rw[Tryd.params5] at hA hval
 obtain⟨v0,vs0,d0,ds0,p0,q0,hargs,rfl,rfl,h0,r0⟩:=trodAll_cons hA
 obtain⟨v1,vs1,d1,ds1,p1,q1,rfl,rfl,rfl,h1,r1⟩:=trodAll_cons r0
 obtain⟨rfl,rfl,rfl⟩:=trodAll_nil r1
 obtain rfl:args=#[v0,v1]:=by cases args;simp_all
 obtain⟨rfl,rfl⟩:=trodVars_none hV
 have k0:=h0
 have lt0:∀x∈p0,x.block < W.heap.size:=by obtain⟨m,hm⟩:=k0;exact DataW.trod_lt m _ _ _ hm
 have hw0:=hval 0 37 v0 rfl rfl
 obtain⟨a0,len0,cap0,rfl⟩:=okWide_slice Tryd.underlying37 hw0
 obtain⟨x0,s0,g0⟩:=arg_of (n:=12) (T:=.row 5 (.int .u8)) (by kernel_rfl) hw0 k0
 have k1:=h1
 have lt1:∀x∈p1,x.block < W.heap.size:=by obtain⟨m,hm⟩:=k1;exact DataW.trod_lt m _ _ _ hm
 have hw1:=hval 1 37 v1 rfl rfl
 obtain⟨a1,len1,cap1,rfl⟩:=okWide_slice Tryd.underlying37 hw1
 obtain⟨x1,s1,g1⟩:=arg_of (n:=12) (T:=.row 5 (.int .u8)) (by kernel_rfl) hw1 k1
 rw[MakeChecks.laidMetH_plain _ _ _ (by kernel_rfl)] at hL
 clear hA0 hval0
 refine(law_calls (k:=K_lawEnvs) lawEnvs_ok (x:=(x0,x1,())) (⟨fun b hb=>u8_rng (g0 b hb),fun b hb=>u8_rng (g1 b hb)⟩) (vs:=#[.slice a0 len0 cap0,.slice a1 len1 cap1]) (by exact⟨_,_,rfl,vr_val s0 (.inr rfl),⟨_,_,rfl,vr_val s1 (.inr rfl),rfl⟩⟩) (fun R' w' v hv=>by simpa [outAll,outL,outA,VR,VRc,K_lawEnvs] using hv) (glob_FnEnvelopes hL hsh)).mono fun e W' ⟨he,bel⟩=>?_
 subst he
 exact⟨_,rfl,_,_,_,[],_,[],hW',trodAll_mk1 (shut_bool Tryd.underlying4 _),(trodAll_cons_mk (Below.trod laidOut (by kernel_rfl) (of_decide_eq_true (by kernel_rfl)) k0 bel lt0) (trodAll_cons_mk (Below.trod laidOut (by kernel_rfl) (of_decide_eq_true (by kernel_rfl)) k1 bel lt1) trodAll_mk0)),rfl,bel.frame _,fun h=>by cases h⟩
theorem over:Rows.FnEnvelopesSaid :=
 OpenClaim.holds_of_wide 5 Tryd.f5 rfl rfl rfl rfl rfl rfl rfl ⟨rfl,rfl,rfl,rfl,rfl⟩ rfl rfl rfl rfl rfl (by kernel_rfl) Tryd.func5 (by kernel_rfl)
  (of_decide_eq_true (by kernel_rfl)) (by unfold Func.isWrapper;first|(rw[if_pos (by decide +kernel)];kernel_rfl)|(rw[if_neg (by decide +kernel)];exact⟨rfl,rfl⟩))
  (fun os started H enc _=>lifted os started H enc)
theorem provedCard:Rows.FnEnvelopesCardSaid :=
 Claim7.holds_tied_plain_at .later [] [.data, .data, .data, .data, .sentinel, .sentinel, .pinned] true (true, "7774f8b3e2c0026e0e02d9321f58552f39e79680e92c8f6434d80269049b1bbc") true over (fun _ h => by cases h) (by kernel_rfl) (fun _ h => by cases h) fnEnvelopes_row_tie rfl ⟨rfl, rfl⟩ (by kernel_rfl) rfl
  (fun f fn hf hfn=>by
   obtain rfl : f = 5 := Option.some.inj ((show Tryd.prog.funcNamed "loop.example/g00903/laws.FnEnvelopes" = some 5 by kernel_rfl).symm.trans hf) |>.symm
   obtain rfl:fn=Tryd.f5:=(Option.some.inj (Tryd.func5.symm.trans hfn)).symm
   exact⟨by kernel_rfl,fun j t ht=>by
    rw[Tryd.params5] at ht
    have hm:t∈[37,37]:=by simpa using Array.mem_of_getElem? ht
    have hall:([37,37].all fun u=>!Tryd.prog.wantsStandIn u)=true:=by kernel_rfl
    exact(show Tryd.prog.wantsStandIn t=false by simpa using List.all_eq_true.1 hall t hm)⟩)
  (by kernel_rfl)
#print axioms provedCard
end fnEnvelopes
end Go.Proofs.YthhogcknkimijaaDoor
