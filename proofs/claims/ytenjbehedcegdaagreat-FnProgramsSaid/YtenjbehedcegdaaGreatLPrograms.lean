/-
 FnPrograms: for any bytes from which a patch, signals and a number of frames are drawn, the program of the patch renders the same as the patch, and never has more live samples than registers. No condition.
-/
import Derived.Test.YtenjbehedcegdaaGreatQ03
import Derived.Test.YtenjbehedcegdaaGreatQ53
namespace Go.Proofs.YtenjbehedcegdaaGreat
open Go.ChangeShapes Go.WideShapes Go.ChangeAt Go.RowKit Go.Joins
set_option linter.unusedVariables false
theorem u8_rng {n:Int} (h:(Lit.int .u8 n).wf=true):0≤n∧n≤255:=by
 simp[Lit.wf,IntKind.min,IntKind.max,IntKind.bits,IntKind.signed] at h
 omega
namespace fnPrograms
set_option maxRecDepth 100000 in
theorem lifted (os:Os) (started:os.Started) (H:Type) (enc:TypeId × Value→H) :
 ReturnsInHanded {} Tryz.checked os 3 .any (Rows.fnProgramsSpec.pre6 enc Tryz.prog Tryz.f3 Rows.fnProgramsRow.domain false) (Rows.fnProgramsSpec.post enc Tryz.prog Tryz.f3 false true false false):=by
 refine returnsInHanded_of_change (C:=Tryz.checked) own started (by kernel_rfl) Tryz.func3
  (ChangeSpec.witness6 (enc:=enc) (C:=Tryz.checked) false ⟨#[],#[.slice none 0 0],[]⟩ 12 (by kernel_rfl) (by kernel_rfl) (by kernel_rfl) (by kernel_rfl)) ?_
 intro W base args ds gs before hval0 hW hcnd _
 have hval:∀(j:Nat) t v,Tryz.f3.params[j]?=some t→args[j]?=some v→Value.okWide Tryz.prog W .any base t v:=hval0
 have hW':=hW
 obtain⟨p,q,hA0,hV,rfl,hfz,hnd⟩:=hW;have hA:DataW.TrodAll enc Tryz.prog W 0 (fun _=>true) true Tryz.f3.params.toList args.toList ds p:=hA0
 rw[Tryz.params3] at hA hval
 obtain⟨v0,vs0,d0,ds0,p0,q0,hargs,rfl,rfl,h0,r0⟩:=trodAll_cons hA
 obtain⟨rfl,rfl,rfl⟩:=trodAll_nil r0
 obtain rfl:args=#[v0]:=by cases args;simp_all
 obtain⟨rfl,rfl⟩:=trodVars_none hV
 have k0:=h0
 have lt0:∀x∈p0,x.block < W.heap.size:=by obtain⟨m,hm⟩:=k0;exact DataW.trod_lt m _ _ _ hm
 have hw0:=hval 0 22 v0 rfl rfl
 obtain⟨a0,len0,cap0,rfl⟩:=okWide_slice Tryz.underlying22 hw0
 obtain⟨x0,s0,g0⟩:=B9E (n:=12) (T:=.row 5 (.int .u8)) (by kernel_rfl) hw0 k0
 clear hA0 hval0;refine(B4a (k:=U7) A9h (x:=(x0,())) (fun b hb=>u8_rng (g0 b hb)) (vs:=#[.slice a0 len0 cap0]) (by exact⟨_,_,rfl,B90 s0 (.inr rfl),rfl⟩) (fun R' w' v hv=>by simpa [S0,T8,A1B,VR,VRc,U7] using hv)).mono fun e W' ⟨he,bel⟩=>?_
 subst he;exact⟨_,rfl,_,_,_,[],_,[],hW',trodAll_mk1 (shut_bool Tryz.underlying4 _),(trodAll_cons_mk (Below.trod B7n (by kernel_rfl) (of_decide_eq_true (by kernel_rfl)) k0 bel lt0) trodAll_mk0),rfl,bel.frame _,fun h=>by cases h⟩
theorem over:Rows.fnProgramsRow.holds Tryz.pinned (OpenSpec.ofChange Rows.fnProgramsSpec) :=
 OpenClaim.holds_of_wide 3 Tryz.f3 rfl rfl rfl rfl rfl rfl rfl ⟨rfl,rfl,rfl,rfl,rfl⟩ rfl rfl rfl rfl rfl (by kernel_rfl) Tryz.func3 (by kernel_rfl)
  (of_decide_eq_true (by kernel_rfl)) (by unfold Func.isWrapper;first|(rw[if_pos (by decide +kernel)];kernel_rfl)|(rw[if_neg (by decide +kernel)];exact⟨rfl,rfl⟩))
  (fun os started H enc _=>lifted os started H enc)
theorem proved:Rows.FnProgramsSaid:=over
#print axioms proved
end fnPrograms
end Go.Proofs.YtenjbehedcegdaaGreat
