/-
 FnSameOutputs: two patches drawn from any bytes whose outputs are proved to be the same render the same; a patch has the same outputs as itself and as its classes. No condition.
-/
import Derived.Test.YtflobmmbhaofbaaGreatQ03
import Derived.Test.YtflobmmbhaofbaaGreatQ51
namespace Go.Proofs.YtflobmmbhaofbaaGreat
open Go.ChangeShapes Go.WideShapes Go.ChangeAt Go.RowKit Go.Joins
set_option linter.unusedVariables false
theorem u8_rng {n:Int} (h:(Lit.int .u8 n).wf=true):0≤n∧n≤255:=by
 simp[Lit.wf,IntKind.min,IntKind.max,IntKind.bits,IntKind.signed] at h
 omega
namespace fnSameOutputs
set_option maxRecDepth 100000 in
theorem lifted (os:Os) (started:os.Started) (H:Type) (enc:TypeId × Value→H) :
 ReturnsInHanded {} Tryz.checked os 3 .any (Rows.fnSameOutputsSpec.pre6 enc Tryz.prog Tryz.f3 Rows.fnSameOutputsRow.domain false) (Rows.fnSameOutputsSpec.post enc Tryz.prog Tryz.f3 false true false false):=by
 refine returnsInHanded_of_change (C:=Tryz.checked) own started (by kernel_rfl) Tryz.func3
  (ChangeSpec.witness6 (enc:=enc) (C:=Tryz.checked) false ⟨#[],#[.slice none 0 0,.slice none 0 0],[]⟩ 12 (by kernel_rfl) (by kernel_rfl) (by kernel_rfl) (by kernel_rfl)) ?_
 intro W base args ds gs before hval0 hW hcnd _
 have hval:∀(j:Nat) t v,Tryz.f3.params[j]?=some t→args[j]?=some v→Value.okWide Tryz.prog W .any base t v:=hval0
 have hW':=hW
 obtain⟨p,q,hA0,hV,rfl,hfz,hnd⟩:=hW;have hA:DataW.TrodAll enc Tryz.prog W 0 (fun _=>true) true Tryz.f3.params.toList args.toList ds p:=hA0
 rw[Tryz.params3] at hA hval
 obtain⟨v0,vs0,d0,ds0,p0,q0,hargs,rfl,rfl,h0,r0⟩:=trodAll_cons hA
 obtain⟨v1,vs1,d1,ds1,p1,q1,rfl,rfl,rfl,h1,r1⟩:=trodAll_cons r0
 obtain⟨rfl,rfl,rfl⟩:=trodAll_nil r1
 obtain rfl:args=#[v0,v1]:=by cases args;simp_all
 obtain⟨rfl,rfl⟩:=trodVars_none hV
 have k0:=h0
 have lt0:∀x∈p0,x.block < W.heap.size:=by obtain⟨m,hm⟩:=k0;exact DataW.trod_lt m _ _ _ hm
 have hw0:=hval 0 22 v0 rfl rfl
 obtain⟨a0,len0,cap0,rfl⟩:=okWide_slice Tryz.underlying22 hw0
 obtain⟨x0,s0,g0⟩:=B9L (n:=12) (T:=.row 5 (.int .u8)) (by kernel_rfl) hw0 k0
 have k1:=h1
 have lt1:∀x∈p1,x.block < W.heap.size:=by obtain⟨m,hm⟩:=k1;exact DataW.trod_lt m _ _ _ hm
 have hw1:=hval 1 22 v1 rfl rfl
 obtain⟨a1,len1,cap1,rfl⟩:=okWide_slice Tryz.underlying22 hw1
 obtain⟨x1,s1,g1⟩:=B9L (n:=12) (T:=.row 5 (.int .u8)) (by kernel_rfl) hw1 k1
 clear hA0 hval0;refine(B7j (k:=W8) B0i (x:=(x0,x1,())) (⟨fun b hb=>u8_rng (g0 b hb),fun b hb=>u8_rng (g1 b hb)⟩) (vs:=#[.slice a0 len0 cap0,.slice a1 len1 cap1]) (by exact⟨_,_,rfl,B9O s0 (.inr rfl),⟨_,_,rfl,B9O s1 (.inr rfl),rfl⟩⟩) (fun R' w' v hv=>by simpa [W5,Y2,A2N,VR,VRc,W8] using hv)).mono fun e W' ⟨he,bel⟩=>?_
 subst he;exact⟨_,rfl,_,_,_,[],_,[],hW',trodAll_mk1 (shut_bool Tryz.underlying4 _),(trodAll_cons_mk (Below.trod B77 (by kernel_rfl) (of_decide_eq_true (by kernel_rfl)) k0 bel lt0) (trodAll_cons_mk (Below.trod B77 (by kernel_rfl) (of_decide_eq_true (by kernel_rfl)) k1 bel lt1) trodAll_mk0)),rfl,bel.frame _,fun h=>by cases h⟩
theorem over:Rows.fnSameOutputsRow.holds Tryz.pinned (OpenSpec.ofChange Rows.fnSameOutputsSpec) :=
 OpenClaim.holds_of_wide 3 Tryz.f3 rfl rfl rfl rfl rfl rfl rfl ⟨rfl,rfl,rfl,rfl,rfl⟩ rfl rfl rfl rfl rfl (by kernel_rfl) Tryz.func3 (by kernel_rfl)
  (of_decide_eq_true (by kernel_rfl)) (by unfold Func.isWrapper;first|(rw[if_pos (by decide +kernel)];kernel_rfl)|(rw[if_neg (by decide +kernel)];exact⟨rfl,rfl⟩))
  (fun os started H enc _=>lifted os started H enc)
theorem proved:Rows.FnSameOutputsSaid:=over
#print axioms proved
end fnSameOutputs
end Go.Proofs.YtflobmmbhaofbaaGreat
