/-
 FnExactRunProgram: for any program, signals and number the program's RunProgram returns what the reference's returns, leaves its arguments as they were, and shares nothing. No condition.
-/
import Derived.Test.YtenjbehedcegdaaR04
import Derived.Test.YtenjbehedcegdaaR51
namespace Go.Proofs.Ytenjbehedcegdaa
open Go.ChangeShapes Go.WideShapes Go.ChangeAt Go.RowKit Go.Joins
set_option linter.unusedVariables false
namespace fnExactRunProgram
set_option maxRecDepth 100000 in
theorem lifted (os:Os) (started:os.Started) (H:Type) (enc:TypeId × Value→H) :
 ReturnsInHanded {} Try.checked os 3 .any (Rows.fnExactRunProgramSpec.pre6 enc Try.prog Try.f3 Rows.fnExactRunProgramRow.domain false) (Rows.fnExactRunProgramSpec.post enc Try.prog Try.f3 false true false false):=by
 refine returnsInHanded_of_change (C:=Try.checked) own started (by kernel_rfl) Try.func3
  (ChangeSpec.witness6 (enc:=enc) (C:=Try.checked) false ⟨#[],#[.agg #[.int .i64 0,.int .i64 0,.slice none 0 0,.slice none 0 0,.slice none 0 0],.slice none 0 0,.int .i64 0],[]⟩ 12 (by kernel_rfl) (by kernel_rfl) (by kernel_rfl) (by kernel_rfl)) ?_
 intro W base args ds gs before hval0 hW hcnd _
 have hval:∀(j:Nat) t v,Try.f3.params[j]?=some t→args[j]?=some v→Value.okWide Try.prog W .any base t v:=hval0
 have hW':=hW
 obtain⟨p,q,hA0,hV,rfl,hfz,hnd⟩:=hW
 have hA:DataW.TrodAll enc Try.prog W 0 (fun _=>true) true Try.f3.params.toList args.toList ds p:=hA0
 rw[Try.params3] at hA hval
 obtain⟨v0,vs0,d0,ds0,p0,q0,hargs,rfl,rfl,h0,r0⟩:=trodAll_cons hA
 obtain⟨v1,vs1,d1,ds1,p1,q1,rfl,rfl,rfl,h1,r1⟩:=trodAll_cons r0
 obtain⟨v2,vs2,d2,ds2,p2,q2,rfl,rfl,rfl,h2,r2⟩:=trodAll_cons r1
 obtain⟨rfl,rfl,rfl⟩:=trodAll_nil r2
 obtain rfl:args=#[v0,v1,v2]:=by cases args;simp_all
 obtain⟨rfl,rfl⟩:=trodVars_none hV
 have k0:=h0
 have lt0:∀x∈p0,x.block < W.heap.size:=by obtain⟨m,hm⟩:=k0;exact DataW.trod_lt m _ _ _ hm
 have hw0:=hval 0 26 v0 rfl rfl
 obtain⟨x0,s0,_⟩:=arg_of (n:=12) (T:=.prod (.int .i64) (.prod (.int .i64) (.prod (.row 24 (.row 2 (.int .i64))) (.prod (.row 73 (.prod (.int .i64) (.prod (.int .i64) (.prod (.int .i64) (.prod (.int .i64) (.prod (.row 2 (.int .i64)) (.int .i64))))))) (.row 2 (.int .i64)))))) (by kernel_rfl) hw0 k0
 have k1:=h1
 have lt1:∀x∈p1,x.block < W.heap.size:=by obtain⟨m,hm⟩:=k1;exact DataW.trod_lt m _ _ _ hm
 have hw1:=hval 1 22 v1 rfl rfl
 obtain⟨a1,len1,cap1,rfl⟩:=okWide_slice Try.underlying22 hw1
 obtain⟨x1,s1,_⟩:=arg_of (n:=12) (T:=.row 24 (.row 2 (.int .i64))) (by kernel_rfl) hw1 k1
 have k2:=h2
 have lt2:∀x∈p2,x.block < W.heap.size:=by obtain⟨m,hm⟩:=k2;exact DataW.trod_lt m _ _ _ hm
 have hw2:=hval 2 2 v2 rfl rfl
 obtain⟨a2,rfl,hd2,hp2,w2⟩:=open_int Try.underlying2 hw2 h2
 obtain⟨x2,s2,_⟩:=arg_of (n:=12) (T:=.int .i64) (by kernel_rfl) hw2 k2
 clear hA0 hval0
 refine(law_calls (k:=K_lawRun) lawRun_ok (x:=(x0,x1,x2,())) trivial (vs:=#[v0,.slice a1 len1 cap1,.int .i64 a2]) (by exact⟨_,_,rfl,vr_val s0 (.inl ⟨_,_,rfl⟩),⟨_,_,rfl,vr_val s1 (.inr rfl),⟨_,_,rfl,vr_val s2 (.inr rfl),rfl⟩⟩⟩) (fun R' w' v hv=>by simpa [outAll,outL,outA,VR,VRc,K_lawRun] using hv)).mono fun e W' ⟨he,bel⟩=>?_
 subst he
 exact⟨_,rfl,_,_,_,[],_,[],hW',trodAll_mk1 (shut_bool Try.underlying4 _),(trodAll_cons_mk (Below.trod laidOut (by kernel_rfl) (of_decide_eq_true (by kernel_rfl)) k0 bel lt0) (trodAll_cons_mk (Below.trod laidOut (by kernel_rfl) (of_decide_eq_true (by kernel_rfl)) k1 bel lt1) (trodAll_cons_mk (Below.trod laidOut (by kernel_rfl) (of_decide_eq_true (by kernel_rfl)) k2 bel lt2) trodAll_mk0))),rfl,bel.frame _,fun h=>by cases h⟩
theorem over:Rows.fnExactRunProgramRow.holds Try.pinned (OpenSpec.ofChange Rows.fnExactRunProgramSpec) :=
 OpenClaim.holds_of_wide 3 Try.f3 rfl rfl rfl rfl rfl rfl rfl ⟨rfl,rfl,rfl,rfl,rfl⟩ rfl rfl rfl rfl rfl (by kernel_rfl) Try.func3 (by kernel_rfl)
  (of_decide_eq_true (by kernel_rfl)) (by unfold Func.isWrapper;first|(rw[if_pos (by decide +kernel)];kernel_rfl)|(rw[if_neg (by decide +kernel)];exact⟨rfl,rfl⟩))
  (fun os started H enc _=>lifted os started H enc)
theorem proved:Rows.FnExactRunProgramSaid:=over
#print axioms proved
end fnExactRunProgram
end Go.Proofs.Ytenjbehedcegdaa
