/-
  Contracts of functions: l08Values.
-/
import Derived.Test.YtiafipboklboeaaHr7
import Derived.Test.YtiafipboklboeaaHr9
namespace Go.Proofs.Ytiafipboklboeaa
open Go.RowKit
set_option linter.unusedSimpArgs false
set_option linter.unusedVariables false

set_option maxRecDepth 100000
set_option maxHeartbeats 4000000
def T_mHt40 : Tab := fun f => match T_l06Out f with
 | some k => some k
 | none => T_outputs f
theorem T_mHt40_ok : TabOk Try.prog T_mHt40 := tabM T_l06Out_ok T_outputs_ok
attribute [go_sem] T_mHt40 T0

def K_l08Values : Con := ⟨[.ptr (.prod (.int .i64) (.prod (.row 26 (.row 2 (.int .i64))) (.prod (.row 83 (.prod (.int .i64) (.prod (.int .i64) (.prod (.int .i64) (.row 2 (.int .i64)))))) (.row 2 (.int .i64))))), .val ((.row 2 (.int .i64))), .ptr (.row 26 (.row 2 (.int .i64))), .val ((.row 2 (.int .i64)))], [⟨(.row 2 (.int .i64)), true⟩], fun x => patchB x.1 = true ∧ x.2.1 = ordL x.1.2.2.1 ∧ StOk x.1 x.2.2.1 ∧ (x.2.2.2.1.length : Int) = x.1.1 ∧ smps x.2.2.2.1 = true, fun x => valsL x.1 x.2.2.1 x.2.2.2.1⟩
theorem l08Values_ok : PureT Try.prog 99 K_l08Values := by
  refine pure_of_body Try.func99 rfl ?_
  have hres : Try.f99.results.toList = [.tmp 8] := rfl
  rintro ⟨⟨(pi : Int), (ts : List (List Int)), (ns : List NodeD), (os : List Int)⟩, (oo : List Int), (cc : List (List Int)), (ff : List Int), _⟩ hc hL
  simp only [K_l08Values, go_sem] at hL
  simp only [K_l08Values, St.init, St.initG, Try.ntmps99, go_sem] 
  obtain ⟨hP, hoo, hcc, hfl, hff⟩ := (show patchB (pi, ts, ns, os) = true ∧ oo = ordL (pi, ts, ns, os).2.2.1 ∧ StOk (pi, ts, ns, os) cc ∧ (ff.length : Int) = (pi, ts, ns, os).1 ∧ smps ff = true from hc)
  have hoo : oo = ordL ns := hoo
  subst hoo
  obtain ⟨hF, hol⟩ := patchB_parts hP
  have hol : (ordL ns).length = ns.length := hol
  have hn24 : ns.length ≤ 24 := (formedB_parts hF).1
  refine oS fun K1 hK1 => ?_
  refine oW T_mHt40_ok ?_
  simp only [go_sem]
  refine hK1 _ ?_
  refine oS fun K2 hK2 => ?_
  refine oW T_mHt40_ok ?_
  simp (maxSteps := 2000000) only [List.nodup_nil, go_sem]
  repeat (with_reducible refine oA ?_)
  refine hK2 _ ?_
  refine oS fun K3 hK3 => ?_
  refine oS fun K4 hK4 => ?_
  refine oW T_mHt40_ok ?_
  simp only [go_sem]
  refine hK4 _ ?_
  refine AWP_block ?_
  refine AWP_loop_k (ι := { k : Nat // k ≤ (ordL ns).length }) (fun k => ⟨[.c (.pt [] ((.prod (.int .i64) (.prod (.row 26 (.row 2 (.int .i64))) (.prod (.row 83 (.prod (.int .i64) (.prod (.int .i64) (.prod (.int .i64) (.row 2 (.int .i64)))))) (.row 2 (.int .i64)))))) (pi, ts, ns, os) 0), .c (.rd [] 2 (.int .i64) (ordL ns)), .c (.pt [] ((.row 26 (.row 2 (.int .i64)))) cc 0), .c (.rd [] 2 (.int .i64) (ff)), zz, zz, zz, zz, zz, .c (.ow 9001), .c (.sc (.int .i64 (k.1))), zz, zz, zz, zz, zz, zz, zz, zz, zz, zz, zz, zz, zz, zz, zz, zz, zz, zz, zz, zz, zz, zz, zz, zz, zz, zz, zz, zz, zz, zz, zz, zz, zz, zz, zz, zz, zz, zz, zz, zz, zz, zz, zz, zz, zz], [(9001, .row 2 (.int .i64) ((valsG (pi, ts, ns, os) cc ff (List.replicate ns.length 0) ((ordL ns).take k.1))) [])]⟩) (fun k => (ordL ns).length - k.1) ⟨0, by simp⟩ ?_ ?_
  ·
   refine oK ?_
   simp (maxSteps := 2000000) only [go_sem]
   all_goals (first | rfl | ((repeat' refine And.intro ?_ ?_) <;> first | rfl | simp))
  rintro ⟨k, hk⟩ K5 hL5
  have hkv := valsL_ok (p := (pi, ts, ns, os)) (s := cc) (fr := ff) hF hcc hff (vals0_ok (pi, ts, ns, os)) k hk
  have hvl : (valsG (pi, ts, ns, os) cc ff (List.replicate ns.length 0) ((ordL ns).take k)).length = ns.length := hkv.1
  have hsl : cc.length = ns.length := hcc.1
  have hgd : k < (ordL ns).length → ∃ i0 : Nat, (ordL ns).getD k 0 = (i0 : Int) ∧ i0 < ns.length := fun h => by obtain ⟨q, h1, h2, _⟩ := ordL_good ns k h; exact ⟨q, h1, h2⟩
  have hnx : k < (ordL ns).length → valsG (pi, ts, ns, os) cc ff (List.replicate ns.length 0) ((ordL ns).take (k + 1)) = valStep (pi, ts, ns, os) cc ff (valsG (pi, ts, ns, os) cc ff (List.replicate ns.length 0) ((ordL ns).take k)) ((ordL ns).getD k 0) := fun h => valsG_next h
  refine oS fun K6 hK6 => ?_
  refine oS fun K7 hK7 => ?_
  refine oW T_mHt40_ok ?_
  simp only [go_sem]
  refine hK7 _ ?_
  refine oC rfl ?_ ?_
  ·
   intro c0
   obtain ⟨i0, hi, hlt⟩ := hgd (by omega)
   have hst : stepC (ns.getD i0 (0, 0, 0, [])) ts (insV (ns.getD i0 (0, 0, 0, [])) ff (valsG (pi, ts, ns, os) cc ff (List.replicate ns.length 0) ((ordL ns).take k))) (cc.getD i0 []) := (step_at (p := (pi, ts, ns, os)) hF hcc hff hkv.2 (i := i0) hlt).c
   have hic : insC (ns.getD i0 (0, 0, 0, [])) ff (valsG (pi, ts, ns, os) cc ff (List.replicate ns.length 0) ((ordL ns).take k)) := insC_of (p := (pi, ts, ns, os)) hF hfl hkv.1 (i := i0) hlt
   have e1 : valsG (pi, ts, ns, os) cc ff (List.replicate ns.length 0) ((ordL ns).take (k + 1)) = (valsG (pi, ts, ns, os) cc ff (List.replicate ns.length 0) ((ordL ns).take k)).set i0 (outV (ns.getD i0 (0, 0, 0, [])).1 (ns.getD i0 (0, 0, 0, [])).2.1 ts (insV (ns.getD i0 (0, 0, 0, [])) ff (valsG (pi, ts, ns, os) cc ff (List.replicate ns.length 0) ((ordL ns).take k))) (cc.getD i0 [])) := by
     rw [hnx (by omega), hi]
     rfl
   refine AWP_skip ?_
   simp only [go_sem]
   refine hK6 _ ?_
   refine oS fun K8 hK8 => ?_
   refine AWP_block ?_
   refine oS fun K9 hK9 => ?_
   refine oW T_mHt40_ok ?_
   simp (maxSteps := 2000000) only [hi, go_sem]
   repeat (with_reducible refine oA ?_)
   refine hK9 _ ?_
   refine oS fun K10 hK10 => ?_
   refine oW T_mHt40_ok ?_
   simp (maxSteps := 2000000) only [go_sem]
   repeat (with_reducible refine oA ?_)
   refine hK10 _ ?_
   refine oR T_mHt40_ok
     [[], [], [], [], [3], [3, 4], [3, 4, 5], [], [], [], [7, 8, 9], [], [11], [11, 12], [11, 12, 13], [], [11, 12, 13, 14, 15], [11, 12, 13, 14, 15, 16], [2, 3, 4, 5, 6, 7, 8, 9, 10, 11, 12, 13, 14, 15, 16, 17], [0, 1, 2, 3, 4, 5, 6, 7, 8, 9, 10, 11, 12, 13, 14, 15, 16, 17, 18], [0, 1, 2, 3, 4, 5, 6, 7, 8, 9, 10, 11, 12, 13, 14, 15, 16, 17, 18, 19]]
     [[820, 821, 822, 823, 824, 825, 826, 827, 828, 829, 830, 831, 832, 833, 834, 835], [820, 821, 822, 823, 824, 825, 826, 827, 828, 829, 830, 831, 832, 833, 834, 835], [820, 821, 822, 823, 824, 825, 826, 827, 828, 829, 830, 831, 832, 833, 834, 835], [820, 821, 822, 823, 824, 825, 826, 827, 828, 829, 830, 831, 832, 833, 834, 835], [820, 821, 822, 823, 824, 825, 826, 827, 828, 829, 830, 831, 832, 833, 834, 835], [820, 821, 822, 823, 824, 825, 826, 827, 828, 829, 830, 831, 832, 833, 834, 835], [820, 821, 822, 823, 824, 825, 826, 827, 828, 829, 830, 831, 832, 833, 834, 835], [], [], [], [], [820, 821, 822, 823, 824, 825, 826, 827, 828, 829, 830, 831, 832, 833, 834, 835], [820, 821, 822, 823, 824, 825, 826, 827, 828, 829, 830, 831, 832, 833, 834, 835], [820, 821, 822, 823, 824, 825, 826, 827, 828, 829, 830, 831, 832, 833, 834, 835], [820, 821, 822, 823, 824, 825, 826, 827, 828, 829, 830, 831, 832, 833, 834, 835], [820, 821, 822, 823, 824, 825, 826, 827, 828, 829, 830, 831, 832, 833, 834, 835], [820, 821, 822, 823, 824, 825, 826, 827, 828, 829, 830, 831, 832, 833, 834, 835], [820, 821, 822, 823, 824, 825, 826, 827, 828, 829, 830, 831, 832, 833, 834, 835], [], [], []]
     [[], [], [], [], [], [], [], [], [], [], [820, 821, 822, 823, 824, 825, 826, 827, 828, 829, 830, 831, 832, 833, 834, 835], [], [], [], [], [], [], [], [], [], []] (by kernel_rfl) (by kernel_rfl) (adrawR_ok (acc := []) ?_)
   simp (maxSteps := 2000000) only [List.nodup_nil, go_sem]
   repeat (with_reducible first | refine oD ?_ | refine And.intro (by first | exact hic | exact hst) ?_)
   refine hK8 _ ?_
   refine oW T_mHt40_ok ?_
   simp only [go_sem]
   refine hL5 ⟨k + 1, by omega⟩ _ (oK ?_) ?_
   ·
    simp (maxSteps := 2000000) only [go_sem]
    all_goals ((repeat' refine And.intro ?_ ?_) <;> first | rfl | exact wk (by omega) | exact e1.symm)
   ·
    first | (simp only []; omega) | omega | (simp; omega)
  intro c0
  refine AWP_exit ?_
  simp only [go_sem]
  refine hK3 _ ?_
  refine oS fun K11 hK11 => ?_
  refine oW T_mHt40_ok ?_
  simp only [go_sem]
  refine hK11 _ ?_
  refine AWP_ret ?_
  simp only [hres, go_sem]
  first | exact oF | (refine ⟨?_, oF⟩; exact congrArg (valsG (pi, ts, ns, os) cc ff (List.replicate ns.length 0)) (List.take_of_length_le (by omega)))
def T_l08Values : Tab := fun f => if f = 99 then some (.p K_l08Values) else T_mHt40 f
theorem T_l08Values_ok : TabOk Try.prog T_l08Values := tabP l08Values_ok (fnOk_of Try.func99 rfl (by decide)) T_mHt40_ok
attribute [go_sem] T_l08Values K_l08Values

end Go.Proofs.Ytiafipboklboeaa
