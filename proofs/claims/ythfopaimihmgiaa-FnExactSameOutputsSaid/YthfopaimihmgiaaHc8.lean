/-
  Contracts of functions: SameOutputs.
-/
import Derived.Test.YthfopaimihmgiaaHc6
import Derived.Test.YthfopaimihmgiaaPr
namespace Go.Proofs.Ythfopaimihmgiaa
open Go.RowKit
set_option linter.unusedSimpArgs false
set_option linter.unusedVariables false

def K_implSameO : Con := ⟨[.val ((.prod (.int .i64) (.prod (.row 24 (.row 2 (.int .i64))) (.prod (.row 56 (.prod (.int .i64) (.prod (.int .i64) (.prod (.int .i64) (.row 2 (.int .i64)))))) (.row 2 (.int .i64)))))), .val ((.prod (.int .i64) (.prod (.row 24 (.row 2 (.int .i64))) (.prod (.row 56 (.prod (.int .i64) (.prod (.int .i64) (.prod (.int .i64) (.row 2 (.int .i64)))))) (.row 2 (.int .i64))))))], [⟨.bool, true⟩, ⟨.int .i64, true⟩], fun _ => True, fun x => sameR x.1 x.2.1⟩
set_option maxRecDepth 100000 in
set_option maxHeartbeats 4000000 in
theorem implSameO_ok : PureT Try.prog 25 K_implSameO := by
  refine pure_of_body Try.func25 rfl ?_
  have hres : Try.f25.results.toList = [.tmp 4, .tmp 5] := rfl
  rintro ⟨⟨(pi : Int), (ts : List (List Int)), (ns : List NodeD), (os : List Int)⟩, ⟨(pi2 : Int), (ts2 : List (List Int)), (ns2 : List NodeD), (os2 : List Int)⟩, _⟩ hc hL
  simp only [K_implSameO, lensOk, PK.lenOk, glensOk, GP.lenOk, flensOk, GO.lenOk, olensOk, Ty.lenOk, Ty.flat, Bool.and_true, Bool.true_and, Bool.and_false, Bool.false_and, true_and, and_true, implies_true, forall_const] at hL
  simp only [K_implSameO, St.init, St.initG, Try.ntmps25, go_sem] 
  refine AWP_seq_k fun K1 hK1 => ?_
  refine AWP_region (G := G) (T := T_implChk) T_implChk_ok ?_
  simp only [go_sem]
  refine hK1 _ ?_
  refine AWP_seq_k fun K2 hK2 => ?_
  refine AWP_seq_k fun K3 hK3 => ?_
  refine AWP_region (G := G) (T := T_implChk) T_implChk_ok ?_
  simp only [go_sem]
  repeat (with_reducible refine And.intro (by first | omega | exact ⟨rfl, by omega, by omega, by omega⟩) ?_)
  refine hK3 _ ?_
  refine AWP_seq_k fun K4 hK4 => ?_
  refine AWP_region (G := G) (T := T_implChk) T_implChk_ok ?_
  simp only [go_sem]
  refine hK4 _ ?_
  refine AWP_cond rfl ?_ ?_
  ·
   intro c0
   try simp only [decide_eq_true_eq, decide_eq_false_iff_not, Bool.not_eq_true', Bool.not_eq_false', ne_eq, Int.not_lt, Int.not_le] at c0
   refine AWP_seq_k fun K5 hK5 => ?_
   refine AWP_region (G := G) (T := T_implChk) T_implChk_ok ?_
   simp only [go_sem]
   refine hK5 _ ?_
   refine AWP_ret ?_
   simp only [hres, go_sem]
   first
     | exact finOk_mk (by rfl) (by decide)
     | refine ⟨?_, finOk_mk (by rfl) (by decide)⟩
       first | (rw [sameR_f c0]; exact ⟨rfl, rfl⟩) | (rw [sameR_f c0])
  ·
   intro c0
   try simp only [decide_eq_true_eq, decide_eq_false_iff_not, Bool.not_eq_true', Bool.not_eq_false', ne_eq, Int.not_lt, Int.not_le] at c0
   obtain ⟨a1, a2, a3⟩ := ask2_ok c0
   have hsm : smallPs [(pi, ts, ns, os), (pi2, ts2, ns2, os2)] := ⟨by simp, fun p hp => by simp only [List.mem_cons, List.not_mem_nil, or_false] at hp; rcases hp with rfl | rfl; exact smallP_of a1; exact smallP_of a2⟩
   have hun : uniteL [(pi, ts, ns, os), (pi2, ts2, ns2, os2)] = (l12U (pi, ts, ns, os) (pi2, ts2, ns2, os2)).2 := congrArg Prod.snd (unite_two (p := (pi, ts, ns, os)) (q := (pi2, ts2, ns2, os2)) a1)
   have hU : uOk (l12U (pi, ts, ns, os) (pi2, ts2, ns2, os2)).2.1 (l12U (pi, ts, ns, os) (pi2, ts2, ns2, os2)).2.2.1 := uOk_two a1 a2
   have hio := outs_two a1 a2
   have hou : (l12U (pi, ts, ns, os) (pi2, ts2, ns2, os2)).2.2.2.length = os.length + os2.length := by simp [l12U]
   have hcl : (clsF (l12U (pi, ts, ns, os) (pi2, ts2, ns2, os2)).2.1 (l12U (pi, ts, ns, os) (pi2, ts2, ns2, os2)).2.2.1).length = (l12U (pi, ts, ns, os) (pi2, ts2, ns2, os2)).2.2.1.length := clsF_len
   have ho4 : os.length ≤ 4 := (formedB_parts (patchB_parts a1).1).2.1
   have ho5 : os2.length ≤ 4 := (formedB_parts (patchB_parts a2).1).2.1
   have hmc : (l12U (pi, ts, ns, os) (pi2, ts2, ns2, os2)).2.2.2.length ≤ 1000 ∧ idxs (clsF (l12U (pi, ts, ns, os) (pi2, ts2, ns2, os2)).2.1 (l12U (pi, ts, ns, os) (pi2, ts2, ns2, os2)).2.2.1).length (l12U (pi, ts, ns, os) (pi2, ts2, ns2, os2)).2.2.2 = true := ⟨by omega, by rw [hcl]; exact hio⟩
   have hOC : List.map (fun q => (clsF (l12U (pi, ts, ns, os) (pi2, ts2, ns2, os2)).2.1 (l12U (pi, ts, ns, os) (pi2, ts2, ns2, os2)).2.2.1).getD (Int.toNat q) 0) (l12U (pi, ts, ns, os) (pi2, ts2, ns2, os2)).2.2.2 = outCl (pi, ts, ns, os) (pi2, ts2, ns2, os2) := rfl
   have hOL := outCl_len (pi, ts, ns, os) (pi2, ts2, ns2, os2)
   have hOL : (outCl (pi, ts, ns, os) (pi2, ts2, ns2, os2)).length = os.length + os2.length := hOL
   refine AWP_skip ?_
   simp only [go_sem]
   refine hK2 _ ?_
   refine AWP_seq_k fun K6 hK6 => ?_
   refine AWP_region (G := G) (T := T_implChk) T_implChk_ok ?_
   simp (maxSteps := 2000000) only [List.nodup_cons, List.nodup_nil, List.not_mem_nil, not_false_eq_true, hun, go_sem]
   repeat (with_reducible refine And.intro (by first | omega | exact ⟨rfl, by omega, by omega, by omega⟩ | exact hsm) ?_)
   refine hK6 _ ?_
   refine AWP_seq_k fun K7 hK7 => ?_
   refine AWP_draw (G := G) (T := T_implChk) T_implChk_ok mixed
     [[], [0], [], [2], [0, 1, 2, 3], [], [5], [5, 6], [0, 1, 2, 3, 4], [0, 1, 2, 3, 4, 5, 6, 7, 8]]
     [[468, 469, 470, 471, 472, 473, 474, 475, 476, 477, 478, 479, 480, 481, 482, 483], [468, 469, 470, 471, 472, 473, 474, 475, 476, 477, 478, 479, 480, 481, 482, 483], [], [], [], [468, 469, 470, 471, 472, 473, 474, 475, 476, 477, 478, 479, 480, 481, 482, 483, 484, 485, 486, 487, 488, 489, 490, 491, 492, 493, 494, 495, 496, 497, 498, 499], [468, 469, 470, 471, 472, 473, 474, 475, 476, 477, 478, 479, 480, 481, 482, 483, 484, 485, 486, 487, 488, 489, 490, 491, 492, 493, 494, 495, 496, 497, 498, 499], [468, 469, 470, 471, 472, 473, 474, 475, 476, 477, 478, 479, 480, 481, 482, 483, 484, 485, 486, 487, 488, 489, 490, 491, 492, 493, 494, 495, 496, 497, 498, 499], [], []]
     [[], [], [], [468, 469, 470, 471, 472, 473, 474, 475, 476, 477, 478, 479, 480, 481, 482, 483], [484, 485, 486, 487, 488, 489, 490, 491, 492, 493, 494, 495, 496, 497, 498, 499], [], [], [], [], []] (by kernel_rfl) (by kernel_rfl) (adrawR_ok (acc := []) ?_)
   simp (maxSteps := 2000000) only [hOC, go_sem]
   repeat (with_reducible refine And.intro (by first | exact chk_leaf (by kernel_rfl) | omega | exact ⟨rfl, by omega, by omega, by omega⟩ | exact hU | exact hmc) ?_)
   refine hK7 _ ?_
   refine AWP_seq_k fun K8 hK8 => ?_
   refine AWP_draw (G := G) (T := T_implChk) T_implChk_ok mixed
     [[], [], [0, 1], [], [], [3, 4], [0, 1, 2, 3, 4, 5], [0, 1, 2, 3, 4, 5, 6], [0, 1, 2, 3, 4, 5, 6, 7]]
     [[], [], [], [], [], [], [], [], []]
     [[], [], [], [], [], [], [], [], []] (by kernel_rfl) (by kernel_rfl) (adrawR_ok (acc := []) ?_)
   simp (maxSteps := 2000000) only [go_sem]
   repeat (with_reducible refine And.intro (by first | exact chk_leaf (by kernel_rfl) | omega | exact ⟨rfl, by omega, by omega, by omega⟩ | exact ⟨by omega, by omega⟩ | omega) ?_)
   refine hK8 _ ?_
   refine AWP_ret ?_
   simp only [hres, go_sem]
   first
     | exact finOk_mk (by rfl) (by decide)
     | refine ⟨?_, finOk_mk (by rfl) (by decide)⟩
       have hTk : List.take (outCl (pi, ts, ns, os) (pi2, ts2, ns2, os2)).length (outCl (pi, ts, ns, os) (pi2, ts2, ns2, os2)) = outCl (pi, ts, ns, os) (pi2, ts2, ns2, os2) := List.take_length
       first | (rw [sameR_t c0, hTk]; done) | (rw [sameR_t c0, hTk]; rfl) | (rw [sameR_t c0, hTk]; exact ⟨rfl, rfl⟩)

theorem implSameO_fn : FnOk Try.prog 25 := fnOk_of Try.func25 rfl (by decide)

def T_implSameO : Tab := fun f => if f = 25 then some (.p K_implSameO) else T_implChk f
theorem T_implSameO_ok : TabOk Try.prog T_implSameO := fun f k h => by
  unfold T_implSameO at h
  split at h
  · rename_i e; cases h; subst e; exact ⟨implSameO_ok, implSameO_fn⟩
  · exact T_implChk_ok f k h
attribute [go_sem] T_implSameO K_implSameO

end Go.Proofs.Ythfopaimihmgiaa
