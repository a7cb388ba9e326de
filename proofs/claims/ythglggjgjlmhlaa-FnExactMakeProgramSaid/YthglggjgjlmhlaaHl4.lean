/-
  Contracts of functions: markNodeS, heldNodeS, heldPatch, markPatch.
-/
import Derived.Test.YthglggjgjlmhlaaHl3
namespace Go.Proofs.Ythglggjgjlmhlaa
open Go.RowKit
set_option linter.unusedSimpArgs false
set_option linter.unusedVariables false

def K_markNs : GCon where
  ps := [.ow 0, .val (.int .i64)]
  os := [.tree 140 (.prod (.int .i64) (.prod (.int .i64) (.prod (.int .i64) (.row 2 (.int .i64)))))]
  c := fun x => mkOk x.1.2.1 (cntA ctN x.2.1)
  r := fun x => .c (.sc (.int .i64 (x.1.2.1 + ((cntA ctN x.2.1 : Nat) : Int))))
  o := fun x => [(30, .tree 140 (.prod (.int .i64) (.prod (.int .i64) (.prod (.int .i64) (.row 2 (.int .i64))))) (markA mkN ctN x.1.2.1 x.2.1) none)]
  ok := by
    rintro ⟨⟨_, (kk : Int), _⟩, ⟨(xs : List NodeD), _⟩⟩
    exact ⟨rfl, rfl, by decide⟩
set_option maxRecDepth 100000 in
set_option maxHeartbeats 4000000 in
theorem markNs_ok : GenT Try.prog 69 K_markNs := by
  refine gen_of_body Try.func69 rfl ?_
  have hres : Try.f69.results.toList = [.tmp 4] := rfl
  rintro ⟨⟨_, (kk : Int), _⟩, ⟨(xs : List NodeD), _⟩⟩ hc hL hO
  simp only [K_markNs, lensOk, PK.lenOk, glensOk, GP.lenOk, flensOk, GO.lenOk, olensOk, Ty.lenOk, Ty.flat, Bool.and_true, Bool.true_and, Bool.and_false, Bool.false_and, true_and, and_true, implies_true, forall_const] at hL
  simp only [K_markNs, lensOk, PK.lenOk, glensOk, GP.lenOk, flensOk, GO.lenOk, olensOk, Ty.lenOk, Ty.flat, Bool.and_true, Bool.true_and, Bool.and_false, Bool.false_and, true_and, and_true, implies_true, forall_const] at hO
  simp only [K_markNs, St.init, St.initG, Try.ntmps69, go_sem] 
  obtain ⟨h1, h2⟩ := (show mkOk kk (cntA ctN xs) from hc)
  refine AWP_seq_k fun K1 hK1 => ?_
  refine AWP_region (G := G) (T := T_heldL) T_heldL_ok ?_
  simp only [go_sem]
  refine hK1 _ ?_
  refine AWP_seq_k fun K2 hK2 => ?_
  refine AWP_seq_k fun K3 hK3 => ?_
  refine AWP_region (G := G) (T := T_heldL) T_heldL_ok ?_
  simp only [go_sem]
  refine hK3 _ ?_
  refine AWP_block ?_
  refine AWP_loop_k (ι := { k : Nat // k ≤ xs.length }) (fun k => ⟨[.c (.ow 30), .c (.sc (.int .i64 (kk + (cntA ctN (xs.take k.1) : Nat)))), zz, zz, zz, .c (.sc (.int .i64 (k.1))), zz, zz, zz, zz, zz, zz, zz, zz, zz, zz, zz, zz, zz, zz, zz, zz, zz, zz, zz, zz, zz, zz, zz, zz, zz, zz, zz, zz, zz, zz, zz, zz, zz, zz, zz], [(30, .tree 140 (.prod (.int .i64) (.prod (.int .i64) (.prod (.int .i64) (.row 2 (.int .i64))))) (markT mkN ctN kk xs k.1) none)]⟩) (fun k => xs.length - k.1) ⟨0, by simp⟩ ?_ ?_
  ·
   refine Wk_to (by rfl) ?_
   simp (maxSteps := 2000000) only [go_sem]
   all_goals (first | rfl | ((repeat' refine And.intro ?_ ?_) <;> first | rfl | exact markT_zero.symm | (simp [cntA]; done) | (rw [markT_zero])))
  rintro ⟨k, hk⟩ K4 hL4
  have hml : (markT mkN ctN kk xs k).length = xs.length := markT_len hk
  have hma : k < xs.length → (markT mkN ctN kk xs k).getD k ((0, 0, 0, []) : NodeD) = xs.getD k ((0, 0, 0, []) : NodeD) := fun h => markT_at _ h
  have hms : k < xs.length → (markT mkN ctN kk xs k).set k (mkN (kk + (cntA ctN (xs.take k) : Nat)) (xs.getD k ((0, 0, 0, []) : NodeD))) = markT mkN ctN kk xs (k + 1) := fun h => markT_set _ h
  have hnx : k < xs.length → cntA ctN (xs.take (k + 1)) = cntA ctN (xs.take k) + ctN (xs.getD k ((0, 0, 0, []) : NodeD)) := fun h => cntA_next _ h
  have hle : cntA ctN (xs.take (k + 1)) ≤ cntA ctN xs := cntA_take _
  have hcn : ctN (xs.getD k ((0, 0, 0, []) : NodeD)) = 3 + (xs.getD k ((0, 0, 0, []) : NodeD)).2.2.2.length := rfl
  obtain ⟨C, hC⟩ : ∃ C : Nat, C = cntA ctN (xs.take k) := ⟨_, rfl⟩
  have hw1 : k < xs.length → IntKind.i64.wrap (kk + (cntA ctN (xs.take k) : Nat) + 1) = kk + (cntA ctN (xs.take k) : Nat) + 1 := fun h => wrapI (by have := hnx h; omega)
  have hw2 : k < xs.length → IntKind.i64.wrap (kk + (cntA ctN (xs.take k) : Nat) + 1 + 1) = kk + (cntA ctN (xs.take k) : Nat) + 2 := fun h => by rw [wrapI (by have := hnx h; omega)]; omega
  have hw3 : k < xs.length → IntKind.i64.wrap (kk + (cntA ctN (xs.take k) : Nat) + 2 + 1) = kk + (cntA ctN (xs.take k) : Nat) + 3 := fun h => by rw [wrapI (by have := hnx h; omega)]; omega
  refine AWP_seq_k fun K5 hK5 => ?_
  refine AWP_seq_k fun K6 hK6 => ?_
  refine AWP_region (G := G) (T := T_heldL) T_heldL_ok ?_
  simp only [go_sem]
  refine hK6 _ ?_
  refine AWP_cond rfl ?_ ?_
  ·
   intro c0
   try simp only [decide_eq_true_eq, decide_eq_false_iff_not, Bool.not_eq_true', Bool.not_eq_false', ne_eq, Int.not_lt, Int.not_le] at c0
   refine AWP_skip ?_
   simp only [go_sem]
   refine hK5 _ ?_
   refine AWP_seq_k fun K7 hK7 => ?_
   refine AWP_block ?_
   refine AWP_seq_k fun K8 hK8 => ?_
   have hma' := hma (by omega)
   have hms' := hms (by omega)
   have hw1 := hw1 (by omega)
   have hw2 := hw2 (by omega)
   have hw3 := hw3 (by omega)
   have hq := hnx (by omega)
   have gs : ∀ x, ((markT mkN ctN kk xs k).set k x).getD k ((0, 0, 0, []) : NodeD) = x := fun x => getD_setk (by omega)
   refine AWP_region (G := G) (T := T_heldL) T_heldL_ok ?_
   simp (maxSteps := 2000000) only [List.nodup_nil, gs, List.set_set, hma', hml, List.length_set, hw1, hw2, hw3, go_sem]
   repeat (with_reducible refine And.intro (by first | omega | exact ⟨rfl, by omega, by omega, by omega⟩ | first | exact ⟨by omega, by omega⟩ | (refine ⟨?_, ?_⟩ <;> omega)) ?_)
   refine hK8 _ ?_
   refine AWP_seq_k fun K9 hK9 => ?_
   refine AWP_region (G := G) (T := T_heldL) T_heldL_ok ?_
   simp only [List.nodup_nil, gs, List.set_set, hma', hml, List.length_set, hw1, hw2, hw3, go_sem]
   repeat (with_reducible refine And.intro (by first | omega | exact ⟨rfl, by omega, by omega, by omega⟩ | first | exact ⟨by omega, by omega⟩ | (refine ⟨?_, ?_⟩ <;> omega)) ?_)
   refine hK9 _ ?_
   refine AWP_seq_k fun K10 hK10 => ?_
   refine AWP_region (G := G) (T := T_heldL) T_heldL_ok ?_
   simp (maxSteps := 2000000) only [List.nodup_nil, gs, List.set_set, hma', hml, List.length_set, hw1, hw2, hw3, go_sem]
   repeat (with_reducible refine And.intro (by first | omega | exact ⟨rfl, by omega, by omega, by omega⟩ | first | exact ⟨by omega, by omega⟩ | (refine ⟨?_, ?_⟩ <;> omega)) ?_)
   refine hK10 _ ?_
   refine AWP_seq_k fun K11 hK11 => ?_
   refine AWP_region (G := G) (T := T_heldL) T_heldL_ok ?_
   simp only [List.nodup_nil, gs, List.set_set, hma', hml, List.length_set, hw1, hw2, hw3, go_sem]
   repeat (with_reducible refine And.intro (by first | omega | exact ⟨rfl, by omega, by omega, by omega⟩ | first | exact ⟨by omega, by omega⟩ | (refine ⟨?_, ?_⟩ <;> omega)) ?_)
   refine hK11 _ ?_
   refine AWP_seq_k fun K12 hK12 => ?_
   refine AWP_region (G := G) (T := T_heldL) T_heldL_ok ?_
   simp (maxSteps := 2000000) only [List.nodup_nil, gs, List.set_set, hma', hml, List.length_set, hw1, hw2, hw3, go_sem]
   repeat (with_reducible refine And.intro (by first | omega | exact ⟨rfl, by omega, by omega, by omega⟩ | first | exact ⟨by omega, by omega⟩ | (refine ⟨?_, ?_⟩ <;> omega)) ?_)
   refine hK12 _ ?_
   refine AWP_seq_k fun K13 hK13 => ?_
   refine AWP_region (G := G) (T := T_heldL) T_heldL_ok ?_
   simp only [List.nodup_nil, gs, List.set_set, hma', hml, List.length_set, hw1, hw2, hw3, go_sem]
   repeat (with_reducible refine And.intro (by first | omega | exact ⟨rfl, by omega, by omega, by omega⟩ | first | exact ⟨by omega, by omega⟩ | (refine ⟨?_, ?_⟩ <;> omega)) ?_)
   refine hK13 _ ?_
   refine AWP_region (G := G) (T := T_heldL) T_heldL_ok ?_
   simp (maxSteps := 2000000) only [List.nodup_nil, gs, List.set_set, hma', hml, List.length_set, hw1, hw2, hw3, go_sem]
   repeat (with_reducible refine And.intro (by first | omega | exact ⟨rfl, by omega, by omega, by omega⟩ | first | exact ⟨by omega, by omega⟩ | (refine ⟨?_, ?_⟩ <;> omega)) ?_)
   refine hK7 _ ?_
   refine AWP_region (G := G) (T := T_heldL) T_heldL_ok ?_
   simp only [go_sem]
   refine hL4 ⟨k + 1, by omega⟩ _ (Wk_to (by rfl) ?_) ?_
   ·
    simp (maxSteps := 2000000) only [go_sem]
    all_goals (first | rfl | ((repeat' refine And.intro ?_ ?_) <;> first | rfl | exact wk (by omega) | (congr 1; done) | omega))
   ·
    first | (simp only []; omega) | omega | (simp; omega)
  ·
   intro c0
   try simp only [decide_eq_true_eq, decide_eq_false_iff_not, Bool.not_eq_true', Bool.not_eq_false', ne_eq, Int.not_lt, Int.not_le] at c0
   refine AWP_exit ?_
   simp only [go_sem]
   refine hK2 _ ?_
   refine AWP_seq_k fun K14 hK14 => ?_
   refine AWP_region (G := G) (T := T_heldL) T_heldL_ok ?_
   simp only [go_sem]
   refine hK14 _ ?_
   refine AWP_ret ?_
   simp only [hres, go_sem]
   first
     | exact finOkG_mk (by rfl)
     | refine ⟨finOkG_mk (by rfl), ?_⟩
       have hk3 : cntA ctN (xs.take k) = cntA ctN xs := by rw [List.take_of_length_le (l := xs) (i := k) (by omega)]
       (repeat' refine And.intro ?_ ?_) <;> first | rfl | exact markT_all (by omega) | (congr 1; exact markT_all (by omega)) | (rw [hk3]) | omega

theorem markNs_fn : FnOk Try.prog 69 := fnOk_of Try.func69 rfl (by decide)

def T_markNs : Tab := fun f => if f = 69 then some (.g K_markNs) else T_heldL f
theorem T_markNs_ok : TabOk Try.prog T_markNs := fun f k h => by
  unfold T_markNs at h
  split at h
  · rename_i e; cases h; subst e; exact ⟨markNs_ok, markNs_fn⟩
  · exact T_heldL_ok f k h
attribute [go_sem] T_markNs K_markNs


def K_heldNs : Con := ⟨[.val ((.row 140 (.prod (.int .i64) (.prod (.int .i64) (.prod (.int .i64) (.row 2 (.int .i64))))))), .val (.int .i64)], [⟨.int .i64, true⟩], fun x => mkOk x.2.1 (cntA ctN x.1), fun x => heldA mkN ctN x.2.1 x.1⟩
set_option maxRecDepth 100000 in
set_option maxHeartbeats 4000000 in
theorem heldNs_ok : PureT Try.prog 87 K_heldNs := by
  refine pure_of_body Try.func87 rfl ?_
  have hres : Try.f87.results.toList = [.tmp 4] := rfl
  rintro ⟨(xs : List NodeD), (kk : Int), _⟩ hc hL
  simp only [K_heldNs, lensOk, PK.lenOk, glensOk, GP.lenOk, flensOk, GO.lenOk, olensOk, Ty.lenOk, Ty.flat, Bool.and_true, Bool.true_and, Bool.and_false, Bool.false_and, true_and, and_true, implies_true, forall_const] at hL
  obtain ⟨lxs, lxs2⟩ := hL
  simp only [K_heldNs, St.init, St.initG, Try.ntmps87, go_sem] 
  obtain ⟨h1, h2⟩ := (show mkOk kk (cntA ctN xs) from hc)
  refine AWP_seq_k fun K1 hK1 => ?_
  refine AWP_region (G := G) (T := T_markNs) T_markNs_ok ?_
  simp only [go_sem]
  refine hK1 _ ?_
  refine AWP_seq_k fun K2 hK2 => ?_
  refine AWP_seq_k fun K3 hK3 => ?_
  refine AWP_region (G := G) (T := T_markNs) T_markNs_ok ?_
  simp only [go_sem]
  refine hK3 _ ?_
  refine AWP_block ?_
  refine AWP_loop_k (ι := { k : Nat // k ≤ xs.length ∧ xs.take k = markA mkN ctN kk (xs.take k) }) (fun k => ⟨[.c (.rd [] 140 ((.prod (.int .i64) (.prod (.int .i64) (.prod (.int .i64) (.row 2 (.int .i64)))))) (xs)), .c (.sc (.int .i64 (kk + (cntA ctN (xs.take k.1) : Nat)))), zz, zz, zz, .c (.sc (.int .i64 (k.1))), zz, zz, zz, zz, zz, zz, zz, zz, zz, zz, zz, zz, zz, zz, zz, zz, zz, zz, zz, zz, zz, zz, zz, zz, zz, zz, zz, zz, zz, zz, zz, zz, zz, zz, zz, zz, zz, zz, zz, zz, zz, zz, zz], []⟩) (fun k => xs.length - k.1) ⟨0, by simp, by simp [markA]⟩ ?_ ?_
  ·
   refine Wk_to (by rfl) ?_
   simp (maxSteps := 2000000) only [go_sem]
   all_goals (first | rfl | ((repeat' refine And.intro ?_ ?_) <;> first | rfl | (simp [cntA]; done)))
  rintro ⟨k, hk, hp⟩ K4 hL4
  have hnx : k < xs.length → cntA ctN (xs.take (k + 1)) = cntA ctN (xs.take k) + ctN (xs.getD k ((0, 0, 0, []) : NodeD)) := fun h => cntA_next _ h
  have hle : cntA ctN (xs.take (k + 1)) ≤ cntA ctN xs := cntA_take _
  have hcn : ctN (xs.getD k ((0, 0, 0, []) : NodeD)) = 3 + (xs.getD k ((0, 0, 0, []) : NodeD)).2.2.2.length := rfl
  have hci : cntA ctI (xs.getD k ((0, 0, 0, []) : NodeD)).2.2.2 = (xs.getD k ((0, 0, 0, []) : NodeD)).2.2.2.length := cntI _
  have hw1 : k < xs.length → IntKind.i64.wrap (kk + (cntA ctN (xs.take k) : Nat) + 1) = kk + (cntA ctN (xs.take k) : Nat) + 1 := fun h => wrapI (by have := hnx h; omega)
  have hw2 : k < xs.length → IntKind.i64.wrap (kk + (cntA ctN (xs.take k) : Nat) + 1 + 1) = kk + (cntA ctN (xs.take k) : Nat) + 2 := fun h => by rw [wrapI (by have := hnx h; omega)]; omega
  have hw3 : k < xs.length → IntKind.i64.wrap (kk + (cntA ctN (xs.take k) : Nat) + 2 + 1) = kk + (cntA ctN (xs.take k) : Nat) + 3 := fun h => by rw [wrapI (by have := hnx h; omega)]; omega
  refine AWP_seq_k fun K5 hK5 => ?_
  refine AWP_seq_k fun K6 hK6 => ?_
  refine AWP_region (G := G) (T := T_markNs) T_markNs_ok ?_
  simp only [go_sem]
  refine hK6 _ ?_
  refine AWP_cond rfl ?_ ?_
  ·
   intro c0
   try simp only [decide_eq_true_eq, decide_eq_false_iff_not, Bool.not_eq_true', Bool.not_eq_false', ne_eq, Int.not_lt, Int.not_le] at c0
   refine AWP_skip ?_
   simp only [go_sem]
   refine hK5 _ ?_
   refine AWP_seq_k fun K7 hK7 => ?_
   refine AWP_block ?_
   refine AWP_seq_k fun K8 hK8 => ?_
   refine AWP_seq_k fun K9 hK9 => ?_
   have hw1 := hw1 (by omega)
   have hw2 := hw2 (by omega)
   have hw3 := hw3 (by omega)
   have hqn := hnx (by omega)
   refine AWP_region (G := G) (T := T_markNs) T_markNs_ok ?_
   simp (maxSteps := 2000000) only [hw1, hw2, hw3, go_sem]
   repeat (with_reducible refine And.intro (by first | omega | exact ⟨rfl, by omega, by omega, by omega⟩ | first | exact ⟨by omega, by omega⟩ | (rw [hci]; exact ⟨by omega, by omega⟩)) ?_)
   refine hK9 _ ?_
   refine AWP_cond rfl ?_ ?_
   ·
    intro c1
    try simp only [decide_eq_true_eq, decide_eq_false_iff_not, Bool.not_eq_true', Bool.not_eq_false', ne_eq, Int.not_lt, Int.not_le] at c1
    refine AWP_seq_k fun K10 hK10 => ?_
    refine AWP_region (G := G) (T := T_markNs) T_markNs_ok ?_
    simp only [go_sem]
    refine hK10 _ ?_
    refine AWP_ret ?_
    simp only [hres, go_sem]
    first
      | exact finOk_mk (by rfl) (by decide)
      | refine ⟨?_, finOk_mk (by rfl) (by decide)⟩
        exact (held_stop ((0, 0, 0, []) : NodeD) (m := k) (by omega) (fun e => c1 (congrArg (fun (z : NodeD) => z.1) e))).symm
   ·
    intro c1
    try simp only [decide_eq_true_eq, decide_eq_false_iff_not, Bool.not_eq_true', Bool.not_eq_false', ne_eq, Int.not_lt, Int.not_le] at c1
    refine AWP_skip ?_
    simp only [go_sem]
    refine hK8 _ ?_
    refine AWP_seq_k fun K11 hK11 => ?_
    refine AWP_region (G := G) (T := T_markNs) T_markNs_ok ?_
    simp only [hw1, hw2, hw3, go_sem]
    repeat (with_reducible refine And.intro (by first | omega | exact ⟨rfl, by omega, by omega, by omega⟩ | first | exact ⟨by omega, by omega⟩ | (rw [hci]; exact ⟨by omega, by omega⟩)) ?_)
    refine hK11 _ ?_
    refine AWP_seq_k fun K12 hK12 => ?_
    refine AWP_seq_k fun K13 hK13 => ?_
    refine AWP_region (G := G) (T := T_markNs) T_markNs_ok ?_
    simp (maxSteps := 2000000) only [hw1, hw2, hw3, go_sem]
    repeat (with_reducible refine And.intro (by first | omega | exact ⟨rfl, by omega, by omega, by omega⟩ | first | exact ⟨by omega, by omega⟩ | (rw [hci]; exact ⟨by omega, by omega⟩)) ?_)
    refine hK13 _ ?_
    refine AWP_cond rfl ?_ ?_
    ·
     intro c2
     try simp only [decide_eq_true_eq, decide_eq_false_iff_not, Bool.not_eq_true', Bool.not_eq_false', ne_eq, Int.not_lt, Int.not_le] at c2
     refine AWP_seq_k fun K14 hK14 => ?_
     refine AWP_region (G := G) (T := T_markNs) T_markNs_ok ?_
     simp only [go_sem]
     refine hK14 _ ?_
     refine AWP_ret ?_
     simp only [hres, go_sem]
     first
       | exact finOk_mk (by rfl) (by decide)
       | refine ⟨?_, finOk_mk (by rfl) (by decide)⟩
         exact (held_stop ((0, 0, 0, []) : NodeD) (m := k) (by omega) (fun e => c2 (congrArg (fun (z : NodeD) => z.2.1) e))).symm
    ·
     intro c2
     try simp only [decide_eq_true_eq, decide_eq_false_iff_not, Bool.not_eq_true', Bool.not_eq_false', ne_eq, Int.not_lt, Int.not_le] at c2
     refine AWP_skip ?_
     simp only [go_sem]
     refine hK12 _ ?_
     refine AWP_seq_k fun K15 hK15 => ?_
     refine AWP_region (G := G) (T := T_markNs) T_markNs_ok ?_
     simp only [hw1, hw2, hw3, go_sem]
     repeat (with_reducible refine And.intro (by first | omega | exact ⟨rfl, by omega, by omega, by omega⟩ | first | exact ⟨by omega, by omega⟩ | (rw [hci]; exact ⟨by omega, by omega⟩)) ?_)
     refine hK15 _ ?_
     refine AWP_seq_k fun K16 hK16 => ?_
     refine AWP_seq_k fun K17 hK17 => ?_
     refine AWP_region (G := G) (T := T_markNs) T_markNs_ok ?_
     simp (maxSteps := 2000000) only [hw1, hw2, hw3, go_sem]
     repeat (with_reducible refine And.intro (by first | omega | exact ⟨rfl, by omega, by omega, by omega⟩ | first | exact ⟨by omega, by omega⟩ | (rw [hci]; exact ⟨by omega, by omega⟩)) ?_)
     refine hK17 _ ?_
     refine AWP_cond rfl ?_ ?_
     ·
      intro c3
      try simp only [decide_eq_true_eq, decide_eq_false_iff_not, Bool.not_eq_true', Bool.not_eq_false', ne_eq, Int.not_lt, Int.not_le] at c3
      refine AWP_seq_k fun K18 hK18 => ?_
      refine AWP_region (G := G) (T := T_markNs) T_markNs_ok ?_
      simp only [go_sem]
      refine hK18 _ ?_
      refine AWP_ret ?_
      simp only [hres, go_sem]
      first
        | exact finOk_mk (by rfl) (by decide)
        | refine ⟨?_, finOk_mk (by rfl) (by decide)⟩
          exact (held_stop ((0, 0, 0, []) : NodeD) (m := k) (by omega) (fun e => c3 (congrArg (fun (z : NodeD) => z.2.2.1) e))).symm
     ·
      intro c3
      try simp only [decide_eq_true_eq, decide_eq_false_iff_not, Bool.not_eq_true', Bool.not_eq_false', ne_eq, Int.not_lt, Int.not_le] at c3
      refine AWP_skip ?_
      simp only [go_sem]
      refine hK16 _ ?_
      refine AWP_seq_k fun K19 hK19 => ?_
      refine AWP_region (G := G) (T := T_markNs) T_markNs_ok ?_
      simp only [hw1, hw2, hw3, go_sem]
      repeat (with_reducible refine And.intro (by first | omega | exact ⟨rfl, by omega, by omega, by omega⟩ | first | exact ⟨by omega, by omega⟩ | (rw [hci]; exact ⟨by omega, by omega⟩)) ?_)
      refine hK19 _ ?_
      refine AWP_seq_k fun K20 hK20 => ?_
      refine AWP_region (G := G) (T := T_markNs) T_markNs_ok ?_
      simp (maxSteps := 2000000) only [hw1, hw2, hw3, go_sem]
      repeat (with_reducible refine And.intro (by first | omega | exact ⟨rfl, by omega, by omega, by omega⟩ | first | exact ⟨by omega, by omega⟩ | (rw [hci]; exact ⟨by omega, by omega⟩)) ?_)
      refine hK20 _ ?_
      refine AWP_seq_k fun K21 hK21 => ?_
      refine AWP_region (G := G) (T := T_markNs) T_markNs_ok ?_
      simp only [hw1, hw2, hw3, go_sem]
      repeat (with_reducible refine And.intro (by first | omega | exact ⟨rfl, by omega, by omega, by omega⟩ | first | exact ⟨by omega, by omega⟩ | (rw [hci]; exact ⟨by omega, by omega⟩)) ?_)
      refine hK21 _ ?_
      refine AWP_cond rfl ?_ ?_
      ·
       intro c4
       try simp only [decide_eq_true_eq, decide_eq_false_iff_not, Bool.not_eq_true', Bool.not_eq_false', ne_eq, Int.not_lt, Int.not_le] at c4
       obtain ⟨e1, e2⟩ := heldA_neg (by omega) c4
       refine AWP_seq_k fun K22 hK22 => ?_
       refine AWP_region (G := G) (T := T_markNs) T_markNs_ok ?_
       simp only [go_sem]
       refine hK22 _ ?_
       refine AWP_ret ?_
       simp only [hres, go_sem]
       first
         | exact finOk_mk (by rfl) (by decide)
         | refine ⟨?_, finOk_mk (by rfl) (by decide)⟩
           exact (held_stop ((0, 0, 0, []) : NodeD) (m := k) (by omega) (fun e => e2 (congrArg (fun (z : NodeD) => z.2.2.2) e))).symm
      ·
       intro c4
       try simp only [decide_eq_true_eq, decide_eq_false_iff_not, Bool.not_eq_true', Bool.not_eq_false', ne_eq, Int.not_lt, Int.not_le] at c4
       obtain ⟨e1, e2⟩ := heldA_pos c4
       have hq : (xs.getD k ((0, 0, 0, []) : NodeD)) = mkN (kk + (cntA ctN (xs.take k) : Nat)) (xs.getD k ((0, 0, 0, []) : NodeD)) := Prod.ext c1 (Prod.ext c2 (Prod.ext c3 e2))
       refine AWP_skip ?_
       simp only [go_sem]
       refine hK7 _ ?_
       refine AWP_region (G := G) (T := T_markNs) T_markNs_ok ?_
       simp only [go_sem]
       refine hL4 ⟨k + 1, by omega, held_next ((0, 0, 0, []) : NodeD) (by omega) hp hq⟩ _ (Wk_to (by rfl) ?_) ?_
       ·
        simp (maxSteps := 2000000) only [go_sem]
        all_goals (first | rfl | ((repeat' refine And.intro ?_ ?_) <;> first | rfl | exact wk (by omega) | (rw [e1, hqn]; omega) | omega))
       ·
        first | (simp only []; omega) | omega | (simp; omega)
  ·
   intro c0
   try simp only [decide_eq_true_eq, decide_eq_false_iff_not, Bool.not_eq_true', Bool.not_eq_false', ne_eq, Int.not_lt, Int.not_le] at c0
   refine AWP_exit ?_
   simp only [go_sem]
   refine hK2 _ ?_
   refine AWP_seq_k fun K23 hK23 => ?_
   refine AWP_region (G := G) (T := T_markNs) T_markNs_ok ?_
   simp only [go_sem]
   refine hK23 _ ?_
   refine AWP_ret ?_
   simp only [hres, go_sem]
   first
     | exact finOk_mk (by rfl) (by decide)
     | refine ⟨?_, finOk_mk (by rfl) (by decide)⟩
       rw [held_done (m := k) (by omega) hp, List.take_of_length_le (by omega)]

theorem heldNs_fn : FnOk Try.prog 87 := fnOk_of Try.func87 rfl (by decide)

def T_heldNs : Tab := fun f => if f = 87 then some (.p K_heldNs) else T_markNs f
theorem T_heldNs_ok : TabOk Try.prog T_heldNs := fun f k h => by
  unfold T_heldNs at h
  split at h
  · rename_i e; cases h; subst e; exact ⟨heldNs_ok, heldNs_fn⟩
  · exact T_markNs_ok f k h
attribute [go_sem] T_heldNs K_heldNs


def K_heldP : Con := ⟨[.val ((.prod (.int .i64) (.prod (.row 24 (.row 2 (.int .i64))) (.prod (.row 140 (.prod (.int .i64) (.prod (.int .i64) (.prod (.int .i64) (.row 2 (.int .i64)))))) (.row 2 (.int .i64)))))), .val (.int .i64)], [⟨.int .i64, true⟩], fun x => mkOk x.2.1 (ctP x.1), fun x => heldP x.2.1 x.1⟩
set_option maxRecDepth 100000 in
set_option maxHeartbeats 1000000 in
theorem heldP_ok : PureT Try.prog 39 K_heldP := by
  refine pure_of_body Try.func39 rfl ?_
  have hres : Try.f39.results.toList = [.tmp 4] := rfl
  rintro ⟨⟨(pi : Int), (ts : List (List Int)), (ns : List NodeD), (os : List Int)⟩, (kk : Int), _⟩ hc hL
  simp only [K_heldP, lensOk, PK.lenOk, glensOk, GP.lenOk, flensOk, GO.lenOk, olensOk, Ty.lenOk, Ty.flat, Bool.and_true, Bool.true_and, Bool.and_false, Bool.false_and, true_and, and_true, implies_true, forall_const] at hL
  simp only [K_heldP, St.init, St.initG, Try.ntmps39, go_sem] 
  obtain ⟨h1, h2⟩ := (show mkOk kk (ctP (pi, ts, ns, os)) from hc)
  have hcp : ctP (pi, ts, ns, os) = cntA List.length ts + cntA ctN ns + os.length := rfl
  have hci : cntA ctI os = os.length := cntI _
  refine AWP_seq_k fun K1 hK1 => ?_
  refine AWP_region (G := G) (T := T_heldNs) T_heldNs_ok ?_
  simp only [go_sem]
  repeat (with_reducible refine And.intro (by first | omega | exact ⟨rfl, by omega, by omega, by omega⟩ | first | exact ⟨by omega, by omega⟩ | (rw [hci]; exact ⟨by omega, by omega⟩)) ?_)
  refine hK1 _ ?_
  refine AWP_seq_k fun K2 hK2 => ?_
  refine AWP_region (G := G) (T := T_heldNs) T_heldNs_ok ?_
  simp (maxSteps := 2000000) only [go_sem]
  repeat (with_reducible refine And.intro (by first | omega | exact ⟨rfl, by omega, by omega, by omega⟩ | first | exact ⟨by omega, by omega⟩ | (rw [hci]; exact ⟨by omega, by omega⟩)) ?_)
  refine hK2 _ ?_
  refine AWP_seq_k fun K3 hK3 => ?_
  refine AWP_seq_k fun K4 hK4 => ?_
  refine AWP_region (G := G) (T := T_heldNs) T_heldNs_ok ?_
  simp only [go_sem]
  repeat (with_reducible refine And.intro (by first | omega | exact ⟨rfl, by omega, by omega, by omega⟩ | first | exact ⟨by omega, by omega⟩ | (rw [hci]; exact ⟨by omega, by omega⟩)) ?_)
  refine hK4 _ ?_
  refine AWP_cond rfl ?_ ?_
  ·
   intro c0
   try simp only [decide_eq_true_eq, decide_eq_false_iff_not, Bool.not_eq_true', Bool.not_eq_false', ne_eq, Int.not_lt, Int.not_le] at c0
   obtain ⟨e1, e2⟩ := heldA_neg (by omega) c0
   refine AWP_seq_k fun K5 hK5 => ?_
   refine AWP_region (G := G) (T := T_heldNs) T_heldNs_ok ?_
   simp only [go_sem]
   repeat (with_reducible refine And.intro (by first | omega | exact ⟨rfl, by omega, by omega, by omega⟩ | first | exact ⟨by omega, by omega⟩ | (rw [hci]; exact ⟨by omega, by omega⟩)) ?_)
   refine hK5 _ ?_
   refine AWP_ret ?_
   simp only [hres, go_sem]
   first
     | exact finOk_mk (by rfl) (by decide)
     | refine ⟨?_, finOk_mk (by rfl) (by decide)⟩
       exact (heldP_f1 e2).symm
  ·
   intro c0
   try simp only [decide_eq_true_eq, decide_eq_false_iff_not, Bool.not_eq_true', Bool.not_eq_false', ne_eq, Int.not_lt, Int.not_le] at c0
   obtain ⟨e1, e2⟩ := heldA_pos c0
   refine AWP_skip ?_
   simp only [go_sem]
   refine hK3 _ ?_
   refine AWP_seq_k fun K6 hK6 => ?_
   refine AWP_region (G := G) (T := T_heldNs) T_heldNs_ok ?_
   simp (maxSteps := 2000000) only [go_sem]
   repeat (with_reducible refine And.intro (by first | omega | exact ⟨rfl, by omega, by omega, by omega⟩ | first | exact ⟨by omega, by omega⟩ | (rw [hci]; exact ⟨by omega, by omega⟩)) ?_)
   refine hK6 _ ?_
   refine AWP_seq_k fun K7 hK7 => ?_
   refine AWP_seq_k fun K8 hK8 => ?_
   refine AWP_region (G := G) (T := T_heldNs) T_heldNs_ok ?_
   simp only [go_sem]
   repeat (with_reducible refine And.intro (by first | omega | exact ⟨rfl, by omega, by omega, by omega⟩ | first | exact ⟨by omega, by omega⟩ | (rw [hci]; exact ⟨by omega, by omega⟩)) ?_)
   refine hK8 _ ?_
   refine AWP_cond rfl ?_ ?_
   ·
    intro c1
    try simp only [decide_eq_true_eq, decide_eq_false_iff_not, Bool.not_eq_true', Bool.not_eq_false', ne_eq, Int.not_lt, Int.not_le] at c1
    obtain ⟨e3, e4⟩ := heldA_neg (by omega) c1
    refine AWP_seq_k fun K9 hK9 => ?_
    refine AWP_region (G := G) (T := T_heldNs) T_heldNs_ok ?_
    simp only [go_sem]
    repeat (with_reducible refine And.intro (by first | omega | exact ⟨rfl, by omega, by omega, by omega⟩ | first | exact ⟨by omega, by omega⟩ | (rw [hci]; exact ⟨by omega, by omega⟩)) ?_)
    refine hK9 _ ?_
    refine AWP_ret ?_
    simp only [hres, go_sem]
    first
      | exact finOk_mk (by rfl) (by decide)
      | refine ⟨?_, finOk_mk (by rfl) (by decide)⟩
        exact (heldP_f2 (e1 ▸ e4)).symm
   ·
    intro c1
    try simp only [decide_eq_true_eq, decide_eq_false_iff_not, Bool.not_eq_true', Bool.not_eq_false', ne_eq, Int.not_lt, Int.not_le] at c1
    obtain ⟨e3, e4⟩ := heldA_pos c1
    refine AWP_skip ?_
    simp only [go_sem]
    refine hK7 _ ?_
    refine AWP_seq_k fun K10 hK10 => ?_
    refine AWP_region (G := G) (T := T_heldNs) T_heldNs_ok ?_
    simp (maxSteps := 2000000) only [go_sem]
    repeat (with_reducible refine And.intro (by first | omega | exact ⟨rfl, by omega, by omega, by omega⟩ | first | exact ⟨by omega, by omega⟩ | (rw [hci]; exact ⟨by omega, by omega⟩)) ?_)
    refine hK10 _ ?_
    refine AWP_seq_k fun K11 hK11 => ?_
    refine AWP_seq_k fun K12 hK12 => ?_
    refine AWP_region (G := G) (T := T_heldNs) T_heldNs_ok ?_
    simp only [go_sem]
    repeat (with_reducible refine And.intro (by first | omega | exact ⟨rfl, by omega, by omega, by omega⟩ | first | exact ⟨by omega, by omega⟩ | (rw [hci]; exact ⟨by omega, by omega⟩)) ?_)
    refine hK12 _ ?_
    refine AWP_cond rfl ?_ ?_
    ·
     intro c2
     try simp only [decide_eq_true_eq, decide_eq_false_iff_not, Bool.not_eq_true', Bool.not_eq_false', ne_eq, Int.not_lt, Int.not_le] at c2
     obtain ⟨e5, e6⟩ := heldA_neg (by omega) c2
     refine AWP_seq_k fun K13 hK13 => ?_
     refine AWP_region (G := G) (T := T_heldNs) T_heldNs_ok ?_
     simp only [go_sem]
     repeat (with_reducible refine And.intro (by first | omega | exact ⟨rfl, by omega, by omega, by omega⟩ | first | exact ⟨by omega, by omega⟩ | (rw [hci]; exact ⟨by omega, by omega⟩)) ?_)
     refine hK13 _ ?_
     refine AWP_ret ?_
     simp only [hres, go_sem]
     first
       | exact finOk_mk (by rfl) (by decide)
       | refine ⟨?_, finOk_mk (by rfl) (by decide)⟩
         rw [e3, e1] at e6
         exact (heldP_f3 e6).symm
    ·
     intro c2
     try simp only [decide_eq_true_eq, decide_eq_false_iff_not, Bool.not_eq_true', Bool.not_eq_false', ne_eq, Int.not_lt, Int.not_le] at c2
     obtain ⟨e5, e6⟩ := heldA_pos c2
     refine AWP_skip ?_
     simp only [go_sem]
     refine hK11 _ ?_
     refine AWP_seq_k fun K14 hK14 => ?_
     refine AWP_region (G := G) (T := T_heldNs) T_heldNs_ok ?_
     simp only [go_sem]
     repeat (with_reducible refine And.intro (by first | omega | exact ⟨rfl, by omega, by omega, by omega⟩ | first | exact ⟨by omega, by omega⟩ | (rw [hci]; exact ⟨by omega, by omega⟩)) ?_)
     refine hK14 _ ?_
     refine AWP_ret ?_
     simp only [hres, go_sem]
     first
       | exact finOk_mk (by rfl) (by decide)
       | refine ⟨?_, finOk_mk (by rfl) (by decide)⟩
         rw [e1] at e4
         rw [e5, e3, e1] at *
         exact heldP_t e2 e4 e6

theorem heldP_fn : FnOk Try.prog 39 := fnOk_of Try.func39 rfl (by decide)

def T_heldP : Tab := fun f => if f = 39 then some (.p K_heldP) else T_heldNs f
theorem T_heldP_ok : TabOk Try.prog T_heldP := fun f k h => by
  unfold T_heldP at h
  split at h
  · rename_i e; cases h; subst e; exact ⟨heldP_ok, heldP_fn⟩
  · exact T_heldNs_ok f k h
attribute [go_sem] T_heldP K_heldP


def K_markP : GCon where
  ps := [.ag [.rd (.int .i64), .ow 0, .ow 1, .ow 2], .val (.int .i64)]
  os := [.tree 24 (.row 2 (.int .i64)), .tree 140 (.prod (.int .i64) (.prod (.int .i64) (.prod (.int .i64) (.row 2 (.int .i64))))), .row 2 (.int .i64)]
  c := fun x => mkOk x.1.2.1 (ctP (0, x.2.1, x.2.2.1, x.2.2.2.1))
  r := fun x => .c (.sc (.int .i64 (x.1.2.1 + (ctP (0, x.2.1, x.2.2.1, x.2.2.2.1) : Nat))))
  o := fun x => [(30, .tree 24 (.row 2 (.int .i64)) (markLL x.1.2.1 x.2.1) none), (31, .tree 140 (.prod (.int .i64) (.prod (.int .i64) (.prod (.int .i64) (.row 2 (.int .i64))))) (markNs (x.1.2.1 + (cntA List.length x.2.1 : Nat)) x.2.2.1) none), (32, .row 2 (.int .i64) (markL (x.1.2.1 + (cntA List.length x.2.1 : Nat) + (cntA ctN x.2.2.1 : Nat)) x.2.2.2.1) [])]
  ok := by
    rintro ⟨⟨⟨(pi : Int), _⟩, (kk : Int), _⟩, ⟨(ts : List (List Int)), (ns : List NodeD), (os : List Int), _⟩⟩
    exact ⟨rfl, rfl, by decide⟩
set_option maxRecDepth 100000 in
set_option maxHeartbeats 1000000 in
theorem markP_ok : GenT Try.prog 21 K_markP := by
  refine gen_of_body Try.func21 rfl ?_
  have hres : Try.f21.results.toList = [.tmp 4] := rfl
  rintro ⟨⟨⟨(pi : Int), _⟩, (kk : Int), _⟩, ⟨(ts : List (List Int)), (ns : List NodeD), (os : List Int), _⟩⟩ hc hL hO
  simp only [K_markP, lensOk, PK.lenOk, glensOk, GP.lenOk, flensOk, GO.lenOk, olensOk, Ty.lenOk, Ty.flat, Bool.and_true, Bool.true_and, Bool.and_false, Bool.false_and, true_and, and_true, implies_true, forall_const] at hL
  simp only [K_markP, lensOk, PK.lenOk, glensOk, GP.lenOk, flensOk, GO.lenOk, olensOk, Ty.lenOk, Ty.flat, Bool.and_true, Bool.true_and, Bool.and_false, Bool.false_and, true_and, and_true, implies_true, forall_const] at hO
  simp only [K_markP, St.init, St.initG, Try.ntmps21, go_sem] 
  obtain ⟨h1, h2⟩ := (show mkOk kk (ctP (0, ts, ns, os)) from hc)
  have hcp : ctP (0, ts, ns, os) = cntA List.length ts + cntA ctN ns + os.length := rfl
  refine AWP_seq_k fun K1 hK1 => ?_
  refine AWP_region (G := G) (T := T_heldP) T_heldP_ok ?_
  simp only [go_sem]
  repeat (with_reducible refine And.intro (by first | omega | exact ⟨rfl, by omega, by omega, by omega⟩ | first | exact ⟨by omega, by omega⟩) ?_)
  refine hK1 _ ?_
  refine AWP_seq_k fun K2 hK2 => ?_
  refine AWP_region (G := G) (T := T_heldP) T_heldP_ok ?_
  simp (maxSteps := 2000000) only [go_sem]
  repeat (with_reducible refine And.intro (by first | omega | exact ⟨rfl, by omega, by omega, by omega⟩ | first | exact ⟨by omega, by omega⟩) ?_)
  refine hK2 _ ?_
  refine AWP_seq_k fun K3 hK3 => ?_
  refine AWP_region (G := G) (T := T_heldP) T_heldP_ok ?_
  simp (maxSteps := 2000000) only [go_sem]
  repeat (with_reducible refine And.intro (by first | omega | exact ⟨rfl, by omega, by omega, by omega⟩ | first | exact ⟨by omega, by omega⟩) ?_)
  refine hK3 _ ?_
  refine AWP_seq_k fun K4 hK4 => ?_
  refine AWP_region (G := G) (T := T_heldP) T_heldP_ok ?_
  simp (maxSteps := 2000000) only [go_sem]
  repeat (with_reducible refine And.intro (by first | omega | exact ⟨rfl, by omega, by omega, by omega⟩ | first | exact ⟨by omega, by omega⟩) ?_)
  refine hK4 _ ?_
  refine AWP_seq_k fun K5 hK5 => ?_
  refine AWP_region (G := G) (T := T_heldP) T_heldP_ok ?_
  simp only [go_sem]
  repeat (with_reducible refine And.intro (by first | omega | exact ⟨rfl, by omega, by omega, by omega⟩ | first | exact ⟨by omega, by omega⟩) ?_)
  refine hK5 _ ?_
  refine AWP_ret ?_
  simp only [hres, go_sem]
  first
    | exact finOkG_mk (by rfl)
    | refine ⟨finOkG_mk (by rfl), ?_⟩
      (repeat' refine And.intro ?_ ?_) <;> first | rfl | (rw [hcp]; omega) | omega

theorem markP_fn : FnOk Try.prog 21 := fnOk_of Try.func21 rfl (by decide)

def T_markP : Tab := fun f => if f = 21 then some (.g K_markP) else T_heldP f
theorem T_markP_ok : TabOk Try.prog T_markP := fun f k h => by
  unfold T_markP at h
  split at h
  · rename_i e; cases h; subst e; exact ⟨markP_ok, markP_fn⟩
  · exact T_heldP_ok f k h
attribute [go_sem] T_markP K_markP

end Go.Proofs.Ythglggjgjlmhlaa
