/-
  Contracts of functions: clone, clones, shiftedNode.
-/
import Derived.Test.YthglggjgjlmhlaaGa1
import Derived.Test.YthglggjgjlmhlaaPe
namespace Go.Proofs.Ythglggjgjlmhlaa
open Go.RowKit
set_option linter.unusedSimpArgs false
set_option linter.unusedVariables false

def K_clone : Con := ⟨[.val ((.row 2 (.int .i64)))], [⟨(.row 2 (.int .i64)), true⟩], fun x => x.1.length ≤ 1099511627776, fun x => x.1⟩
set_option maxRecDepth 100000 in
set_option maxHeartbeats 1000000 in
theorem clone_ok : PureT Try.prog 159 K_clone := by
  refine pure_of_body Try.func159 rfl ?_
  have hres : Try.f159.results.toList = [.tmp 2] := rfl
  rintro ⟨(xs : List Int), _⟩ hc hL
  simp only [K_clone, lensOk, PK.lenOk, glensOk, GP.lenOk, flensOk, GO.lenOk, olensOk, Ty.lenOk, Ty.flat, Bool.and_true, Bool.true_and, Bool.and_false, Bool.false_and, true_and, and_true, implies_true, forall_const] at hL
  simp only [K_clone, St.init, St.initG, Try.ntmps159, go_sem] 
  have hx : xs.length ≤ 1099511627776 := hc
  refine AWP_seq_k fun K1 hK1 => ?_
  refine AWP_region (G := G) (T := T_kinds) T_kinds_ok ?_
  simp only [go_sem]
  refine hK1 _ ?_
  refine AWP_seq_k fun K2 hK2 => ?_
  refine AWP_region (G := G) (T := T_kinds) T_kinds_ok ?_
  simp only [go_sem]
  repeat (with_reducible refine And.intro (by first | omega | exact ⟨rfl, by omega, by omega, by omega⟩) ?_)
  refine hK2 _ ?_
  refine AWP_ret ?_
  simp only [hres, go_sem]
  first
    | exact finOk_mk (by rfl) (by decide)
    | refine ⟨?_, finOk_mk (by rfl) (by decide)⟩
      rfl

theorem clone_fn : FnOk Try.prog 159 := fnOk_of Try.func159 rfl (by decide)

def T_clone : Tab := fun f => if f = 159 then some (.p K_clone) else T_kinds f
theorem T_clone_ok : TabOk Try.prog T_clone := fun f k h => by
  unfold T_clone at h
  split at h
  · rename_i e; cases h; subst e; exact ⟨clone_ok, clone_fn⟩
  · exact T_kinds_ok f k h
attribute [go_sem] T_clone K_clone


def K_clones : Con := ⟨[.val ((.row 24 (.row 2 (.int .i64))))], [⟨(.row 24 (.row 2 (.int .i64))), true⟩], fun x => fitsL x.1, fun x => x.1⟩
set_option maxRecDepth 100000 in
set_option maxHeartbeats 1000000 in
theorem clones_ok : PureT Try.prog 118 K_clones := by
  refine pure_of_body Try.func118 rfl ?_
  have hres : Try.f118.results.toList = [.tmp 2] := rfl
  rintro ⟨(xs : List (List Int)), _⟩ hc hL
  simp only [K_clones, lensOk, PK.lenOk, glensOk, GP.lenOk, flensOk, GO.lenOk, olensOk, Ty.lenOk, Ty.flat, Bool.and_true, Bool.true_and, Bool.and_false, Bool.false_and, true_and, and_true, implies_true, forall_const] at hL
  simp only [K_clones, St.init, St.initG, Try.ntmps118, go_sem] 
  obtain ⟨hx, hy⟩ := (show fitsL xs from hc)
  refine AWP_seq_k fun K1 hK1 => ?_
  refine AWP_region (G := G) (T := T_clone) T_clone_ok ?_
  simp only [go_sem]
  refine hK1 _ ?_
  refine AWP_seq_k fun K2 hK2 => ?_
  refine AWP_region (G := G) (T := T_clone) T_clone_ok ?_
  simp only [List.nodup_nil, go_sem]
  repeat (with_reducible refine And.intro (by first | omega | exact ⟨rfl, by omega, by omega, by omega⟩) ?_)
  refine hK2 _ ?_
  refine AWP_seq_k fun K3 hK3 => ?_
  refine AWP_seq_k fun K4 hK4 => ?_
  refine AWP_region (G := G) (T := T_clone) T_clone_ok ?_
  simp only [go_sem]
  refine hK4 _ ?_
  refine AWP_block ?_
  refine AWP_loop_k (ι := { k : Nat // k ≤ xs.length }) (fun k => ⟨[zz, zz, zz, .c (.ow 9001), zz, zz, zz, .c (.rd [] 24 (.row 2 (.int .i64)) (xs)), .c (.sc (.int .i64 (xs.length))), .c (.sc (.int .i64 (k.1))), zz, zz, zz, zz, zz, zz, zz, zz, zz, zz], [(9001, .tree 24 (.row 2 (.int .i64)) (xs.take k.1) none)]⟩) (fun k => xs.length - k.1) ⟨0, by simp⟩ ?_ ?_
  ·
   refine Wk_to (by rfl) ?_
   simp (maxSteps := 2000000) only [go_sem]
   all_goals (first | rfl | ((repeat' refine And.intro ?_ ?_) <;> first | rfl | simp))
  rintro ⟨k, hk⟩ K5 hL5
  have htk : (List.take k xs).length ≤ 1099511627776 := by rw [List.length_take]; omega
  have hyk : k < xs.length → (xs.getD k []).length ≤ 1099511627776 := fun h => hy _ (getD_mem h)
  refine AWP_seq_k fun K6 hK6 => ?_
  refine AWP_region (G := G) (T := T_clone) T_clone_ok ?_
  simp only [go_sem]
  refine hK6 _ ?_
  refine AWP_seq_k fun K7 hK7 => ?_
  refine AWP_cond rfl ?_ ?_
  ·
   intro c0
   try simp only [decide_eq_true_eq, decide_eq_false_iff_not, Bool.not_eq_true', Bool.not_eq_false', ne_eq, Int.not_lt, Int.not_le] at c0
   refine AWP_skip ?_
   simp only [go_sem]
   refine hK7 _ ?_
   refine AWP_seq_k fun K8 hK8 => ?_
   refine AWP_block ?_
   refine AWP_seq_k fun K9 hK9 => ?_
   refine AWP_region (G := G) (T := T_clone) T_clone_ok ?_
   simp only [go_sem]
   repeat (with_reducible refine And.intro (by first | omega | exact ⟨rfl, by omega, by omega, by omega⟩) ?_)
   refine hK9 _ ?_
   refine AWP_region (G := G) (T := T_clone) T_clone_ok ?_
   simp (maxSteps := 2000000) only [List.nodup_cons, List.nodup_nil, List.not_mem_nil, not_false_eq_true, go_sem]
   repeat (with_reducible refine And.intro (by first | omega | exact ⟨rfl, by omega, by omega, by omega⟩ | omega) ?_)
   refine hK8 _ ?_
   refine AWP_region (G := G) (T := T_clone) T_clone_ok ?_
   simp only [go_sem]
   refine hL5 ⟨k + 1, by omega⟩ _ (Wk_to (by rfl) ?_) ?_
   ·
    simp (maxSteps := 2000000) only [go_sem]
    all_goals first | rfl | exact wk (by omega) | exact ⟨wk (by omega), by rw [take_next (xs := xs) (k := k) (d := []) (by omega)]⟩
   ·
    first | (simp only []; omega) | omega | (simp; omega)
  ·
   intro c0
   try simp only [decide_eq_true_eq, decide_eq_false_iff_not, Bool.not_eq_true', Bool.not_eq_false', ne_eq, Int.not_lt, Int.not_le] at c0
   refine AWP_exit ?_
   simp only [go_sem]
   refine hK3 _ ?_
   refine AWP_seq_k fun K10 hK10 => ?_
   refine AWP_region (G := G) (T := T_clone) T_clone_ok ?_
   simp only [go_sem]
   refine hK10 _ ?_
   refine AWP_ret ?_
   simp only [hres, go_sem]
   first
     | exact finOk_mk (by rfl) (by decide)
     | refine ⟨?_, finOk_mk (by rfl) (by decide)⟩
       exact List.take_of_length_le (by omega)

theorem clones_fn : FnOk Try.prog 118 := fnOk_of Try.func118 rfl (by decide)

def T_clones : Tab := fun f => if f = 118 then some (.p K_clones) else T_clone f
theorem T_clones_ok : TabOk Try.prog T_clones := fun f k h => by
  unfold T_clones at h
  split at h
  · rename_i e; cases h; subst e; exact ⟨clones_ok, clones_fn⟩
  · exact T_clone_ok f k h
attribute [go_sem] T_clones K_clones


def K_shiftedNode : Con := ⟨[.val ((.prod (.int .i64) (.prod (.int .i64) (.prod (.int .i64) (.row 2 (.int .i64)))))), .val (.int .i64), .val (.int .i64)], [⟨(.prod (.int .i64) (.prod (.int .i64) (.prod (.int .i64) (.row 2 (.int .i64))))), true⟩], fun x => x.1.2.2.2.length ≤ 1099511627776, fun x => shiftN x.2.1 x.2.2.1 x.1⟩
set_option maxRecDepth 100000 in
set_option maxHeartbeats 1000000 in
theorem shiftedNode_ok : PureT Try.prog 131 K_shiftedNode := by
  refine pure_of_body Try.func131 rfl ?_
  have hres : Try.f131.results.toList = [.cell 6 140] := rfl
  rintro ⟨⟨(kd : Int), (a : Int), (bb : Int), (fr : List Int)⟩, (nn : Int), (nt : Int), _⟩ hc hL
  simp only [K_shiftedNode, lensOk, PK.lenOk, glensOk, GP.lenOk, flensOk, GO.lenOk, olensOk, Ty.lenOk, Ty.flat, Bool.and_true, Bool.true_and, Bool.and_false, Bool.false_and, true_and, and_true, implies_true, forall_const] at hL
  simp only [K_shiftedNode, St.init, St.initG, Try.ntmps131, go_sem] 
  have hx : fr.length ≤ 1099511627776 := hc
  refine AWP_seq_k fun K1 hK1 => ?_
  refine AWP_region (G := G) (T := T_clones) T_clones_ok ?_
  simp only [go_sem]
  refine hK1 _ ?_
  refine AWP_seq_k fun K2 hK2 => ?_
  refine AWP_region (G := G) (T := T_clones) T_clones_ok ?_
  simp (maxSteps := 2000000) only [go_sem]
  repeat (with_reducible refine And.intro (by first | omega | exact ⟨rfl, by omega, by omega, by omega⟩) ?_)
  refine hK2 _ ?_
  refine AWP_seq_k fun K3 hK3 => ?_
  refine AWP_seq_k fun K4 hK4 => ?_
  refine AWP_region (G := G) (T := T_clones) T_clones_ok ?_
  simp only [go_sem]
  repeat (with_reducible refine And.intro (by first | omega | exact ⟨rfl, by omega, by omega, by omega⟩) ?_)
  refine hK4 _ ?_
  refine AWP_block ?_
  refine AWP_loop_k (ι := { k : Nat // k ≤ fr.length }) (fun k => ⟨[zz, .c (.sc (.int .i64 (nn))), .c (.sc (.int .i64 (nt))), .c (.po 148 0), zz, zz, .c (.po 196 0), zz, zz, zz, zz, zz, zz, zz, .c (.sc (.int .i64 (fr.length))), .c (.sc (.int .i64 (k.1))), zz, zz, zz, zz, zz, zz, zz, zz, zz, zz, zz, zz, zz, zz, zz, zz, zz, zz, zz, zz], [(148, .box [.sc (.int .i64 (kd)), .sc (.int .i64 (a)), .sc (.int .i64 (bb)), .ow 9001]), (196, .box [.sc (.int .i64 (0)), .sc (.int .i64 (0)), .sc (.int .i64 (0)), .sc (.slice none 0 0)]), (9001, .row 2 (.int .i64) ((fr.take k.1).map (plus nn) ++ fr.drop k.1) [])]⟩) (fun k => fr.length - k.1) ⟨0, by simp⟩ ?_ ?_
  ·
   refine Wk_to (by rfl) ?_
   simp (maxSteps := 2000000) only [go_sem]
   all_goals (first | rfl | ((repeat' refine And.intro ?_ ?_) <;> first | rfl | simp))
  rintro ⟨k, hk⟩ K5 hL5
  have hlm0 : (List.map (plus nn) (List.take k fr)).length + (List.drop k fr).length = fr.length := by rw [← List.length_append]; exact mix_len
  have hlm : ((fr.take k).map (plus nn) ++ fr.drop k).length = fr.length := mix_len
  refine AWP_seq_k fun K6 hK6 => ?_
  refine AWP_region (G := G) (T := T_clones) T_clones_ok ?_
  simp only [go_sem]
  refine hK6 _ ?_
  refine AWP_seq_k fun K7 hK7 => ?_
  refine AWP_cond rfl ?_ ?_
  ·
   intro c0
   try simp only [decide_eq_true_eq, decide_eq_false_iff_not, Bool.not_eq_true', Bool.not_eq_false', ne_eq, Int.not_lt, Int.not_le] at c0
   refine AWP_skip ?_
   simp only [go_sem]
   refine hK7 _ ?_
   refine AWP_seq_k fun K8 hK8 => ?_
   refine AWP_block ?_
   refine AWP_seq_k fun K9 hK9 => ?_
   refine AWP_region (G := G) (T := T_clones) T_clones_ok ?_
   simp only [go_sem]
   refine hK9 _ ?_
   refine AWP_region (G := G) (T := T_clones) T_clones_ok ?_
   simp (maxSteps := 2000000) only [go_sem]
   repeat (with_reducible refine And.intro (by first | omega | exact ⟨rfl, by omega, by omega, by omega⟩) ?_)
   refine hK8 _ ?_
   refine AWP_region (G := G) (T := T_clones) T_clones_ok ?_
   simp only [go_sem]
   refine hL5 ⟨k + 1, by omega⟩ _ (Wk_to (by rfl) ?_) ?_
   ·
    simp (maxSteps := 2000000) only [go_sem]
    all_goals first | rfl | exact wk (by omega) | exact ⟨wk (by omega), by rw [mix_at (xs := fr) (f := plus nn) (k := k) 0 (by omega)]; exact mix_set (xs := fr) (f := plus nn) (k := k) 0 (by omega)⟩ | exact mix_set (xs := fr) (f := plus nn) (k := k) 0 (by omega)
   ·
    first | (simp only []; omega) | omega | (simp; omega)
  ·
   intro c0
   try simp only [decide_eq_true_eq, decide_eq_false_iff_not, Bool.not_eq_true', Bool.not_eq_false', ne_eq, Int.not_lt, Int.not_le] at c0
   refine AWP_exit ?_
   simp only [go_sem]
   refine hK3 _ ?_
   refine AWP_seq_k fun K10 hK10 => ?_
   refine AWP_seq_k fun K11 hK11 => ?_
   refine AWP_region (G := G) (T := T_clones) T_clones_ok ?_
   simp only [go_sem]
   repeat (with_reducible refine And.intro (by first | omega | exact ⟨rfl, by omega, by omega, by omega⟩) ?_)
   refine hK11 _ ?_
   refine AWP_cond rfl ?_ ?_
   ·
    intro c1
    try simp only [decide_eq_true_eq, decide_eq_false_iff_not, Bool.not_eq_true', Bool.not_eq_false', ne_eq, Int.not_lt, Int.not_le] at c1
    refine AWP_region (G := G) (T := T_clones) T_clones_ok ?_
    simp (maxSteps := 2000000) only [go_sem]
    repeat (with_reducible refine And.intro (by first | omega | exact ⟨rfl, by omega, by omega, by omega⟩) ?_)
    refine hK10 _ ?_
    refine AWP_seq_k fun K12 hK12 => ?_
    refine AWP_region (G := G) (T := T_clones) T_clones_ok ?_
    simp only [go_sem]
    repeat (with_reducible refine And.intro (by first | omega | exact ⟨rfl, by omega, by omega, by omega⟩) ?_)
    refine hK12 _ ?_
    refine AWP_ret ?_
    simp only [hres, go_sem]
    first
      | exact finOk_mk (by rfl) (by decide)
      | refine ⟨?_, finOk_mk (by rfl) (by decide)⟩
        have hk2 : k = fr.length := by omega
        clear hK1 hK2 hK3 hK4 hL5 hK6 hK7 hK10 hK11 hK12
        subst hk2
        simp_all [shiftN, plus]
   ·
    intro c1
    try simp only [decide_eq_true_eq, decide_eq_false_iff_not, Bool.not_eq_true', Bool.not_eq_false', ne_eq, Int.not_lt, Int.not_le] at c1
    refine AWP_skip ?_
    simp only [go_sem]
    refine hK10 _ ?_
    refine AWP_seq_k fun K13 hK13 => ?_
    refine AWP_region (G := G) (T := T_clones) T_clones_ok ?_
    simp only [go_sem]
    repeat (with_reducible refine And.intro (by first | omega | exact ⟨rfl, by omega, by omega, by omega⟩) ?_)
    refine hK13 _ ?_
    refine AWP_ret ?_
    simp only [hres, go_sem]
    first
      | exact finOk_mk (by rfl) (by decide)
      | refine ⟨?_, finOk_mk (by rfl) (by decide)⟩
        have hk2 : k = fr.length := by omega
        clear hK1 hK2 hK3 hK4 hL5 hK6 hK7 hK10 hK11 hK13
        subst hk2
        simp_all [shiftN, plus]

theorem shiftedNode_fn : FnOk Try.prog 131 := fnOk_of Try.func131 rfl (by decide)

def T_shiftedNode : Tab := fun f => if f = 131 then some (.p K_shiftedNode) else T_clones f
theorem T_shiftedNode_ok : TabOk Try.prog T_shiftedNode := fun f k h => by
  unfold T_shiftedNode at h
  split at h
  · rename_i e; cases h; subst e; exact ⟨shiftedNode_ok, shiftedNode_fn⟩
  · exact T_clones_ok f k h
attribute [go_sem] T_shiftedNode K_shiftedNode

end Go.Proofs.Ythglggjgjlmhlaa
