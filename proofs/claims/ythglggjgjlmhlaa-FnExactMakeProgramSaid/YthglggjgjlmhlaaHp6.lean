/-
  Contracts of functions: markInstrS, heldInstrS, heldProgram, markProgram.
-/
import Derived.Test.YthglggjgjlmhlaaHl3
import Derived.Test.YthglggjgjlmhlaaPk
namespace Go.Proofs.Ythglggjgjlmhlaa
open Go.RowKit
set_option linter.unusedSimpArgs false
set_option linter.unusedVariables false

def K_markXs : GCon where
  ps := [.ow 0, .val (.int .i64)]
  os := [.tree 174 (.prod (.int .i64) (.prod (.int .i64) (.prod (.int .i64) (.prod (.int .i64) (.prod (.row 2 (.int .i64)) (.int .i64))))))]
  c := fun x => mkOk x.1.2.1 (cntA ctX x.2.1)
  r := fun x => .c (.sc (.int .i64 (x.1.2.1 + ((cntA ctX x.2.1 : Nat) : Int))))
  o := fun x => [(30, .tree 174 (.prod (.int .i64) (.prod (.int .i64) (.prod (.int .i64) (.prod (.int .i64) (.prod (.row 2 (.int .i64)) (.int .i64)))))) (markA mkX ctX x.1.2.1 x.2.1) none)]
  ok := by
    rintro ⟨⟨_, (kk : Int), _⟩, ⟨(xs : List InstrD), _⟩⟩
    exact ⟨rfl, rfl, by decide⟩
set_option maxRecDepth 100000 in
set_option maxHeartbeats 4000000 in
theorem markXs_ok : GenT Try.prog 103 K_markXs := by
  refine gen_of_body Try.func103 rfl ?_
  have hres : Try.f103.results.toList = [.tmp 4] := rfl
  rintro ⟨⟨_, (kk : Int), _⟩, ⟨(xs : List InstrD), _⟩⟩ hc hL hO
  simp only [K_markXs, lensOk, PK.lenOk, glensOk, GP.lenOk, flensOk, GO.lenOk, olensOk, Ty.lenOk, Ty.flat, Bool.and_true, Bool.true_and, Bool.and_false, Bool.false_and, true_and, and_true, implies_true, forall_const] at hL
  simp only [K_markXs, lensOk, PK.lenOk, glensOk, GP.lenOk, flensOk, GO.lenOk, olensOk, Ty.lenOk, Ty.flat, Bool.and_true, Bool.true_and, Bool.and_false, Bool.false_and, true_and, and_true, implies_true, forall_const] at hO
  simp only [K_markXs, St.init, St.initG, Try.ntmps103, go_sem] 
  obtain ⟨h1, h2⟩ := (show mkOk kk (cntA ctX xs) from hc)
  refine AWP_seq_k fun K1 hK1 => ?_
  refine AWP_region (G := G) (T := T_heldL) T_heldL_ok ?_
  simp only [go_sem]
  refine hK1 _ ?_
  refine AWP_seq_k fun K2 hK2 => ?_
  refine AWP_seq_k fun K3 hK3 => ?_
  refine AWP_region (G := G) (T := T_heldL) T_heldL_ok ?_
  simp only [go_sem]
  refine hK3 _ ?_
  refine AWP_block ?_
  refine AWP_loop_k (ι := { k : Nat // k ≤ xs.length }) (fun k => ⟨[.c (.ow 30), .c (.sc (.int .i64 (kk + (cntA ctX (xs.take k.1) : Nat)))), zz, zz, zz, .c (.sc (.int .i64 (k.1))), zz, zz, zz, zz, zz, zz, zz, zz, zz, zz, zz, zz, zz, zz, zz, zz, zz, zz, zz, zz, zz, zz, zz, zz, zz, zz, zz, zz, zz, zz, zz, zz, zz, zz, zz, zz, zz, zz, zz, zz, zz, zz, zz, zz, zz, zz, zz, zz, zz], [(30, .tree 174 (.prod (.int .i64) (.prod (.int .i64) (.prod (.int .i64) (.prod (.int .i64) (.prod (.row 2 (.int .i64)) (.int .i64)))))) (markT mkX ctX kk xs k.1) none)]⟩) (fun k => xs.length - k.1) ⟨0, by simp⟩ ?_ ?_
  ·
   refine Wk_to (by rfl) ?_
   simp (maxSteps := 2000000) only [go_sem]
   all_goals (first | rfl | ((repeat' refine And.intro ?_ ?_) <;> first | rfl | exact markT_zero.symm | (simp [cntA]; done) | (rw [markT_zero])))
  rintro ⟨k, hk⟩ K4 hL4
  have hml : (markT mkX ctX kk xs k).length = xs.length := markT_len hk
  have hma : k < xs.length → (markT mkX ctX kk xs k).getD k ((0, 0, 0, 0, [], 0) : InstrD) = xs.getD k ((0, 0, 0, 0, [], 0) : InstrD) := fun h => markT_at _ h
  have hms : k < xs.length → (markT mkX ctX kk xs k).set k (mkX (kk + (cntA ctX (xs.take k) : Nat)) (xs.getD k ((0, 0, 0, 0, [], 0) : InstrD))) = markT mkX ctX kk xs (k + 1) := fun h => markT_set _ h
  have hnx : k < xs.length → cntA ctX (xs.take (k + 1)) = cntA ctX (xs.take k) + ctX (xs.getD k ((0, 0, 0, 0, [], 0) : InstrD)) := fun h => cntA_next _ h
  have hle : cntA ctX (xs.take (k + 1)) ≤ cntA ctX xs := cntA_take _
  have hcn : ctX (xs.getD k ((0, 0, 0, 0, [], 0) : InstrD)) = 5 + (xs.getD k ((0, 0, 0, 0, [], 0) : InstrD)).2.2.2.2.1.length := rfl
  obtain ⟨C, hC⟩ : ∃ C : Nat, C = cntA ctX (xs.take k) := ⟨_, rfl⟩
  have hw1 : k < xs.length → IntKind.i64.wrap (kk + (cntA ctX (xs.take k) : Nat) + 1) = kk + (cntA ctX (xs.take k) : Nat) + 1 := fun h => wrapI (by have := hnx h; omega)
  have hw2 : k < xs.length → IntKind.i64.wrap (kk + (cntA ctX (xs.take k) : Nat) + 1 + 1) = kk + (cntA ctX (xs.take k) : Nat) + 2 := fun h => by rw [wrapI (by have := hnx h; omega)]; omega
  have hw3 : k < xs.length → IntKind.i64.wrap (kk + (cntA ctX (xs.take k) : Nat) + 2 + 1) = kk + (cntA ctX (xs.take k) : Nat) + 3 := fun h => by rw [wrapI (by have := hnx h; omega)]; omega
  have hw4 : k < xs.length → IntKind.i64.wrap (kk + (cntA ctX (xs.take k) : Nat) + 3 + 1) = kk + (cntA ctX (xs.take k) : Nat) + 4 := fun h => by rw [wrapI (by have := hnx h; omega)]; omega
  have hw6 : k < xs.length → IntKind.i64.wrap (kk + (cntA ctX (xs.take k) : Nat) + 4 + ((xs.getD k ((0, 0, 0, 0, [], 0) : InstrD)).2.2.2.2.1.length : Int) + 1) = kk + (cntA ctX (xs.take (k + 1)) : Nat) := fun h => by rw [wrapI (by have := hnx h; omega)]; have := hnx h; omega
  refine AWP_seq_k fun K5 hK5 => ?_
  refine AWP_seq_k fun K6 hK6 => ?_
  refine AWP_region (G := G) (T := T_heldL) T_heldL_ok ?_
  simp only [go_sem]
  refine hK6 _ ?_
  refine AWP_cond rfl ?_ ?_
  ·
   intro c0
   try simp only [decide_eq_true_eq, decide_eq_false_iff_not, Bool.not_eq_true', Bool.not_eq_false', ne_eq, Int.not_lt, Int.not_le] at c0
   refine AWP_skip ?_
   simp only [go_sem]
   refine hK5 _ ?_
   refine AWP_seq_k fun K7 hK7 => ?_
   refine AWP_block ?_
   refine AWP_seq_k fun K8 hK8 => ?_
   have hma' := hma (by omega)
   have hms' := hms (by omega)
   have hw1 := hw1 (by omega)
   have hw2 := hw2 (by omega)
   have hw3 := hw3 (by omega)
   have hw4 := hw4 (by omega)
   have hw6 := hw6 (by omega)
   have hq := hnx (by omega)
   have gs : ∀ x, ((markT mkX ctX kk xs k).set k x).getD k ((0, 0, 0, 0, [], 0) : InstrD) = x := fun x => getD_setk (by omega)
   refine AWP_region (G := G) (T := T_heldL) T_heldL_ok ?_
   simp (maxSteps := 2000000) only [List.nodup_nil, gs, List.set_set, hma', hml, List.length_set, hw1, hw2, hw3, hw4, hw6, go_sem]
   repeat (with_reducible refine And.intro (by first | omega | exact ⟨rfl, by omega, by omega, by omega⟩ | first | exact ⟨by omega, by omega⟩ | (refine ⟨?_, ?_⟩ <;> omega)) ?_)
   refine hK8 _ ?_
   refine AWP_seq_k fun K9 hK9 => ?_
   refine AWP_region (G := G) (T := T_heldL) T_heldL_ok ?_
   simp only [List.nodup_nil, gs, List.set_set, hma', hml, List.length_set, hw1, hw2, hw3, hw4, hw6, go_sem]
   repeat (with_reducible refine And.intro (by first | omega | exact ⟨rfl, by omega, by omega, by omega⟩ | first | exact ⟨by omega, by omega⟩ | (refine ⟨?_, ?_⟩ <;> omega)) ?_)
   refine hK9 _ ?_
   refine AWP_seq_k fun K10 hK10 => ?_
   refine AWP_region (G := G) (T := T_heldL) T_heldL_ok ?_
   simp (maxSteps := 2000000) only [List.nodup_nil, gs, List.set_set, hma', hml, List.length_set, hw1, hw2, hw3, hw4, hw6, go_sem]
   repeat (with_reducible refine And.intro (by first | omega | exact ⟨rfl, by omega, by omega, by omega⟩ | first | exact ⟨by omega, by omega⟩ | (refine ⟨?_, ?_⟩ <;> omega)) ?_)
   refine hK10 _ ?_
   refine AWP_seq_k fun K11 hK11 => ?_
   refine AWP_region (G := G) (T := T_heldL) T_heldL_ok ?_
   simp only [List.nodup_nil, gs, List.set_set, hma', hml, List.length_set, hw1, hw2, hw3, hw4, hw6, go_sem]
   repeat (with_reducible refine And.intro (by first | omega | exact ⟨rfl, by omega, by omega, by omega⟩ | first | exact ⟨by omega, by omega⟩ | (refine ⟨?_, ?_⟩ <;> omega)) ?_)
   refine hK11 _ ?_
   refine AWP_seq_k fun K12 hK12 => ?_
   refine AWP_region (G := G) (T := T_heldL) T_heldL_ok ?_
   simp (maxSteps := 2000000) only [List.nodup_nil, gs, List.set_set, hma', hml, List.length_set, hw1, hw2, hw3, hw4, hw6, go_sem]
   repeat (with_reducible refine And.intro (by first | omega | exact ⟨rfl, by omega, by omega, by omega⟩ | first | exact ⟨by omega, by omega⟩ | (refine ⟨?_, ?_⟩ <;> omega)) ?_)
   refine hK12 _ ?_
   refine AWP_seq_k fun K13 hK13 => ?_
   refine AWP_region (G := G) (T := T_heldL) T_heldL_ok ?_
   simp only [List.nodup_nil, gs, List.set_set, hma', hml, List.length_set, hw1, hw2, hw3, hw4, hw6, go_sem]
   repeat (with_reducible refine And.intro (by first | omega | exact ⟨rfl, by omega, by omega, by omega⟩ | first | exact ⟨by omega, by omega⟩ | (refine ⟨?_, ?_⟩ <;> omega)) ?_)
   refine hK13 _ ?_
   refine AWP_seq_k fun K14 hK14 => ?_
   refine AWP_region (G := G) (T := T_heldL) T_heldL_ok ?_
   simp (maxSteps := 2000000) only [List.nodup_nil, gs, List.set_set, hma', hml, List.length_set, hw1, hw2, hw3, hw4, hw6, go_sem]
   repeat (with_reducible refine And.intro (by first | omega | exact ⟨rfl, by omega, by omega, by omega⟩ | first | exact ⟨by omega, by omega⟩ | (refine ⟨?_, ?_⟩ <;> omega)) ?_)
   refine hK14 _ ?_
   refine AWP_seq_k fun K15 hK15 => ?_
   refine AWP_region (G := G) (T := T_heldL) T_heldL_ok ?_
   simp only [List.nodup_nil, gs, List.set_set, hma', hml, List.length_set, hw1, hw2, hw3, hw4, hw6, go_sem]
   repeat (with_reducible refine And.intro (by first | omega | exact ⟨rfl, by omega, by omega, by omega⟩ | first | exact ⟨by omega, by omega⟩ | (refine ⟨?_, ?_⟩ <;> omega)) ?_)
   refine hK15 _ ?_
   refine AWP_seq_k fun K16 hK16 => ?_
   refine AWP_region (G := G) (T := T_heldL) T_heldL_ok ?_
   simp (maxSteps := 2000000) only [List.nodup_nil, gs, List.set_set, hma', hml, List.length_set, hw1, hw2, hw3, hw4, hw6, go_sem]
   repeat (with_reducible refine And.intro (by first | omega | exact ⟨rfl, by omega, by omega, by omega⟩ | first | exact ⟨by omega, by omega⟩ | (refine ⟨?_, ?_⟩ <;> omega)) ?_)
   refine hK16 _ ?_
   refine AWP_seq_k fun K17 hK17 => ?_
   refine AWP_region (G := G) (T := T_heldL) T_heldL_ok ?_
   simp (maxSteps := 2000000) only [List.nodup_nil, gs, List.set_set, hma', hml, List.length_set, hw1, hw2, hw3, hw4, hw6, go_sem]
   repeat (with_reducible refine And.intro (by first | omega | exact ⟨rfl, by omega, by omega, by omega⟩ | first | exact ⟨by omega, by omega⟩ | (refine ⟨?_, ?_⟩ <;> omega)) ?_)
   refine hK17 _ ?_
   refine AWP_region (G := G) (T := T_heldL) T_heldL_ok ?_
   simp only [List.nodup_nil, gs, List.set_set, hma', hml, List.length_set, hw1, hw2, hw3, hw4, hw6, go_sem]
   repeat (with_reducible refine And.intro (by first | omega | exact ⟨rfl, by omega, by omega, by omega⟩ | first | exact ⟨by omega, by omega⟩ | (refine ⟨?_, ?_⟩ <;> omega)) ?_)
   refine hK7 _ ?_
   refine AWP_region (G := G) (T := T_heldL) T_heldL_ok ?_
   simp only [go_sem]
   refine hL4 ⟨k + 1, by omega⟩ _ (Wk_to (by rfl) ?_) ?_
   ·
    simp (maxSteps := 2000000) only [go_sem]
    all_goals (first | rfl | ((repeat' refine And.intro ?_ ?_) <;> first | rfl | exact wk (by omega) | (congr 1; done) | omega))
   ·
    first | (simp only []; omega) | omega | (simp; omega)
  ·
   intro c0
   try simp only [decide_eq_true_eq, decide_eq_false_iff_not, Bool.not_eq_true', Bool.not_eq_false', ne_eq, Int.not_lt, Int.not_le] at c0
   refine AWP_exit ?_
   simp only [go_sem]
   refine hK2 _ ?_
   refine AWP_seq_k fun K18 hK18 => ?_
   refine AWP_region (G := G) (T := T_heldL) T_heldL_ok ?_
   simp only [go_sem]
   refine hK18 _ ?_
   refine AWP_ret ?_
   simp only [hres, go_sem]
   first
     | exact finOkG_mk (by rfl)
     | refine ⟨finOkG_mk (by rfl), ?_⟩
       have hk3 : cntA ctX (xs.take k) = cntA ctX xs := by rw [List.take_of_length_le (l := xs) (i := k) (by omega)]
       (repeat' refine And.intro ?_ ?_) <;> first | rfl | exact markT_all (by omega) | (congr 1; exact markT_all (by omega)) | (rw [hk3]) | omega

theorem markXs_fn : FnOk Try.prog 103 := fnOk_of Try.func103 rfl (by decide)

def T_markXs : Tab := fun f => if f = 103 then some (.g K_markXs) else T_heldL f
theorem T_markXs_ok : TabOk Try.prog T_markXs := fun f k h => by
  unfold T_markXs at h
  split at h
  · rename_i e; cases h; subst e; exact ⟨markXs_ok, markXs_fn⟩
  · exact T_heldL_ok f k h
attribute [go_sem] T_markXs K_markXs


def K_heldXs : Con := ⟨[.val ((.row 174 (.prod (.int .i64) (.prod (.int .i64) (.prod (.int .i64) (.prod (.int .i64) (.prod (.row 2 (.int .i64)) (.int .i64)))))))), .val (.int .i64)], [⟨.int .i64, true⟩], fun x => mkOk x.2.1 (cntA ctX x.1), fun x => heldA mkX ctX x.2.1 x.1⟩
set_option maxRecDepth 100000 in
set_option maxHeartbeats 4000000 in
theorem heldXs_ok : PureT Try.prog 104 K_heldXs := by
  refine pure_of_body Try.func104 rfl ?_
  have hres : Try.f104.results.toList = [.tmp 4] := rfl
  rintro ⟨(xs : List InstrD), (kk : Int), _⟩ hc hL
  simp only [K_heldXs, lensOk, PK.lenOk, glensOk, GP.lenOk, flensOk, GO.lenOk, olensOk, Ty.lenOk, Ty.flat, Bool.and_true, Bool.true_and, Bool.and_false, Bool.false_and, true_and, and_true, implies_true, forall_const] at hL
  obtain ⟨lxs, lxs2⟩ := hL
  simp only [K_heldXs, St.init, St.initG, Try.ntmps104, go_sem] 
  obtain ⟨h1, h2⟩ := (show mkOk kk (cntA ctX xs) from hc)
  refine AWP_seq_k fun K1 hK1 => ?_
  refine AWP_region (G := G) (T := T_markXs) T_markXs_ok ?_
  simp only [go_sem]
  refine hK1 _ ?_
  refine AWP_seq_k fun K2 hK2 => ?_
  refine AWP_seq_k fun K3 hK3 => ?_
  refine AWP_region (G := G) (T := T_markXs) T_markXs_ok ?_
  simp only [go_sem]
  refine hK3 _ ?_
  refine AWP_block ?_
  refine AWP_loop_k (ι := { k : Nat // k ≤ xs.length ∧ xs.take k = markA mkX ctX kk (xs.take k) }) (fun k => ⟨[.c (.rd [] 174 ((.prod (.int .i64) (.prod (.int .i64) (.prod (.int .i64) (.prod (.int .i64) (.prod (.row 2 (.int .i64)) (.int .i64))))))) (xs)), .c (.sc (.int .i64 (kk + (cntA ctX (xs.take k.1) : Nat)))), zz, zz, zz, .c (.sc (.int .i64 (k.1))), zz, zz, zz, zz, zz, zz, zz, zz, zz, zz, zz, zz, zz, zz, zz, zz, zz, zz, zz, zz, zz, zz, zz, zz, zz, zz, zz, zz, zz, zz, zz, zz, zz, zz, zz, zz, zz, zz, zz, zz, zz, zz, zz, zz, zz, zz, zz, zz, zz, zz, zz, zz, zz, zz, zz, zz, zz, zz, zz, zz, zz], []⟩) (fun k => xs.length - k.1) ⟨0, by simp, by simp [markA]⟩ ?_ ?_
  ·
   refine Wk_to (by rfl) ?_
   simp (maxSteps := 2000000) only [go_sem]
   all_goals (first | rfl | ((repeat' refine And.intro ?_ ?_) <;> first | rfl | (simp [cntA]; done)))
  rintro ⟨k, hk, hp⟩ K4 hL4
  have hnx : k < xs.length → cntA ctX (xs.take (k + 1)) = cntA ctX (xs.take k) + ctX (xs.getD k ((0, 0, 0, 0, [], 0) : InstrD)) := fun h => cntA_next _ h
  have hle : cntA ctX (xs.take (k + 1)) ≤ cntA ctX xs := cntA_take _
  have hcn : ctX (xs.getD k ((0, 0, 0, 0, [], 0) : InstrD)) = 5 + (xs.getD k ((0, 0, 0, 0, [], 0) : InstrD)).2.2.2.2.1.length := rfl
  have hci : cntA ctI (xs.getD k ((0, 0, 0, 0, [], 0) : InstrD)).2.2.2.2.1 = (xs.getD k ((0, 0, 0, 0, [], 0) : InstrD)).2.2.2.2.1.length := cntI _
  have hw1 : k < xs.length → IntKind.i64.wrap (kk + (cntA ctX (xs.take k) : Nat) + 1) = kk + (cntA ctX (xs.take k) : Nat) + 1 := fun h => wrapI (by have := hnx h; omega)
  have hw2 : k < xs.length → IntKind.i64.wrap (kk + (cntA ctX (xs.take k) : Nat) + 1 + 1) = kk + (cntA ctX (xs.take k) : Nat) + 2 := fun h => by rw [wrapI (by have := hnx h; omega)]; omega
  have hw3 : k < xs.length → IntKind.i64.wrap (kk + (cntA ctX (xs.take k) : Nat) + 2 + 1) = kk + (cntA ctX (xs.take k) : Nat) + 3 := fun h => by rw [wrapI (by have := hnx h; omega)]; omega
  have hw4 : k < xs.length → IntKind.i64.wrap (kk + (cntA ctX (xs.take k) : Nat) + 3 + 1) = kk + (cntA ctX (xs.take k) : Nat) + 4 := fun h => by rw [wrapI (by have := hnx h; omega)]; omega
  have hw6 : k < xs.length → IntKind.i64.wrap (kk + (cntA ctX (xs.take k) : Nat) + 4 + ((xs.getD k ((0, 0, 0, 0, [], 0) : InstrD)).2.2.2.2.1.length : Int) + 1) = kk + (cntA ctX (xs.take (k + 1)) : Nat) := fun h => by rw [wrapI (by have := hnx h; omega)]; have := hnx h; omega
  refine AWP_seq_k fun K5 hK5 => ?_
  refine AWP_seq_k fun K6 hK6 => ?_
  refine AWP_region (G := G) (T := T_markXs) T_markXs_ok ?_
  simp only [go_sem]
  refine hK6 _ ?_
  refine AWP_cond rfl ?_ ?_
  ·
   intro c0
   try simp only [decide_eq_true_eq, decide_eq_false_iff_not, Bool.not_eq_true', Bool.not_eq_false', ne_eq, Int.not_lt, Int.not_le] at c0
   refine AWP_skip ?_
   simp only [go_sem]
   refine hK5 _ ?_
   refine AWP_seq_k fun K7 hK7 => ?_
   refine AWP_block ?_
   refine AWP_seq_k fun K8 hK8 => ?_
   refine AWP_seq_k fun K9 hK9 => ?_
   have hw1 := hw1 (by omega)
   have hw2 := hw2 (by omega)
   have hw3 := hw3 (by omega)
   have hw4 := hw4 (by omega)
   have hw6 := hw6 (by omega)
   have hqn := hnx (by omega)
   refine AWP_region (G := G) (T := T_markXs) T_markXs_ok ?_
   simp (maxSteps := 2000000) only [hw1, hw2, hw3, hw4, hw6, go_sem]
   repeat (with_reducible refine And.intro (by first | omega | exact ⟨rfl, by omega, by omega, by omega⟩ | first | exact ⟨by omega, by omega⟩ | (rw [hci]; exact ⟨by omega, by omega⟩)) ?_)
   refine hK9 _ ?_
   refine AWP_cond rfl ?_ ?_
   ·
    intro c1
    try simp only [decide_eq_true_eq, decide_eq_false_iff_not, Bool.not_eq_true', Bool.not_eq_false', ne_eq, Int.not_lt, Int.not_le] at c1
    refine AWP_seq_k fun K10 hK10 => ?_
    refine AWP_region (G := G) (T := T_markXs) T_markXs_ok ?_
    simp only [go_sem]
    refine hK10 _ ?_
    refine AWP_ret ?_
    simp only [hres, go_sem]
    first
      | exact finOk_mk (by rfl) (by decide)
      | refine ⟨?_, finOk_mk (by rfl) (by decide)⟩
        exact (held_stop ((0, 0, 0, 0, [], 0) : InstrD) (m := k) (by omega) (fun e => c1 (congrArg (fun (z : InstrD) => z.1) e))).symm
   ·
    intro c1
    try simp only [decide_eq_true_eq, decide_eq_false_iff_not, Bool.not_eq_true', Bool.not_eq_false', ne_eq, Int.not_lt, Int.not_le] at c1
    refine AWP_skip ?_
    simp only [go_sem]
    refine hK8 _ ?_
    refine AWP_seq_k fun K11 hK11 => ?_
    refine AWP_region (G := G) (T := T_markXs) T_markXs_ok ?_
    simp only [hw1, hw2, hw3, hw4, hw6, go_sem]
    repeat (with_reducible refine And.intro (by first | omega | exact ⟨rfl, by omega, by omega, by omega⟩ | first | exact ⟨by omega, by omega⟩ | (rw [hci]; exact ⟨by omega, by omega⟩)) ?_)
    refine hK11 _ ?_
    refine AWP_seq_k fun K12 hK12 => ?_
    refine AWP_seq_k fun K13 hK13 => ?_
    refine AWP_region (G := G) (T := T_markXs) T_markXs_ok ?_
    simp (maxSteps := 2000000) only [hw1, hw2, hw3, hw4, hw6, go_sem]
    repeat (with_reducible refine And.intro (by first | omega | exact ⟨rfl, by omega, by omega, by omega⟩ | first | exact ⟨by omega, by omega⟩ | (rw [hci]; exact ⟨by omega, by omega⟩)) ?_)
    refine hK13 _ ?_
    refine AWP_cond rfl ?_ ?_
    ·
     intro c2
     try simp only [decide_eq_true_eq, decide_eq_false_iff_not, Bool.not_eq_true', Bool.not_eq_false', ne_eq, Int.not_lt, Int.not_le] at c2
     refine AWP_seq_k fun K14 hK14 => ?_
     refine AWP_region (G := G) (T := T_markXs) T_markXs_ok ?_
     simp only [go_sem]
     refine hK14 _ ?_
     refine AWP_ret ?_
     simp only [hres, go_sem]
     first
       | exact finOk_mk (by rfl) (by decide)
       | refine ⟨?_, finOk_mk (by rfl) (by decide)⟩
         exact (held_stop ((0, 0, 0, 0, [], 0) : InstrD) (m := k) (by omega) (fun e => c2 (congrArg (fun (z : InstrD) => z.2.1) e))).symm
    ·
     intro c2
     try simp only [decide_eq_true_eq, decide_eq_false_iff_not, Bool.not_eq_true', Bool.not_eq_false', ne_eq, Int.not_lt, Int.not_le] at c2
     refine AWP_skip ?_
     simp only [go_sem]
     refine hK12 _ ?_
     refine AWP_seq_k fun K15 hK15 => ?_
     refine AWP_region (G := G) (T := T_markXs) T_markXs_ok ?_
     simp only [hw1, hw2, hw3, hw4, hw6, go_sem]
     repeat (with_reducible refine And.intro (by first | omega | exact ⟨rfl, by omega, by omega, by omega⟩ | first | exact ⟨by omega, by omega⟩ | (rw [hci]; exact ⟨by omega, by omega⟩)) ?_)
     refine hK15 _ ?_
     refine AWP_seq_k fun K16 hK16 => ?_
     refine AWP_seq_k fun K17 hK17 => ?_
     refine AWP_region (G := G) (T := T_markXs) T_markXs_ok ?_
     simp (maxSteps := 2000000) only [hw1, hw2, hw3, hw4, hw6, go_sem]
     repeat (with_reducible refine And.intro (by first | omega | exact ⟨rfl, by omega, by omega, by omega⟩ | first | exact ⟨by omega, by omega⟩ | (rw [hci]; exact ⟨by omega, by omega⟩)) ?_)
     refine hK17 _ ?_
     refine AWP_cond rfl ?_ ?_
     ·
      intro c3
      try simp only [decide_eq_true_eq, decide_eq_false_iff_not, Bool.not_eq_true', Bool.not_eq_false', ne_eq, Int.not_lt, Int.not_le] at c3
      refine AWP_seq_k fun K18 hK18 => ?_
      refine AWP_region (G := G) (T := T_markXs) T_markXs_ok ?_
      simp only [go_sem]
      refine hK18 _ ?_
      refine AWP_ret ?_
      simp only [hres, go_sem]
      first
        | exact finOk_mk (by rfl) (by decide)
        | refine ⟨?_, finOk_mk (by rfl) (by decide)⟩
          exact (held_stop ((0, 0, 0, 0, [], 0) : InstrD) (m := k) (by omega) (fun e => c3 (congrArg (fun (z : InstrD) => z.2.2.1) e))).symm
     ·
      intro c3
      try simp only [decide_eq_true_eq, decide_eq_false_iff_not, Bool.not_eq_true', Bool.not_eq_false', ne_eq, Int.not_lt, Int.not_le] at c3
      refine AWP_skip ?_
      simp only [go_sem]
      refine hK16 _ ?_
      refine AWP_seq_k fun K19 hK19 => ?_
      refine AWP_region (G := G) (T := T_markXs) T_markXs_ok ?_
      simp only [hw1, hw2, hw3, hw4, hw6, go_sem]
      repeat (with_reducible refine And.intro (by first | omega | exact ⟨rfl, by omega, by omega, by omega⟩ | first | exact ⟨by omega, by omega⟩ | (rw [hci]; exact ⟨by omega, by omega⟩)) ?_)
      refine hK19 _ ?_
      refine AWP_seq_k fun K20 hK20 => ?_
      refine AWP_seq_k fun K21 hK21 => ?_
      refine AWP_region (G := G) (T := T_markXs) T_markXs_ok ?_
      simp (maxSteps := 2000000) only [hw1, hw2, hw3, hw4, hw6, go_sem]
      repeat (with_reducible refine And.intro (by first | omega | exact ⟨rfl, by omega, by omega, by omega⟩ | first | exact ⟨by omega, by omega⟩ | (rw [hci]; exact ⟨by omega, by omega⟩)) ?_)
      refine hK21 _ ?_
      refine AWP_cond rfl ?_ ?_
      ·
       intro c4
       try simp only [decide_eq_true_eq, decide_eq_false_iff_not, Bool.not_eq_true', Bool.not_eq_false', ne_eq, Int.not_lt, Int.not_le] at c4
       have hto : True := trivial
       refine AWP_seq_k fun K22 hK22 => ?_
       refine AWP_region (G := G) (T := T_markXs) T_markXs_ok ?_
       simp only [go_sem]
       refine hK22 _ ?_
       refine AWP_ret ?_
       simp only [hres, go_sem]
       first
         | exact finOk_mk (by rfl) (by decide)
         | refine ⟨?_, finOk_mk (by rfl) (by decide)⟩
           exact (held_stop ((0, 0, 0, 0, [], 0) : InstrD) (m := k) (by omega) (fun e => c4 (congrArg (fun (z : InstrD) => z.2.2.2.1) e))).symm
      ·
       intro c4
       try simp only [decide_eq_true_eq, decide_eq_false_iff_not, Bool.not_eq_true', Bool.not_eq_false', ne_eq, Int.not_lt, Int.not_le] at c4
       refine AWP_skip ?_
       simp only [go_sem]
       refine hK20 _ ?_
       refine AWP_seq_k fun K23 hK23 => ?_
       refine AWP_region (G := G) (T := T_markXs) T_markXs_ok ?_
       simp only [hw1, hw2, hw3, hw4, hw6, go_sem]
       repeat (with_reducible refine And.intro (by first | omega | exact ⟨rfl, by omega, by omega, by omega⟩ | first | exact ⟨by omega, by omega⟩ | (rw [hci]; exact ⟨by omega, by omega⟩)) ?_)
       refine hK23 _ ?_
       refine AWP_seq_k fun K24 hK24 => ?_
       refine AWP_region (G := G) (T := T_markXs) T_markXs_ok ?_
       simp (maxSteps := 2000000) only [hw1, hw2, hw3, hw4, hw6, go_sem]
       repeat (with_reducible refine And.intro (by first | omega | exact ⟨rfl, by omega, by omega, by omega⟩ | first | exact ⟨by omega, by omega⟩ | (rw [hci]; exact ⟨by omega, by omega⟩)) ?_)
       refine hK24 _ ?_
       refine AWP_seq_k fun K25 hK25 => ?_
       refine AWP_seq_k fun K26 hK26 => ?_
       refine AWP_region (G := G) (T := T_markXs) T_markXs_ok ?_
       simp only [hw1, hw2, hw3, hw4, hw6, go_sem]
       repeat (with_reducible refine And.intro (by first | omega | exact ⟨rfl, by omega, by omega, by omega⟩ | first | exact ⟨by omega, by omega⟩ | (rw [hci]; exact ⟨by omega, by omega⟩)) ?_)
       refine hK26 _ ?_
       refine AWP_cond rfl ?_ ?_
       ·
        intro c5
        try simp only [decide_eq_true_eq, decide_eq_false_iff_not, Bool.not_eq_true', Bool.not_eq_false', ne_eq, Int.not_lt, Int.not_le] at c5
        obtain ⟨e1, e2⟩ := heldA_neg (by omega) c5
        refine AWP_seq_k fun K27 hK27 => ?_
        refine AWP_region (G := G) (T := T_markXs) T_markXs_ok ?_
        simp only [go_sem]
        refine hK27 _ ?_
        refine AWP_ret ?_
        simp only [hres, go_sem]
        first
          | exact finOk_mk (by rfl) (by decide)
          | refine ⟨?_, finOk_mk (by rfl) (by decide)⟩
            exact (held_stop ((0, 0, 0, 0, [], 0) : InstrD) (m := k) (by omega) (fun e => e2 (congrArg (fun (z : InstrD) => z.2.2.2.2.1) e))).symm
       ·
        intro c5
        try simp only [decide_eq_true_eq, decide_eq_false_iff_not, Bool.not_eq_true', Bool.not_eq_false', ne_eq, Int.not_lt, Int.not_le] at c5
        obtain ⟨e1, e2⟩ := heldA_pos c5
        have hto : kk + (cntA ctX (xs.take k) : Nat) + 4 + ((xs.getD k ((0, 0, 0, 0, [], 0) : InstrD)).2.2.2.2.1.length : Int) = heldA mkI ctI (kk + (cntA ctX (xs.take k) : Nat) + 4) (xs.getD k ((0, 0, 0, 0, [], 0) : InstrD)).2.2.2.2.1 := by rw [e1, hci]
        refine AWP_skip ?_
        simp only [go_sem]
        refine hK25 _ ?_
        refine AWP_seq_k fun K28 hK28 => ?_
        refine AWP_seq_k fun K29 hK29 => ?_
        refine AWP_region (G := G) (T := T_markXs) T_markXs_ok ?_
        simp (maxSteps := 2000000) only [hw1, hw2, hw3, hw4, hw6, go_sem]
        repeat (with_reducible refine And.intro (by first | omega | exact ⟨rfl, by omega, by omega, by omega⟩ | first | exact ⟨by omega, by omega⟩ | (rw [hci]; exact ⟨by omega, by omega⟩)) ?_)
        refine hK29 _ ?_
        refine AWP_cond rfl ?_ ?_
        ·
         intro c6
         try simp only [decide_eq_true_eq, decide_eq_false_iff_not, Bool.not_eq_true', Bool.not_eq_false', ne_eq, Int.not_lt, Int.not_le] at c6
         refine AWP_seq_k fun K30 hK30 => ?_
         refine AWP_region (G := G) (T := T_markXs) T_markXs_ok ?_
         simp only [go_sem]
         refine hK30 _ ?_
         refine AWP_ret ?_
         simp only [hres, go_sem]
         first
           | exact finOk_mk (by rfl) (by decide)
           | refine ⟨?_, finOk_mk (by rfl) (by decide)⟩
             exact (held_stop ((0, 0, 0, 0, [], 0) : InstrD) (m := k) (by omega) (fun e => c6 ((congrArg (fun (z : InstrD) => z.2.2.2.2.2) e).trans hto))).symm
        ·
         intro c6
         try simp only [decide_eq_true_eq, decide_eq_false_iff_not, Bool.not_eq_true', Bool.not_eq_false', ne_eq, Int.not_lt, Int.not_le] at c6
         have hq : (xs.getD k ((0, 0, 0, 0, [], 0) : InstrD)) = mkX (kk + (cntA ctX (xs.take k) : Nat)) (xs.getD k ((0, 0, 0, 0, [], 0) : InstrD)) := Prod.ext c1 (Prod.ext c2 (Prod.ext c3 (Prod.ext c4 (Prod.ext e2 (c6.trans hto.symm)))))
         refine AWP_skip ?_
         simp only [go_sem]
         refine hK28 _ ?_
         refine AWP_region (G := G) (T := T_markXs) T_markXs_ok ?_
         simp only [hw1, hw2, hw3, hw4, hw6, go_sem]
         repeat (with_reducible refine And.intro (by first | omega | exact ⟨rfl, by omega, by omega, by omega⟩ | first | exact ⟨by omega, by omega⟩ | (rw [hci]; exact ⟨by omega, by omega⟩)) ?_)
         refine hK7 _ ?_
         refine AWP_region (G := G) (T := T_markXs) T_markXs_ok ?_
         simp only [go_sem]
         refine hL4 ⟨k + 1, by omega, held_next ((0, 0, 0, 0, [], 0) : InstrD) (by omega) hp hq⟩ _ (Wk_to (by rfl) ?_) ?_
         ·
          simp (maxSteps := 2000000) only [go_sem]
          all_goals (first | rfl | ((repeat' refine And.intro ?_ ?_) <;> first | rfl | exact wk (by omega) | (rw [e1, hci, hw6]; done) | (rw [e1, hqn]; omega) | omega))
         ·
          first | (simp only []; omega) | omega | (simp; omega)
  ·
   intro c0
   try simp only [decide_eq_true_eq, decide_eq_false_iff_not, Bool.not_eq_true', Bool.not_eq_false', ne_eq, Int.not_lt, Int.not_le] at c0
   refine AWP_exit ?_
   simp only [go_sem]
   refine hK2 _ ?_
   refine AWP_seq_k fun K31 hK31 => ?_
   refine AWP_region (G := G) (T := T_markXs) T_markXs_ok ?_
   simp only [go_sem]
   refine hK31 _ ?_
   refine AWP_ret ?_
   simp only [hres, go_sem]
   first
     | exact finOk_mk (by rfl) (by decide)
     | refine ⟨?_, finOk_mk (by rfl) (by decide)⟩
       rw [held_done (m := k) (by omega) hp, List.take_of_length_le (by omega)]

theorem heldXs_fn : FnOk Try.prog 104 := fnOk_of Try.func104 rfl (by decide)

def T_heldXs : Tab := fun f => if f = 104 then some (.p K_heldXs) else T_markXs f
theorem T_heldXs_ok : TabOk Try.prog T_heldXs := fun f k h => by
  unfold T_heldXs at h
  split at h
  · rename_i e; cases h; subst e; exact ⟨heldXs_ok, heldXs_fn⟩
  · exact T_markXs_ok f k h
attribute [go_sem] T_heldXs K_heldXs


def K_heldG : Con := ⟨[.val ((.prod (.int .i64) (.prod (.int .i64) (.prod (.row 24 (.row 2 (.int .i64))) (.prod (.row 174 (.prod (.int .i64) (.prod (.int .i64) (.prod (.int .i64) (.prod (.int .i64) (.prod (.row 2 (.int .i64)) (.int .i64))))))) (.row 2 (.int .i64))))))), .val (.int .i64)], [⟨.int .i64, true⟩], fun x => mkOk x.2.1 (ctG x.1), fun x => heldG x.2.1 x.1⟩
set_option maxRecDepth 100000 in
set_option maxHeartbeats 1000000 in
theorem heldG_ok : PureT Try.prog 55 K_heldG := by
  refine pure_of_body Try.func55 rfl ?_
  have hres : Try.f55.results.toList = [.tmp 4] := rfl
  rintro ⟨⟨(pi : Int), (rg : Int), (ts : List (List Int)), (xs : List InstrD), (os : List Int)⟩, (kk : Int), _⟩ hc hL
  simp only [K_heldG, lensOk, PK.lenOk, glensOk, GP.lenOk, flensOk, GO.lenOk, olensOk, Ty.lenOk, Ty.flat, Bool.and_true, Bool.true_and, Bool.and_false, Bool.false_and, true_and, and_true, implies_true, forall_const] at hL
  simp only [K_heldG, St.init, St.initG, Try.ntmps55, go_sem] 
  obtain ⟨h1, h2⟩ := (show mkOk kk (ctG (pi, rg, ts, xs, os)) from hc)
  have hcp : ctG (pi, rg, ts, xs, os) = cntA List.length ts + cntA ctX xs + os.length := rfl
  have hci : cntA ctI os = os.length := cntI _
  refine AWP_seq_k fun K1 hK1 => ?_
  refine AWP_region (G := G) (T := T_heldXs) T_heldXs_ok ?_
  simp only [go_sem]
  repeat (with_reducible refine And.intro (by first | omega | exact ⟨rfl, by omega, by omega, by omega⟩ | first | exact ⟨by omega, by omega⟩ | (rw [hci]; exact ⟨by omega, by omega⟩)) ?_)
  refine hK1 _ ?_
  refine AWP_seq_k fun K2 hK2 => ?_
  refine AWP_region (G := G) (T := T_heldXs) T_heldXs_ok ?_
  simp (maxSteps := 2000000) only [go_sem]
  repeat (with_reducible refine And.intro (by first | omega | exact ⟨rfl, by omega, by omega, by omega⟩ | first | exact ⟨by omega, by omega⟩ | (rw [hci]; exact ⟨by omega, by omega⟩)) ?_)
  refine hK2 _ ?_
  refine AWP_seq_k fun K3 hK3 => ?_
  refine AWP_seq_k fun K4 hK4 => ?_
  refine AWP_region (G := G) (T := T_heldXs) T_heldXs_ok ?_
  simp only [go_sem]
  repeat (with_reducible refine And.intro (by first | omega | exact ⟨rfl, by omega, by omega, by omega⟩ | first | exact ⟨by omega, by omega⟩ | (rw [hci]; exact ⟨by omega, by omega⟩)) ?_)
  refine hK4 _ ?_
  refine AWP_cond rfl ?_ ?_
  ·
   intro c0
   try simp only [decide_eq_true_eq, decide_eq_false_iff_not, Bool.not_eq_true', Bool.not_eq_false', ne_eq, Int.not_lt, Int.not_le] at c0
   obtain ⟨e1, e2⟩ := heldA_neg (by omega) c0
   refine AWP_seq_k fun K5 hK5 => ?_
   refine AWP_region (G := G) (T := T_heldXs) T_heldXs_ok ?_
   simp only [go_sem]
   repeat (with_reducible refine And.intro (by first | omega | exact ⟨rfl, by omega, by omega, by omega⟩ | first | exact ⟨by omega, by omega⟩ | (rw [hci]; exact ⟨by omega, by omega⟩)) ?_)
   refine hK5 _ ?_
   refine AWP_ret ?_
   simp only [hres, go_sem]
   first
     | exact finOk_mk (by rfl) (by decide)
     | refine ⟨?_, finOk_mk (by rfl) (by decide)⟩
       exact (heldG_f1 e2).symm
  ·
   intro c0
   try simp only [decide_eq_true_eq, decide_eq_false_iff_not, Bool.not_eq_true', Bool.not_eq_false', ne_eq, Int.not_lt, Int.not_le] at c0
   obtain ⟨e1, e2⟩ := heldA_pos c0
   refine AWP_skip ?_
   simp only [go_sem]
   refine hK3 _ ?_
   refine AWP_seq_k fun K6 hK6 => ?_
   refine AWP_region (G := G) (T := T_heldXs) T_heldXs_ok ?_
   simp (maxSteps := 2000000) only [go_sem]
   repeat (with_reducible refine And.intro (by first | omega | exact ⟨rfl, by omega, by omega, by omega⟩ | first | exact ⟨by omega, by omega⟩ | (rw [hci]; exact ⟨by omega, by omega⟩)) ?_)
   refine hK6 _ ?_
   refine AWP_seq_k fun K7 hK7 => ?_
   refine AWP_seq_k fun K8 hK8 => ?_
   refine AWP_region (G := G) (T := T_heldXs) T_heldXs_ok ?_
   simp only [go_sem]
   repeat (with_reducible refine And.intro (by first | omega | exact ⟨rfl, by omega, by omega, by omega⟩ | first | exact ⟨by omega, by omega⟩ | (rw [hci]; exact ⟨by omega, by omega⟩)) ?_)
   refine hK8 _ ?_
   refine AWP_cond rfl ?_ ?_
   ·
    intro c1
    try simp only [decide_eq_true_eq, decide_eq_false_iff_not, Bool.not_eq_true', Bool.not_eq_false', ne_eq, Int.not_lt, Int.not_le] at c1
    obtain ⟨e3, e4⟩ := heldA_neg (by omega) c1
    refine AWP_seq_k fun K9 hK9 => ?_
    refine AWP_region (G := G) (T := T_heldXs) T_heldXs_ok ?_
    simp only [go_sem]
    repeat (with_reducible refine And.intro (by first | omega | exact ⟨rfl, by omega, by omega, by omega⟩ | first | exact ⟨by omega, by omega⟩ | (rw [hci]; exact ⟨by omega, by omega⟩)) ?_)
    refine hK9 _ ?_
    refine AWP_ret ?_
    simp only [hres, go_sem]
    first
      | exact finOk_mk (by rfl) (by decide)
      | refine ⟨?_, finOk_mk (by rfl) (by decide)⟩
        exact (heldG_f2 (e1 ▸ e4)).symm
   ·
    intro c1
    try simp only [decide_eq_true_eq, decide_eq_false_iff_not, Bool.not_eq_true', Bool.not_eq_false', ne_eq, Int.not_lt, Int.not_le] at c1
    obtain ⟨e3, e4⟩ := heldA_pos c1
    refine AWP_skip ?_
    simp only [go_sem]
    refine hK7 _ ?_
    refine AWP_seq_k fun K10 hK10 => ?_
    refine AWP_region (G := G) (T := T_heldXs) T_heldXs_ok ?_
    simp (maxSteps := 2000000) only [go_sem]
    repeat (with_reducible refine And.intro (by first | omega | exact ⟨rfl, by omega, by omega, by omega⟩ | first | exact ⟨by omega, by omega⟩ | (rw [hci]; exact ⟨by omega, by omega⟩)) ?_)
    refine hK10 _ ?_
    refine AWP_seq_k fun K11 hK11 => ?_
    refine AWP_seq_k fun K12 hK12 => ?_
    refine AWP_region (G := G) (T := T_heldXs) T_heldXs_ok ?_
    simp only [go_sem]
    repeat (with_reducible refine And.intro (by first | omega | exact ⟨rfl, by omega, by omega, by omega⟩ | first | exact ⟨by omega, by omega⟩ | (rw [hci]; exact ⟨by omega, by omega⟩)) ?_)
    refine hK12 _ ?_
    refine AWP_cond rfl ?_ ?_
    ·
     intro c2
     try simp only [decide_eq_true_eq, decide_eq_false_iff_not, Bool.not_eq_true', Bool.not_eq_false', ne_eq, Int.not_lt, Int.not_le] at c2
     obtain ⟨e5, e6⟩ := heldA_neg (by omega) c2
     refine AWP_seq_k fun K13 hK13 => ?_
     refine AWP_region (G := G) (T := T_heldXs) T_heldXs_ok ?_
     simp only [go_sem]
     repeat (with_reducible refine And.intro (by first | omega | exact ⟨rfl, by omega, by omega, by omega⟩ | first | exact ⟨by omega, by omega⟩ | (rw [hci]; exact ⟨by omega, by omega⟩)) ?_)
     refine hK13 _ ?_
     refine AWP_ret ?_
     simp only [hres, go_sem]
     first
       | exact finOk_mk (by rfl) (by decide)
       | refine ⟨?_, finOk_mk (by rfl) (by decide)⟩
         rw [e3, e1] at e6
         exact (heldG_f3 e6).symm
    ·
     intro c2
     try simp only [decide_eq_true_eq, decide_eq_false_iff_not, Bool.not_eq_true', Bool.not_eq_false', ne_eq, Int.not_lt, Int.not_le] at c2
     obtain ⟨e5, e6⟩ := heldA_pos c2
     refine AWP_skip ?_
     simp only [go_sem]
     refine hK11 _ ?_
     refine AWP_seq_k fun K14 hK14 => ?_
     refine AWP_region (G := G) (T := T_heldXs) T_heldXs_ok ?_
     simp only [go_sem]
     repeat (with_reducible refine And.intro (by first | omega | exact ⟨rfl, by omega, by omega, by omega⟩ | first | exact ⟨by omega, by omega⟩ | (rw [hci]; exact ⟨by omega, by omega⟩)) ?_)
     refine hK14 _ ?_
     refine AWP_ret ?_
     simp only [hres, go_sem]
     first
       | exact finOk_mk (by rfl) (by decide)
       | refine ⟨?_, finOk_mk (by rfl) (by decide)⟩
         rw [e1] at e4
         rw [e5, e3, e1] at *
         exact heldG_t e2 e4 e6

theorem heldG_fn : FnOk Try.prog 55 := fnOk_of Try.func55 rfl (by decide)

def T_heldG : Tab := fun f => if f = 55 then some (.p K_heldG) else T_heldXs f
theorem T_heldG_ok : TabOk Try.prog T_heldG := fun f k h => by
  unfold T_heldG at h
  split at h
  · rename_i e; cases h; subst e; exact ⟨heldG_ok, heldG_fn⟩
  · exact T_heldXs_ok f k h
attribute [go_sem] T_heldG K_heldG


def K_markG : GCon where
  ps := [.ag [.rd (.int .i64), .rd (.int .i64), .ow 0, .ow 1, .ow 2], .val (.int .i64)]
  os := [.tree 24 (.row 2 (.int .i64)), .tree 174 (.prod (.int .i64) (.prod (.int .i64) (.prod (.int .i64) (.prod (.int .i64) (.prod (.row 2 (.int .i64)) (.int .i64)))))), .row 2 (.int .i64)]
  c := fun x => mkOk x.1.2.1 (ctG (0, 0, x.2.1, x.2.2.1, x.2.2.2.1))
  r := fun x => .c (.sc (.int .i64 (x.1.2.1 + (ctG (0, 0, x.2.1, x.2.2.1, x.2.2.2.1) : Nat))))
  o := fun x => [(30, .tree 24 (.row 2 (.int .i64)) (markLL x.1.2.1 x.2.1) none), (31, .tree 174 (.prod (.int .i64) (.prod (.int .i64) (.prod (.int .i64) (.prod (.int .i64) (.prod (.row 2 (.int .i64)) (.int .i64)))))) (markXs (x.1.2.1 + (cntA List.length x.2.1 : Nat)) x.2.2.1) none), (32, .row 2 (.int .i64) (markL (x.1.2.1 + (cntA List.length x.2.1 : Nat) + (cntA ctX x.2.2.1 : Nat)) x.2.2.2.1) [])]
  ok := by
    rintro ⟨⟨⟨(pi : Int), (rg : Int), _⟩, (kk : Int), _⟩, ⟨(ts : List (List Int)), (xs : List InstrD), (os : List Int), _⟩⟩
    exact ⟨rfl, rfl, by decide⟩
set_option maxRecDepth 100000 in
set_option maxHeartbeats 1000000 in
theorem markG_ok : GenT Try.prog 54 K_markG := by
  refine gen_of_body Try.func54 rfl ?_
  have hres : Try.f54.results.toList = [.tmp 4] := rfl
  rintro ⟨⟨⟨(pi : Int), (rg : Int), _⟩, (kk : Int), _⟩, ⟨(ts : List (List Int)), (xs : List InstrD), (os : List Int), _⟩⟩ hc hL hO
  simp only [K_markG, lensOk, PK.lenOk, glensOk, GP.lenOk, flensOk, GO.lenOk, olensOk, Ty.lenOk, Ty.flat, Bool.and_true, Bool.true_and, Bool.and_false, Bool.false_and, true_and, and_true, implies_true, forall_const] at hL
  simp only [K_markG, lensOk, PK.lenOk, glensOk, GP.lenOk, flensOk, GO.lenOk, olensOk, Ty.lenOk, Ty.flat, Bool.and_true, Bool.true_and, Bool.and_false, Bool.false_and, true_and, and_true, implies_true, forall_const] at hO
  simp only [K_markG, St.init, St.initG, Try.ntmps54, go_sem] 
  obtain ⟨h1, h2⟩ := (show mkOk kk (ctG (0, 0, ts, xs, os)) from hc)
  have hcp : ctG (0, 0, ts, xs, os) = cntA List.length ts + cntA ctX xs + os.length := rfl
  refine AWP_seq_k fun K1 hK1 => ?_
  refine AWP_region (G := G) (T := T_heldG) T_heldG_ok ?_
  simp only [go_sem]
  repeat (with_reducible refine And.intro (by first | omega | exact ⟨rfl, by omega, by omega, by omega⟩ | first | exact ⟨by omega, by omega⟩) ?_)
  refine hK1 _ ?_
  refine AWP_seq_k fun K2 hK2 => ?_
  refine AWP_region (G := G) (T := T_heldG) T_heldG_ok ?_
  simp (maxSteps := 2000000) only [go_sem]
  repeat (with_reducible refine And.intro (by first | omega | exact ⟨rfl, by omega, by omega, by omega⟩ | first | exact ⟨by omega, by omega⟩) ?_)
  refine hK2 _ ?_
  refine AWP_seq_k fun K3 hK3 => ?_
  refine AWP_region (G := G) (T := T_heldG) T_heldG_ok ?_
  simp (maxSteps := 2000000) only [go_sem]
  repeat (with_reducible refine And.intro (by first | omega | exact ⟨rfl, by omega, by omega, by omega⟩ | first | exact ⟨by omega, by omega⟩) ?_)
  refine hK3 _ ?_
  refine AWP_seq_k fun K4 hK4 => ?_
  refine AWP_region (G := G) (T := T_heldG) T_heldG_ok ?_
  simp (maxSteps := 2000000) only [go_sem]
  repeat (with_reducible refine And.intro (by first | omega | exact ⟨rfl, by omega, by omega, by omega⟩ | first | exact ⟨by omega, by omega⟩) ?_)
  refine hK4 _ ?_
  refine AWP_seq_k fun K5 hK5 => ?_
  refine AWP_region (G := G) (T := T_heldG) T_heldG_ok ?_
  simp only [go_sem]
  repeat (with_reducible refine And.intro (by first | omega | exact ⟨rfl, by omega, by omega, by omega⟩ | first | exact ⟨by omega, by omega⟩) ?_)
  refine hK5 _ ?_
  refine AWP_ret ?_
  simp only [hres, go_sem]
  first
    | exact finOkG_mk (by rfl)
    | refine ⟨finOkG_mk (by rfl), ?_⟩
      (repeat' refine And.intro ?_ ?_) <;> first | rfl | (rw [hcp]; omega) | omega

theorem markG_fn : FnOk Try.prog 54 := fnOk_of Try.func54 rfl (by decide)

def T_markG : Tab := fun f => if f = 54 then some (.g K_markG) else T_heldG f
theorem T_markG_ok : TabOk Try.prog T_markG := fun f k h => by
  unfold T_markG at h
  split at h
  · rename_i e; cases h; subst e; exact ⟨markG_ok, markG_fn⟩
  · exact T_heldG_ok f k h
attribute [go_sem] T_markG K_markG

end Go.Proofs.Ythglggjgjlmhlaa
