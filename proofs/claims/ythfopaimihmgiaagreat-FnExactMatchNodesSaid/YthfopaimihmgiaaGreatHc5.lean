/-
  Contracts of functions: l12First, l12Refine, l12Classes.
-/
import Derived.Test.YthfopaimihmgiaaGreatHc1
namespace Go.Proofs.YthfopaimihmgiaaGreat
open Go.RowKit
set_option linter.unusedSimpArgs false
set_option linter.unusedVariables false

def K_l12First : Con := ⟨[.ptr (.prod (.int .i64) (.prod (.row 24 (.row 2 (.int .i64))) (.prod (.row 102 (.prod (.int .i64) (.prod (.int .i64) (.prod (.int .i64) (.row 2 (.int .i64)))))) (.row 2 (.int .i64)))))], [⟨(.row 2 (.int .i64)), true⟩, ⟨.int .i64, true⟩], fun x => uOk x.1.2.1 x.1.2.2.1, fun x => (canon (phi0 x.1.2.1 x.1.2.2.1) x.1.2.2.1.length, (canonN (phi0 x.1.2.1 x.1.2.2.1) x.1.2.2.1.length : Int))⟩
set_option maxRecDepth 100000 in
set_option maxHeartbeats 8000000 in
theorem l12First_ok : PureT Tryz.prog 114 K_l12First := by
  refine pure_of_body Tryz.func114 rfl ?_
  have hres : Tryz.f114.results.toList = [.tmp 2, .tmp 3] := rfl
  rintro ⟨⟨(pi : Int), (ts : List (List Int)), (ns : List NodeD), (os : List Int)⟩, _⟩ hc hL
  simp only [K_l12First, lensOk, PK.lenOk, glensOk, GP.lenOk, flensOk, GO.lenOk, olensOk, Ty.lenOk, Ty.flat, Bool.and_true, Bool.true_and, Bool.and_false, Bool.false_and, true_and, and_true, implies_true, forall_const] at hL
  simp only [K_l12First, St.init, St.initG, Tryz.ntmps114, go_sem] 
  have hU : uOk ts ns := hc
  have hul := hU.1
  have hrng : ∀ m q, m ≤ ns.length → q < m → 0 ≤ (specC (byKey (phi0 ts ns)) m).1.getD q 0 := fun m q _ hq => by rw [spec_div byKey_rfl byKey_sym byKey_tr]; exact (canon_rng hq).1
  have hsl : ∀ m, (specC (byKey (phi0 ts ns)) m).1.length = m := fun m => by rw [spec_div byKey_rfl byKey_sym byKey_tr]; exact (canon_ok _ m).len
  have hnb : ∀ m, 0 ≤ (specC (byKey (phi0 ts ns)) m).2 ∧ (specC (byKey (phi0 ts ns)) m).2 ≤ m := fun m => by rw [spec_div byKey_rfl byKey_sym byKey_tr]; have := canonN_le ((phi0 ts ns)) m; unfold canonN at this; simp only; omega
  refine AWP_seq_k fun K1 hK1 => ?_
  refine AWP_region (G := G) (T := T_l12Alike) T_l12Alike_ok ?_
  simp only [go_sem]
  refine hK1 _ ?_
  refine AWP_seq_k fun K2 hK2 => ?_
  refine AWP_region (G := G) (T := T_l12Alike) T_l12Alike_ok ?_
  simp only [List.nodup_nil, go_sem]
  repeat (with_reducible refine And.intro (by first | omega | exact ⟨rfl, by omega, by omega, by omega⟩) ?_)
  refine hK2 _ ?_
  refine AWP_seq_k fun K3 hK3 => ?_
  refine AWP_region (G := G) (T := T_l12Alike) T_l12Alike_ok ?_
  simp only [go_sem]
  refine hK3 _ ?_
  refine AWP_seq_k fun K4 hK4 => ?_
  refine AWP_seq_k fun K5 hK5 => ?_
  refine AWP_region (G := G) (T := T_l12Alike) T_l12Alike_ok ?_
  simp only [go_sem]
  refine hK5 _ ?_
  refine AWP_block ?_
  refine AWP_loop_k (ι := { m : Nat // m ≤ ns.length }) (fun k => ⟨[.c (.pt [] ((.prod (.int .i64) (.prod (.row 24 (.row 2 (.int .i64))) (.prod (.row 102 (.prod (.int .i64) (.prod (.int .i64) (.prod (.int .i64) (.row 2 (.int .i64)))))) (.row 2 (.int .i64)))))) (pi, ts, ns, os) 0), zz, zz, zz, .c (.ow 9001), .c (.sc (.int .i64 ((specC (byKey (phi0 ts ns)) k.1).2))), .c (.sc (.int .i64 (k.1))), zz, zz, zz, zz, zz, zz, zz, zz, zz, zz, zz, zz, zz, zz, zz, zz, zz, zz, zz, zz, zz, zz, zz, zz, zz, zz, zz, zz, zz, zz, zz, zz, zz, zz, zz, zz, zz, zz, zz, zz, zz, zz, zz, zz, zz, zz, zz, zz, zz, zz], [(9001, .row 2 (.int .i64) ((specC (byKey (phi0 ts ns)) k.1).1) [])]⟩) (fun k => ns.length - k.1) ⟨0, by simp⟩ ?_ ?_
  ·
   refine Wk_to (by rfl) ?_
   simp (maxSteps := 2000000) only [go_sem]
   all_goals ((repeat' refine And.intro ?_ ?_) <;> first | rfl | (congr 1; done))
  rintro ⟨m, hm⟩ K6 hL6
  have hsm := hsl m
  have hnm := hnb m
  refine AWP_seq_k fun K7 hK7 => ?_
  refine AWP_seq_k fun K8 hK8 => ?_
  refine AWP_region (G := G) (T := T_l12Alike) T_l12Alike_ok ?_
  simp (maxSteps := 2000000) only [go_sem]
  repeat (with_reducible refine And.intro (by first | omega | exact ⟨rfl, by omega, by omega, by omega⟩) ?_)
  refine hK8 _ ?_
  refine AWP_cond rfl ?_ ?_
  ·
   intro c0
   try simp only [decide_eq_true_eq, decide_eq_false_iff_not, Bool.not_eq_true', Bool.not_eq_false', ne_eq, Int.not_lt, Int.not_le] at c0
   refine AWP_skip ?_
   simp only [go_sem]
   refine hK7 _ ?_
   refine AWP_seq_k fun K9 hK9 => ?_
   refine AWP_block ?_
   refine AWP_seq_k fun K10 hK10 => ?_
   refine AWP_region (G := G) (T := T_l12Alike) T_l12Alike_ok ?_
   simp only [go_sem]
   refine hK10 _ ?_
   refine AWP_seq_k fun K11 hK11 => ?_
   refine AWP_seq_k fun K12 hK12 => ?_
   refine AWP_region (G := G) (T := T_l12Alike) T_l12Alike_ok ?_
   simp only [go_sem]
   refine hK12 _ ?_
   refine AWP_block ?_
   refine AWP_loop_k (ι := { s : Nat × Int // s.1 ≤ m ∧ ((s.2 = -1 ∧ ∀ q, q < s.1 → (byKey (phi0 ts ns)) q m = false) ∨ ∃ q, q < s.1 ∧ (byKey (phi0 ts ns)) q m = true ∧ (∀ q2, q2 < q → (byKey (phi0 ts ns)) q2 m = false) ∧ s.2 = (specC (byKey (phi0 ts ns)) m).1.getD q 0) }) (fun k' => ⟨[.c (.pt [] ((.prod (.int .i64) (.prod (.row 24 (.row 2 (.int .i64))) (.prod (.row 102 (.prod (.int .i64) (.prod (.int .i64) (.prod (.int .i64) (.row 2 (.int .i64)))))) (.row 2 (.int .i64)))))) (pi, ts, ns, os) 0), zz, zz, zz, .c (.ow 9001), .c (.sc (.int .i64 ((specC (byKey (phi0 ts ns)) m).2))), .c (.sc (.int .i64 (m))), .c (.sc (.int .i64 (k'.1.2))), .c (.sc (.int .i64 (k'.1.1))), zz, zz, zz, zz, zz, zz, zz, zz, zz, zz, zz, zz, zz, zz, zz, zz, zz, zz, zz, zz, zz, zz, zz, zz, zz, zz, zz, zz, zz, zz, zz, zz, zz, zz, zz, zz, zz, zz, zz, zz, zz, zz, zz, zz, zz, zz, zz, zz], [(9001, .row 2 (.int .i64) ((specC (byKey (phi0 ts ns)) m).1) [])]⟩) (fun k' => m - k'.1.1) ⟨(0, -1), by simp, .inl ⟨rfl, fun q hq => absurd hq (Nat.not_lt_zero _)⟩⟩ ?_ ?_
   ·
    refine Wk_to (by rfl) ?_
    simp (maxSteps := 2000000) only [go_sem]
    all_goals ((repeat' refine And.intro ?_ ?_) <;> first | rfl | (congr 1; done))
   rintro ⟨⟨j, cv⟩, hj, hjp⟩ K13 hL13
   have hj : j ≤ m := hj
   have hjp : (cv = -1 ∧ ∀ q, q < j → (byKey (phi0 ts ns)) q m = false) ∨ ∃ q, q < j ∧ (byKey (phi0 ts ns)) q m = true ∧ (∀ q2, q2 < q → (byKey (phi0 ts ns)) q2 m = false) ∧ cv = (specC (byKey (phi0 ts ns)) m).1.getD q 0 := hjp
   refine AWP_seq_k fun K14 hK14 => ?_
   refine AWP_seq_k fun K15 hK15 => ?_
   refine AWP_region (G := G) (T := T_l12Alike) T_l12Alike_ok ?_
   simp (maxSteps := 2000000) only [go_sem]
   repeat' (first | (with_reducible refine And.intro (by first | omega | exact ⟨rfl, by omega, by omega, by omega⟩) ?_) | (with_reducible refine gcase_dt (fun g8 => ?_) (fun g8 => ?_)) | (with_reducible refine gcase_df (fun g8 => ?_) (fun g8 => ?_)) | (with_reducible refine gcase_ndt (fun g8 => ?_) (fun g8 => ?_)) | (with_reducible refine gcase_ndf (fun g8 => ?_) (fun g8 => ?_)) | (with_reducible refine gcase_nt (fun g8 => ?_) (fun g8 => ?_)) | (with_reducible refine gcase_nf (fun g8 => ?_) (fun g8 => ?_)) | (with_reducible refine gcase_mk (fun g8 => ?_) (fun g8 => ?_)))
   all_goals
    refine hK15 _ ?_
    refine AWP_cond rfl ?_ ?_
    ·
     intro c1
     try simp only [decide_eq_true_eq, decide_eq_false_iff_not, Bool.not_eq_true', Bool.not_eq_false', ne_eq, Int.not_lt, Int.not_le, Bool.true_eq_false, Bool.false_eq_true] at c1
     all_goals
      have hjm : j < m := by omega
      have hcn : cv < 0 := by first | assumption | omega
      obtain ⟨hcv, hno⟩ : cv = -1 ∧ ∀ q, q < j → (byKey (phi0 ts ns)) q m = false := by
        rcases hjp with h | ⟨q, h1, h2, h3, h4⟩
        · exact h
        · exact absurd (hrng m q (by omega) (by omega)) (by rw [← h4]; omega)
      obtain ⟨htj, hij⟩ := hU.2 _ (getD_mem (d := ((0, 0, 0, []) : NodeD)) (show j < ns.length by omega))
      obtain ⟨htm, him⟩ := hU.2 _ (getD_mem (d := ((0, 0, 0, []) : NodeD)) (show m < ns.length by omega))
      have htj : tabIx ts ((ns.getD j ((0, 0, 0, []) : NodeD)).1, (ns.getD j ((0, 0, 0, []) : NodeD)).2.1, (ns.getD j ((0, 0, 0, []) : NodeD)).2.2.1, (ns.getD j ((0, 0, 0, []) : NodeD)).2.2.2) := htj
      have htm : tabIx ts ((ns.getD m ((0, 0, 0, []) : NodeD)).1, (ns.getD m ((0, 0, 0, []) : NodeD)).2.1, (ns.getD m ((0, 0, 0, []) : NodeD)).2.2.1, (ns.getD m ((0, 0, 0, []) : NodeD)).2.2.2) := htm
      refine AWP_skip ?_
      simp only [go_sem]
      refine hK14 _ ?_
      refine AWP_seq_k fun K16 hK16 => ?_
      refine AWP_block ?_
      refine AWP_seq_k fun K17 hK17 => ?_
      refine AWP_draw (G := G) (T := T_l12Alike) T_l12Alike_ok mixed
        [[], [], [1], [1, 2], [1, 2, 3], [], [1, 2, 3, 4, 5], [], [7], [7, 8], [7, 8, 9], [], [7, 8, 9, 10, 11], [0, 1, 2, 3, 4, 5, 6, 7, 8, 9, 10, 11, 12]]
        [[], [], [], [], [], [], [], [], [], [], [], [], [], []]
        [[], [], [], [], [], [], [], [], [], [], [], [], [], []] (by kernel_rfl) (by kernel_rfl) (adrawR_ok (acc := []) ?_)
      simp (maxSteps := 2000000) only [go_sem]
      repeat (with_reducible refine And.intro (by first | exact chk_leaf (by kernel_rfl) | omega | exact ⟨rfl, by omega, by omega, by omega⟩ | exact ⟨htj, htm⟩ | exact ⟨by omega, by omega⟩) ?_)
      refine hK17 _ ?_
      refine AWP_cond rfl ?_ ?_
      ·
       intro c2
       try simp only [decide_eq_true_eq, decide_eq_false_iff_not, Bool.not_eq_true', Bool.not_eq_false', ne_eq, Int.not_lt, Int.not_le, Bool.true_eq_false, Bool.false_eq_true] at c2
       all_goals
        have hE : (byKey (phi0 ts ns)) j m = true := by rw [byKey0]; assumption
        refine AWP_region (G := G) (T := T_l12Alike) T_l12Alike_ok ?_
        simp (maxSteps := 2000000) only [go_sem]
        repeat (with_reducible refine And.intro (by first | omega | exact ⟨rfl, by omega, by omega, by omega⟩ | exact ⟨by omega, by omega⟩) ?_)
        refine hK16 _ ?_
        refine AWP_region (G := G) (T := T_l12Alike) T_l12Alike_ok ?_
        simp only [go_sem]
        first | (refine hL13 ⟨(j + 1, (specC (byKey (phi0 ts ns)) m).1.getD j 0), by show j + 1 ≤ _; omega, .inr ⟨j, Nat.lt_succ_self j, hE, hno, rfl⟩⟩ _ (Wk_to (by rfl) ?_) ?_) | (refine hL13 ⟨(j + 1, cv), by show j + 1 ≤ _; omega, .inl ⟨hcv, fun q hq => by rcases Nat.lt_succ_iff_lt_or_eq.1 hq with h | h; exact hno q h; subst h; exact hE⟩⟩ _ (Wk_to (by rfl) ?_) ?_)
        ·
         simp (maxSteps := 2000000) only [go_sem]
         all_goals ((repeat' refine And.intro ?_ ?_) <;> first | rfl | exact wk (by omega) | (congr 1; done))
        ·
         first | (simp only []; omega) | omega | (simp; omega)
      ·
       intro c2
       try simp only [decide_eq_true_eq, decide_eq_false_iff_not, Bool.not_eq_true', Bool.not_eq_false', ne_eq, Int.not_lt, Int.not_le, Bool.true_eq_false, Bool.false_eq_true] at c2
       all_goals
        have hE : (byKey (phi0 ts ns)) j m = false := by rw [byKey0]; assumption
        refine AWP_skip ?_
        simp only [go_sem]
        refine hK16 _ ?_
        refine AWP_region (G := G) (T := T_l12Alike) T_l12Alike_ok ?_
        simp only [go_sem]
        first | (refine hL13 ⟨(j + 1, (specC (byKey (phi0 ts ns)) m).1.getD j 0), by show j + 1 ≤ _; omega, .inr ⟨j, Nat.lt_succ_self j, hE, hno, rfl⟩⟩ _ (Wk_to (by rfl) ?_) ?_) | (refine hL13 ⟨(j + 1, cv), by show j + 1 ≤ _; omega, .inl ⟨hcv, fun q hq => by rcases Nat.lt_succ_iff_lt_or_eq.1 hq with h | h; exact hno q h; subst h; exact hE⟩⟩ _ (Wk_to (by rfl) ?_) ?_)
        ·
         simp (maxSteps := 2000000) only [go_sem]
         all_goals ((repeat' refine And.intro ?_ ?_) <;> first | rfl | exact wk (by omega) | (congr 1; done))
        ·
         first | (simp only []; omega) | omega | (simp; omega)
    ·
     intro c1
     try simp only [decide_eq_true_eq, decide_eq_false_iff_not, Bool.not_eq_true', Bool.not_eq_false', ne_eq, Int.not_lt, Int.not_le, Bool.true_eq_false, Bool.false_eq_true] at c1
     all_goals
      refine AWP_exit ?_
      simp only [go_sem]
      refine hK11 _ ?_
      refine AWP_seq_k fun K18 hK18 => ?_
      refine AWP_seq_k fun K19 hK19 => ?_
      refine AWP_region (G := G) (T := T_l12Alike) T_l12Alike_ok ?_
      simp only [go_sem]
      refine hK19 _ ?_
      refine AWP_cond rfl ?_ ?_
      ·
       intro c3
       try simp only [decide_eq_true_eq, decide_eq_false_iff_not, Bool.not_eq_true', Bool.not_eq_false', ne_eq, Int.not_lt, Int.not_le, Bool.true_eq_false, Bool.false_eq_true] at c3
       all_goals
        have hn1 : specC (byKey (phi0 ts ns)) (m + 1) = ((specC (byKey (phi0 ts ns)) m).1 ++ [(specC (byKey (phi0 ts ns)) m).2], (specC (byKey (phi0 ts ns)) m).2 + 1) := by
          rcases hjp with ⟨h1, h2⟩ | ⟨q, h1, h2, h3, h4⟩
          · exact specC_none fun q hq => h2 q (by first | omega | (exfalso; simp_all; done))
          · exact absurd (hrng m q (by omega) (by omega)) (by rw [← h4]; omega)
        have hwn : IntKind.i64.wrap ((specC (byKey (phi0 ts ns)) m).2 + 1) = (specC (byKey (phi0 ts ns)) m).2 + 1 := wrapI (by omega)
        refine AWP_seq_k fun K20 hK20 => ?_
        refine AWP_region (G := G) (T := T_l12Alike) T_l12Alike_ok ?_
        simp only [go_sem]
        refine hK20 _ ?_
        refine AWP_region (G := G) (T := T_l12Alike) T_l12Alike_ok ?_
        simp only [go_sem]
        refine hK18 _ ?_
        refine AWP_region (G := G) (T := T_l12Alike) T_l12Alike_ok ?_
        simp (maxSteps := 2000000) only [List.nodup_nil, go_sem]
        repeat (with_reducible refine And.intro (by first | omega | exact ⟨rfl, by omega, by omega, by omega⟩ | omega) ?_)
        refine hK9 _ ?_
        refine AWP_region (G := G) (T := T_l12Alike) T_l12Alike_ok ?_
        simp only [go_sem]
        refine hL6 ⟨m + 1, by omega⟩ _ (Wk_to (by rfl) ?_) ?_
        ·
         simp (maxSteps := 2000000) only [go_sem]
         all_goals ((repeat' refine And.intro ?_ ?_) <;> first | rfl | exact wk (by omega) | (rw [hn1]; done) | (rw [hn1]; rfl) | (rw [hn1, hwn]) | (rw [hn1]; exact hwn) | (congr 1; done))
        ·
         first | (simp only []; omega) | omega | (simp; omega)
      ·
       intro c3
       try simp only [decide_eq_true_eq, decide_eq_false_iff_not, Bool.not_eq_true', Bool.not_eq_false', ne_eq, Int.not_lt, Int.not_le, Bool.true_eq_false, Bool.false_eq_true] at c3
       all_goals
        have hn1 : specC (byKey (phi0 ts ns)) (m + 1) = ((specC (byKey (phi0 ts ns)) m).1 ++ [cv], (specC (byKey (phi0 ts ns)) m).2) := by
          rcases hjp with ⟨h1, h2⟩ | ⟨q, h1, h2, h3, h4⟩
          · exfalso; omega
          · rw [h4]; exact specC_hit (by omega) h3 h2
        have hwn : True := trivial
        refine AWP_skip ?_
        simp only [go_sem]
        refine hK18 _ ?_
        refine AWP_region (G := G) (T := T_l12Alike) T_l12Alike_ok ?_
        simp (maxSteps := 2000000) only [List.nodup_nil, go_sem]
        repeat (with_reducible refine And.intro (by first | omega | exact ⟨rfl, by omega, by omega, by omega⟩ | omega) ?_)
        refine hK9 _ ?_
        refine AWP_region (G := G) (T := T_l12Alike) T_l12Alike_ok ?_
        simp only [go_sem]
        refine hL6 ⟨m + 1, by omega⟩ _ (Wk_to (by rfl) ?_) ?_
        ·
         simp (maxSteps := 2000000) only [go_sem]
         all_goals ((repeat' refine And.intro ?_ ?_) <;> first | rfl | exact wk (by omega) | (rw [hn1]; done) | (rw [hn1]; rfl) | (rw [hn1, hwn]) | (rw [hn1]; exact hwn) | (congr 1; done))
        ·
         first | (simp only []; omega) | omega | (simp; omega)
  ·
   intro c0
   try simp only [decide_eq_true_eq, decide_eq_false_iff_not, Bool.not_eq_true', Bool.not_eq_false', ne_eq, Int.not_lt, Int.not_le] at c0
   refine AWP_exit ?_
   simp only [go_sem]
   refine hK4 _ ?_
   refine AWP_seq_k fun K21 hK21 => ?_
   refine AWP_region (G := G) (T := T_l12Alike) T_l12Alike_ok ?_
   simp only [go_sem]
   refine hK21 _ ?_
   refine AWP_ret ?_
   simp only [hres, go_sem]
   first
     | exact finOk_mk (by rfl) (by decide)
     | refine ⟨?_, finOk_mk (by rfl) (by decide)⟩
       have hk3 : m = ns.length := by omega
       clear hK1 hK2 hK3 hK4 hK5 hL6 hK7 hK8 hK21
       subst hk3
       rw [spec_div byKey_rfl byKey_sym byKey_tr]
       exact ⟨rfl, rfl⟩

theorem l12First_fn : FnOk Tryz.prog 114 := fnOk_of Tryz.func114 rfl (by decide)

def T_l12First : Tab := fun f => if f = 114 then some (.p K_l12First) else T_l12Alike f
theorem T_l12First_ok : TabOk Tryz.prog T_l12First := fun f k h => by
  unfold T_l12First at h
  split at h
  · rename_i e; cases h; subst e; exact ⟨l12First_ok, l12First_fn⟩
  · exact T_l12Alike_ok f k h
attribute [go_sem] T_l12First K_l12First


def K_l12Refine : Con := ⟨[.ptr (.prod (.int .i64) (.prod (.row 24 (.row 2 (.int .i64))) (.prod (.row 102 (.prod (.int .i64) (.prod (.int .i64) (.prod (.int .i64) (.row 2 (.int .i64)))))) (.row 2 (.int .i64))))), .val ((.row 2 (.int .i64)))], [⟨(.row 2 (.int .i64)), true⟩, ⟨.int .i64, true⟩], fun x => uOk x.1.2.1 x.1.2.2.1 ∧ x.2.1.length = x.1.2.2.1.length, fun x => (canon (phi x.1.2.1 x.1.2.2.1 x.2.1) x.1.2.2.1.length, (canonN (phi x.1.2.1 x.1.2.2.1 x.2.1) x.1.2.2.1.length : Int))⟩
set_option maxRecDepth 100000 in
set_option maxHeartbeats 8000000 in
theorem l12Refine_ok : PureT Tryz.prog 115 K_l12Refine := by
  refine pure_of_body Tryz.func115 rfl ?_
  have hres : Tryz.f115.results.toList = [.tmp 4, .tmp 5] := rfl
  rintro ⟨⟨(pi : Int), (ts : List (List Int)), (ns : List NodeD), (os : List Int)⟩, (cl : List Int), _⟩ hc hL
  simp only [K_l12Refine, lensOk, PK.lenOk, glensOk, GP.lenOk, flensOk, GO.lenOk, olensOk, Ty.lenOk, Ty.flat, Bool.and_true, Bool.true_and, Bool.and_false, Bool.false_and, true_and, and_true, implies_true, forall_const] at hL
  simp only [K_l12Refine, St.init, St.initG, Tryz.ntmps115, go_sem] 
  obtain ⟨hU, hcl⟩ := (show uOk ts ns ∧ cl.length = ns.length from hc)
  have hul := hU.1
  have hrng : ∀ m q, m ≤ ns.length → q < m → 0 ≤ (specC (byKey (phi ts ns cl)) m).1.getD q 0 := fun m q _ hq => by rw [spec_div byKey_rfl byKey_sym byKey_tr]; exact (canon_rng hq).1
  have hsl : ∀ m, (specC (byKey (phi ts ns cl)) m).1.length = m := fun m => by rw [spec_div byKey_rfl byKey_sym byKey_tr]; exact (canon_ok _ m).len
  have hnb : ∀ m, 0 ≤ (specC (byKey (phi ts ns cl)) m).2 ∧ (specC (byKey (phi ts ns cl)) m).2 ≤ m := fun m => by rw [spec_div byKey_rfl byKey_sym byKey_tr]; have := canonN_le ((phi ts ns cl)) m; unfold canonN at this; simp only; omega
  refine AWP_seq_k fun K1 hK1 => ?_
  refine AWP_region (G := G) (T := T_l12First) T_l12First_ok ?_
  simp only [go_sem]
  refine hK1 _ ?_
  refine AWP_seq_k fun K2 hK2 => ?_
  refine AWP_region (G := G) (T := T_l12First) T_l12First_ok ?_
  simp only [List.nodup_nil, go_sem]
  repeat (with_reducible refine And.intro (by first | omega | exact ⟨rfl, by omega, by omega, by omega⟩) ?_)
  refine hK2 _ ?_
  refine AWP_seq_k fun K3 hK3 => ?_
  refine AWP_region (G := G) (T := T_l12First) T_l12First_ok ?_
  simp only [go_sem]
  refine hK3 _ ?_
  refine AWP_seq_k fun K4 hK4 => ?_
  refine AWP_seq_k fun K5 hK5 => ?_
  refine AWP_region (G := G) (T := T_l12First) T_l12First_ok ?_
  simp only [go_sem]
  refine hK5 _ ?_
  refine AWP_block ?_
  refine AWP_loop_k (ι := { m : Nat // m ≤ ns.length }) (fun k => ⟨[.c (.pt [] ((.prod (.int .i64) (.prod (.row 24 (.row 2 (.int .i64))) (.prod (.row 102 (.prod (.int .i64) (.prod (.int .i64) (.prod (.int .i64) (.row 2 (.int .i64)))))) (.row 2 (.int .i64)))))) (pi, ts, ns, os) 0), .c (.rd [] 2 (.int .i64) (cl)), zz, zz, zz, zz, .c (.ow 9001), .c (.sc (.int .i64 ((specC (byKey (phi ts ns cl)) k.1).2))), .c (.sc (.int .i64 (k.1))), zz, zz, zz, zz, zz, zz, zz, zz, zz, zz, zz, zz, zz, zz, zz, zz, zz, zz, zz, zz, zz, zz, zz, zz, zz, zz, zz, zz, zz, zz, zz, zz, zz, zz, zz, zz, zz, zz, zz, zz, zz, zz, zz, zz, zz, zz, zz, zz, zz, zz, zz, zz, zz, zz, zz, zz, zz, zz, zz, zz, zz, zz], [(9001, .row 2 (.int .i64) ((specC (byKey (phi ts ns cl)) k.1).1) [])]⟩) (fun k => ns.length - k.1) ⟨0, by simp⟩ ?_ ?_
  ·
   refine Wk_to (by rfl) ?_
   simp (maxSteps := 2000000) only [go_sem]
   all_goals ((repeat' refine And.intro ?_ ?_) <;> first | rfl | (congr 1; done))
  rintro ⟨m, hm⟩ K6 hL6
  have hsm := hsl m
  have hnm := hnb m
  refine AWP_seq_k fun K7 hK7 => ?_
  refine AWP_seq_k fun K8 hK8 => ?_
  refine AWP_region (G := G) (T := T_l12First) T_l12First_ok ?_
  simp (maxSteps := 2000000) only [go_sem]
  repeat (with_reducible refine And.intro (by first | omega | exact ⟨rfl, by omega, by omega, by omega⟩) ?_)
  refine hK8 _ ?_
  refine AWP_cond rfl ?_ ?_
  ·
   intro c0
   try simp only [decide_eq_true_eq, decide_eq_false_iff_not, Bool.not_eq_true', Bool.not_eq_false', ne_eq, Int.not_lt, Int.not_le] at c0
   refine AWP_skip ?_
   simp only [go_sem]
   refine hK7 _ ?_
   refine AWP_seq_k fun K9 hK9 => ?_
   refine AWP_block ?_
   refine AWP_seq_k fun K10 hK10 => ?_
   refine AWP_region (G := G) (T := T_l12First) T_l12First_ok ?_
   simp only [go_sem]
   refine hK10 _ ?_
   refine AWP_seq_k fun K11 hK11 => ?_
   refine AWP_seq_k fun K12 hK12 => ?_
   refine AWP_region (G := G) (T := T_l12First) T_l12First_ok ?_
   simp only [go_sem]
   refine hK12 _ ?_
   refine AWP_block ?_
   refine AWP_loop_k (ι := { s : Nat × Int // s.1 ≤ m ∧ ((s.2 = -1 ∧ ∀ q, q < s.1 → (byKey (phi ts ns cl)) q m = false) ∨ ∃ q, q < s.1 ∧ (byKey (phi ts ns cl)) q m = true ∧ (∀ q2, q2 < q → (byKey (phi ts ns cl)) q2 m = false) ∧ s.2 = (specC (byKey (phi ts ns cl)) m).1.getD q 0) }) (fun k' => ⟨[.c (.pt [] ((.prod (.int .i64) (.prod (.row 24 (.row 2 (.int .i64))) (.prod (.row 102 (.prod (.int .i64) (.prod (.int .i64) (.prod (.int .i64) (.row 2 (.int .i64)))))) (.row 2 (.int .i64)))))) (pi, ts, ns, os) 0), .c (.rd [] 2 (.int .i64) (cl)), zz, zz, zz, zz, .c (.ow 9001), .c (.sc (.int .i64 ((specC (byKey (phi ts ns cl)) m).2))), .c (.sc (.int .i64 (m))), .c (.sc (.int .i64 (k'.1.2))), .c (.sc (.int .i64 (k'.1.1))), zz, zz, zz, zz, zz, zz, zz, zz, zz, zz, zz, zz, zz, zz, zz, zz, zz, zz, zz, zz, zz, zz, zz, zz, zz, zz, zz, zz, zz, zz, zz, zz, zz, zz, zz, zz, zz, zz, zz, zz, zz, zz, zz, zz, zz, zz, zz, zz, zz, zz, zz, zz, zz, zz, zz, zz, zz, zz, zz, zz], [(9001, .row 2 (.int .i64) ((specC (byKey (phi ts ns cl)) m).1) [])]⟩) (fun k' => m - k'.1.1) ⟨(0, -1), by simp, .inl ⟨rfl, fun q hq => absurd hq (Nat.not_lt_zero _)⟩⟩ ?_ ?_
   ·
    refine Wk_to (by rfl) ?_
    simp (maxSteps := 2000000) only [go_sem]
    all_goals ((repeat' refine And.intro ?_ ?_) <;> first | rfl | (congr 1; done))
   rintro ⟨⟨j, cv⟩, hj, hjp⟩ K13 hL13
   have hj : j ≤ m := hj
   have hjp : (cv = -1 ∧ ∀ q, q < j → (byKey (phi ts ns cl)) q m = false) ∨ ∃ q, q < j ∧ (byKey (phi ts ns cl)) q m = true ∧ (∀ q2, q2 < q → (byKey (phi ts ns cl)) q2 m = false) ∧ cv = (specC (byKey (phi ts ns cl)) m).1.getD q 0 := hjp
   refine AWP_seq_k fun K14 hK14 => ?_
   refine AWP_seq_k fun K15 hK15 => ?_
   refine AWP_region (G := G) (T := T_l12First) T_l12First_ok ?_
   simp (maxSteps := 2000000) only [go_sem]
   repeat' (first | (with_reducible refine And.intro (by first | omega | exact ⟨rfl, by omega, by omega, by omega⟩) ?_) | (with_reducible refine gcase_dt (fun g8 => ?_) (fun g8 => ?_)) | (with_reducible refine gcase_df (fun g8 => ?_) (fun g8 => ?_)) | (with_reducible refine gcase_ndt (fun g8 => ?_) (fun g8 => ?_)) | (with_reducible refine gcase_ndf (fun g8 => ?_) (fun g8 => ?_)) | (with_reducible refine gcase_nt (fun g8 => ?_) (fun g8 => ?_)) | (with_reducible refine gcase_nf (fun g8 => ?_) (fun g8 => ?_)) | (with_reducible refine gcase_mk (fun g8 => ?_) (fun g8 => ?_)))
   all_goals
    refine hK15 _ ?_
    refine AWP_cond rfl ?_ ?_
    ·
     intro c1
     try simp only [decide_eq_true_eq, decide_eq_false_iff_not, Bool.not_eq_true', Bool.not_eq_false', ne_eq, Int.not_lt, Int.not_le, Bool.true_eq_false, Bool.false_eq_true] at c1
     all_goals
      have hjm : j < m := by omega
      have hcn : cv < 0 := by first | assumption | omega
      obtain ⟨hcv, hno⟩ : cv = -1 ∧ ∀ q, q < j → (byKey (phi ts ns cl)) q m = false := by
        rcases hjp with h | ⟨q, h1, h2, h3, h4⟩
        · exact h
        · exact absurd (hrng m q (by omega) (by omega)) (by rw [← h4]; omega)
      obtain ⟨htj, hij⟩ := hU.2 _ (getD_mem (d := ((0, 0, 0, []) : NodeD)) (show j < ns.length by omega))
      obtain ⟨htm, him⟩ := hU.2 _ (getD_mem (d := ((0, 0, 0, []) : NodeD)) (show m < ns.length by omega))
      have htj : tabIx ts ((ns.getD j ((0, 0, 0, []) : NodeD)).1, (ns.getD j ((0, 0, 0, []) : NodeD)).2.1, (ns.getD j ((0, 0, 0, []) : NodeD)).2.2.1, (ns.getD j ((0, 0, 0, []) : NodeD)).2.2.2) := htj
      have htm : tabIx ts ((ns.getD m ((0, 0, 0, []) : NodeD)).1, (ns.getD m ((0, 0, 0, []) : NodeD)).2.1, (ns.getD m ((0, 0, 0, []) : NodeD)).2.2.1, (ns.getD m ((0, 0, 0, []) : NodeD)).2.2.2) := htm
      have hij : insIx cl.length ((ns.getD j ((0, 0, 0, []) : NodeD)).1, (ns.getD j ((0, 0, 0, []) : NodeD)).2.1, (ns.getD j ((0, 0, 0, []) : NodeD)).2.2.1, (ns.getD j ((0, 0, 0, []) : NodeD)).2.2.2) := by rw [hcl]; exact hij
      have him : insIx cl.length ((ns.getD m ((0, 0, 0, []) : NodeD)).1, (ns.getD m ((0, 0, 0, []) : NodeD)).2.1, (ns.getD m ((0, 0, 0, []) : NodeD)).2.2.1, (ns.getD m ((0, 0, 0, []) : NodeD)).2.2.2) := by rw [hcl]; exact him
      refine AWP_skip ?_
      simp only [go_sem]
      refine hK14 _ ?_
      refine AWP_seq_k fun K16 hK16 => ?_
      refine AWP_block ?_
      refine AWP_seq_k fun K17 hK17 => ?_
      refine AWP_draw (G := G) (T := T_l12First) T_l12First_ok mixed
        [[], [], [0, 1], [0, 1, 2], [], [], [4, 5], [4, 5, 6], [0, 1, 2, 3, 4, 5, 6, 7], [0, 1, 2, 3, 4, 5, 6, 7, 8], [0, 1, 2, 3, 4, 5, 6, 7, 8, 9], [0, 1, 2, 3, 4, 5, 6, 7, 8, 9], [0, 1, 2, 3, 4, 5, 6, 7, 8, 9], [0, 1, 2, 3, 4, 5, 6, 7, 8, 9, 12], [0, 1, 2, 3, 4, 5, 6, 7, 8, 9, 12, 13], [0, 1, 2, 3, 4, 5, 6, 7, 8, 9, 12, 13, 14], [0, 1, 2, 3, 4, 5, 6, 7, 8, 9], [0, 1, 2, 3, 4, 5, 6, 7, 8, 9, 12, 13, 14, 15, 16], [0, 1, 2, 3, 4, 5, 6, 7, 8, 9], [0, 1, 2, 3, 4, 5, 6, 7, 8, 9, 18], [0, 1, 2, 3, 4, 5, 6, 7, 8, 9, 18, 19], [0, 1, 2, 3, 4, 5, 6, 7, 8, 9, 18, 19, 20], [0, 1, 2, 3, 4, 5, 6, 7, 8, 9], [0, 1, 2, 3, 4, 5, 6, 7, 8, 9, 18, 19, 20, 21, 22], [0, 1, 2, 3, 4, 5, 6, 7, 8, 9, 10, 11, 12, 13, 14, 15, 16, 17, 18, 19, 20, 21, 22, 23], [0, 1, 2, 3, 4, 5, 6, 7, 8, 9, 10, 11, 12, 13, 14, 15, 16, 17, 18, 19, 20, 21, 22, 23, 24]]
        [[], [], [], [], [], [], [], [], [], [], [], [], [], [], [], [], [], [], [], [], [], [], [], [], [], []]
        [[], [], [], [], [], [], [], [], [], [], [], [], [], [], [], [], [], [], [], [], [], [], [], [], [], []] (by kernel_rfl) (by kernel_rfl) (adrawR_ok (acc := []) ?_)
      simp (maxSteps := 2000000) only [go_sem]
      repeat' (first | (with_reducible refine And.intro (by first | exact chk_leaf (by kernel_rfl) | omega | exact ⟨rfl, by omega, by omega, by omega⟩ | exact ⟨htj, htm, hij, him⟩ | exact ⟨by omega, by omega⟩) ?_) | (with_reducible refine gcase_dt (fun g10 => ?_) (fun g10 => ?_)) | (with_reducible refine gcase_df (fun g10 => ?_) (fun g10 => ?_)) | (with_reducible refine gcase_ndt (fun g10 => ?_) (fun g10 => ?_)) | (with_reducible refine gcase_ndf (fun g10 => ?_) (fun g10 => ?_)) | (with_reducible refine gcase_nt (fun g10 => ?_) (fun g10 => ?_)) | (with_reducible refine gcase_nf (fun g10 => ?_) (fun g10 => ?_)) | (with_reducible refine gcase_mk (fun g10 => ?_) (fun g10 => ?_)))
      all_goals
       refine hK17 _ ?_
       refine AWP_cond rfl ?_ ?_
       ·
        intro c2
        try simp only [decide_eq_true_eq, decide_eq_false_iff_not, Bool.not_eq_true', Bool.not_eq_false', ne_eq, Int.not_lt, Int.not_le, Bool.true_eq_false, Bool.false_eq_true] at c2
        all_goals
         have hE : (byKey (phi ts ns cl)) j m = true := by rw [byKeyP]; clear hK1 hK2 hK3 hK4 hK5 hL6 hK7 hK8 hK9 hK10 hK11 hK12 hL13 hK14 hK15 hK16 hK17; simp_all [n0]
         refine AWP_region (G := G) (T := T_l12First) T_l12First_ok ?_
         simp (maxSteps := 2000000) only [go_sem]
         repeat (with_reducible refine And.intro (by first | omega | exact ⟨rfl, by omega, by omega, by omega⟩ | exact ⟨by omega, by omega⟩) ?_)
         refine hK16 _ ?_
         refine AWP_region (G := G) (T := T_l12First) T_l12First_ok ?_
         simp only [go_sem]
         first | (refine hL13 ⟨(j + 1, (specC (byKey (phi ts ns cl)) m).1.getD j 0), by show j + 1 ≤ _; omega, .inr ⟨j, Nat.lt_succ_self j, hE, hno, rfl⟩⟩ _ (Wk_to (by rfl) ?_) ?_) | (refine hL13 ⟨(j + 1, cv), by show j + 1 ≤ _; omega, .inl ⟨hcv, fun q hq => by rcases Nat.lt_succ_iff_lt_or_eq.1 hq with h | h; exact hno q h; subst h; exact hE⟩⟩ _ (Wk_to (by rfl) ?_) ?_)
         ·
          simp (maxSteps := 2000000) only [go_sem]
          all_goals ((repeat' refine And.intro ?_ ?_) <;> first | rfl | exact wk (by omega) | (congr 1; done))
         ·
          first | (simp only []; omega) | omega | (simp; omega)
       ·
        intro c2
        try simp only [decide_eq_true_eq, decide_eq_false_iff_not, Bool.not_eq_true', Bool.not_eq_false', ne_eq, Int.not_lt, Int.not_le, Bool.true_eq_false, Bool.false_eq_true] at c2
        all_goals
         have hE : (byKey (phi ts ns cl)) j m = false := by rw [byKeyP]; clear hK1 hK2 hK3 hK4 hK5 hL6 hK7 hK8 hK9 hK10 hK11 hK12 hL13 hK14 hK15 hK16 hK17; simp_all [n0]
         refine AWP_skip ?_
         simp only [go_sem]
         refine hK16 _ ?_
         refine AWP_region (G := G) (T := T_l12First) T_l12First_ok ?_
         simp only [go_sem]
         first | (refine hL13 ⟨(j + 1, (specC (byKey (phi ts ns cl)) m).1.getD j 0), by show j + 1 ≤ _; omega, .inr ⟨j, Nat.lt_succ_self j, hE, hno, rfl⟩⟩ _ (Wk_to (by rfl) ?_) ?_) | (refine hL13 ⟨(j + 1, cv), by show j + 1 ≤ _; omega, .inl ⟨hcv, fun q hq => by rcases Nat.lt_succ_iff_lt_or_eq.1 hq with h | h; exact hno q h; subst h; exact hE⟩⟩ _ (Wk_to (by rfl) ?_) ?_)
         ·
          simp (maxSteps := 2000000) only [go_sem]
          all_goals ((repeat' refine And.intro ?_ ?_) <;> first | rfl | exact wk (by omega) | (congr 1; done))
         ·
          first | (simp only []; omega) | omega | (simp; omega)
    ·
     intro c1
     try simp only [decide_eq_true_eq, decide_eq_false_iff_not, Bool.not_eq_true', Bool.not_eq_false', ne_eq, Int.not_lt, Int.not_le, Bool.true_eq_false, Bool.false_eq_true] at c1
     all_goals
      refine AWP_exit ?_
      simp only [go_sem]
      refine hK11 _ ?_
      refine AWP_seq_k fun K18 hK18 => ?_
      refine AWP_seq_k fun K19 hK19 => ?_
      refine AWP_region (G := G) (T := T_l12First) T_l12First_ok ?_
      simp only [go_sem]
      refine hK19 _ ?_
      refine AWP_cond rfl ?_ ?_
      ·
       intro c3
       try simp only [decide_eq_true_eq, decide_eq_false_iff_not, Bool.not_eq_true', Bool.not_eq_false', ne_eq, Int.not_lt, Int.not_le, Bool.true_eq_false, Bool.false_eq_true] at c3
       all_goals
        have hn1 : specC (byKey (phi ts ns cl)) (m + 1) = ((specC (byKey (phi ts ns cl)) m).1 ++ [(specC (byKey (phi ts ns cl)) m).2], (specC (byKey (phi ts ns cl)) m).2 + 1) := by
          rcases hjp with ⟨h1, h2⟩ | ⟨q, h1, h2, h3, h4⟩
          · exact specC_none fun q hq => h2 q (by first | omega | (exfalso; simp_all; done))
          · exact absurd (hrng m q (by omega) (by omega)) (by rw [← h4]; omega)
        have hwn : IntKind.i64.wrap ((specC (byKey (phi ts ns cl)) m).2 + 1) = (specC (byKey (phi ts ns cl)) m).2 + 1 := wrapI (by omega)
        refine AWP_seq_k fun K20 hK20 => ?_
        refine AWP_region (G := G) (T := T_l12First) T_l12First_ok ?_
        simp only [go_sem]
        refine hK20 _ ?_
        refine AWP_region (G := G) (T := T_l12First) T_l12First_ok ?_
        simp only [go_sem]
        refine hK18 _ ?_
        refine AWP_region (G := G) (T := T_l12First) T_l12First_ok ?_
        simp (maxSteps := 2000000) only [List.nodup_nil, go_sem]
        repeat (with_reducible refine And.intro (by first | omega | exact ⟨rfl, by omega, by omega, by omega⟩ | omega) ?_)
        refine hK9 _ ?_
        refine AWP_region (G := G) (T := T_l12First) T_l12First_ok ?_
        simp only [go_sem]
        refine hL6 ⟨m + 1, by omega⟩ _ (Wk_to (by rfl) ?_) ?_
        ·
         simp (maxSteps := 2000000) only [go_sem]
         all_goals ((repeat' refine And.intro ?_ ?_) <;> first | rfl | exact wk (by omega) | (rw [hn1]; done) | (rw [hn1]; rfl) | (rw [hn1, hwn]) | (rw [hn1]; exact hwn) | (congr 1; done))
        ·
         first | (simp only []; omega) | omega | (simp; omega)
      ·
       intro c3
       try simp only [decide_eq_true_eq, decide_eq_false_iff_not, Bool.not_eq_true', Bool.not_eq_false', ne_eq, Int.not_lt, Int.not_le, Bool.true_eq_false, Bool.false_eq_true] at c3
       all_goals
        have hn1 : specC (byKey (phi ts ns cl)) (m + 1) = ((specC (byKey (phi ts ns cl)) m).1 ++ [cv], (specC (byKey (phi ts ns cl)) m).2) := by
          rcases hjp with ⟨h1, h2⟩ | ⟨q, h1, h2, h3, h4⟩
          · exfalso; omega
          · rw [h4]; exact specC_hit (by omega) h3 h2
        have hwn : True := trivial
        refine AWP_skip ?_
        simp only [go_sem]
        refine hK18 _ ?_
        refine AWP_region (G := G) (T := T_l12First) T_l12First_ok ?_
        simp (maxSteps := 2000000) only [List.nodup_nil, go_sem]
        repeat (with_reducible refine And.intro (by first | omega | exact ⟨rfl, by omega, by omega, by omega⟩ | omega) ?_)
        refine hK9 _ ?_
        refine AWP_region (G := G) (T := T_l12First) T_l12First_ok ?_
        simp only [go_sem]
        refine hL6 ⟨m + 1, by omega⟩ _ (Wk_to (by rfl) ?_) ?_
        ·
         simp (maxSteps := 2000000) only [go_sem]
         all_goals ((repeat' refine And.intro ?_ ?_) <;> first | rfl | exact wk (by omega) | (rw [hn1]; done) | (rw [hn1]; rfl) | (rw [hn1, hwn]) | (rw [hn1]; exact hwn) | (congr 1; done))
        ·
         first | (simp only []; omega) | omega | (simp; omega)
  ·
   intro c0
   try simp only [decide_eq_true_eq, decide_eq_false_iff_not, Bool.not_eq_true', Bool.not_eq_false', ne_eq, Int.not_lt, Int.not_le] at c0
   refine AWP_exit ?_
   simp only [go_sem]
   refine hK4 _ ?_
   refine AWP_seq_k fun K21 hK21 => ?_
   refine AWP_region (G := G) (T := T_l12First) T_l12First_ok ?_
   simp only [go_sem]
   refine hK21 _ ?_
   refine AWP_ret ?_
   simp only [hres, go_sem]
   first
     | exact finOk_mk (by rfl) (by decide)
     | refine ⟨?_, finOk_mk (by rfl) (by decide)⟩
       have hk3 : m = ns.length := by omega
       clear hK1 hK2 hK3 hK4 hK5 hL6 hK7 hK8 hK21
       subst hk3
       rw [spec_div byKey_rfl byKey_sym byKey_tr]
       exact ⟨rfl, rfl⟩

theorem l12Refine_fn : FnOk Tryz.prog 115 := fnOk_of Tryz.func115 rfl (by decide)

def T_l12Refine : Tab := fun f => if f = 115 then some (.p K_l12Refine) else T_l12First f
theorem T_l12Refine_ok : TabOk Tryz.prog T_l12Refine := fun f k h => by
  unfold T_l12Refine at h
  split at h
  · rename_i e; cases h; subst e; exact ⟨l12Refine_ok, l12Refine_fn⟩
  · exact T_l12First_ok f k h
attribute [go_sem] T_l12Refine K_l12Refine


def K_l12Classes : Con := ⟨[.ptr (.prod (.int .i64) (.prod (.row 24 (.row 2 (.int .i64))) (.prod (.row 102 (.prod (.int .i64) (.prod (.int .i64) (.prod (.int .i64) (.row 2 (.int .i64)))))) (.row 2 (.int .i64)))))], [⟨(.row 2 (.int .i64)), true⟩, ⟨.int .i64, true⟩], fun x => uOk x.1.2.1 x.1.2.2.1, fun x => (clsF x.1.2.1 x.1.2.2.1, countF x.1.2.1 x.1.2.2.1)⟩
set_option maxRecDepth 100000 in
set_option maxHeartbeats 8000000 in
theorem l12Classes_ok : PureT Tryz.prog 59 K_l12Classes := by
  refine pure_of_body Tryz.func59 rfl ?_
  have hres : Tryz.f59.results.toList = [.tmp 2, .tmp 3] := rfl
  rintro ⟨⟨(pi : Int), (ts : List (List Int)), (ns : List NodeD), (os : List Int)⟩, _⟩ hc hL
  simp only [K_l12Classes, lensOk, PK.lenOk, glensOk, GP.lenOk, flensOk, GO.lenOk, olensOk, Ty.lenOk, Ty.flat, Bool.and_true, Bool.true_and, Bool.and_false, Bool.false_and, true_and, and_true, implies_true, forall_const] at hL
  simp only [K_l12Classes, St.init, St.initG, Tryz.ntmps59, go_sem] 
  have hU : uOk ts ns := hc
  refine AWP_seq_k fun K1 hK1 => ?_
  refine AWP_region (G := G) (T := T_l12Refine) T_l12Refine_ok ?_
  simp only [go_sem]
  repeat (with_reducible refine And.intro (by first | omega | exact ⟨rfl, by omega, by omega, by omega⟩ | exact hU | exact ⟨hU, clsI_len _⟩) ?_)
  refine hK1 _ ?_
  refine AWP_seq_k fun K2 hK2 => ?_
  refine AWP_region (G := G) (T := T_l12Refine) T_l12Refine_ok ?_
  simp (maxSteps := 2000000) only [go_sem]
  repeat (with_reducible refine And.intro (by first | omega | exact ⟨rfl, by omega, by omega, by omega⟩ | exact hU | exact ⟨hU, clsI_len _⟩) ?_)
  refine hK2 _ ?_
  refine AWP_block ?_
  refine AWP_loop_k (ι := { j : Nat // ∀ q, q < j → clsI ts ns (q + 1) ≠ clsI ts ns q }) (fun k => ⟨[.c (.pt [] ((.prod (.int .i64) (.prod (.row 24 (.row 2 (.int .i64))) (.prod (.row 102 (.prod (.int .i64) (.prod (.int .i64) (.prod (.int .i64) (.row 2 (.int .i64)))))) (.row 2 (.int .i64)))))) (pi, ts, ns, os) 0), zz, zz, zz, .c (.ow 9001), .c (.sc (.int .i64 ((clsN ts ns k.1 : Int)))), zz, zz, zz, zz, zz, zz, zz, zz, zz, zz, zz, zz, zz, zz, zz, zz, zz, zz, zz, zz], [(9001, .row 2 (.int .i64) (clsI ts ns k.1) [])]⟩) (fun k => ns.length - k.1) ⟨0, fun q hq => absurd hq (Nat.not_lt_zero _)⟩ ?_ ?_
  ·
   refine Wk_to (by rfl) ?_
   simp (maxSteps := 2000000) only [go_sem]
   all_goals ((repeat' refine And.intro ?_ ?_) <;> first | rfl | (congr 1; done))
  rintro ⟨j, hj⟩ K3 hL3
  have hjn : j ≤ ns.length := Nat.le_trans (clsN_grow j hj) (clsN_le j)
  have hs1 : canon (phi ts ns (clsI ts ns j)) ns.length = clsI ts ns (j + 1) := rfl
  have hs2 : canonN (phi ts ns (clsI ts ns j)) ns.length = clsN ts ns (j + 1) := rfl
  refine AWP_block ?_
  refine AWP_seq_k fun K4 hK4 => ?_
  refine AWP_region (G := G) (T := T_l12Refine) T_l12Refine_ok ?_
  simp (maxSteps := 2000000) only [hs1, hs2, go_sem]
  repeat (with_reducible refine And.intro (by first | omega | exact ⟨rfl, by omega, by omega, by omega⟩ | exact hU | exact ⟨hU, clsI_len _⟩) ?_)
  refine hK4 _ ?_
  refine AWP_seq_k fun K5 hK5 => ?_
  refine AWP_seq_k fun K6 hK6 => ?_
  refine AWP_region (G := G) (T := T_l12Refine) T_l12Refine_ok ?_
  simp only [go_sem]
  repeat (with_reducible refine And.intro (by first | omega | exact ⟨rfl, by omega, by omega, by omega⟩ | exact hU | exact ⟨hU, clsI_len _⟩) ?_)
  refine hK6 _ ?_
  refine AWP_cond rfl ?_ ?_
  ·
   intro c0
   try simp only [decide_eq_true_eq, decide_eq_false_iff_not, Bool.not_eq_true', Bool.not_eq_false', ne_eq, Int.not_lt, Int.not_le] at c0
   have hcc : clsN ts ns (j + 1) = clsN ts ns j := by omega
   have hst : clsI ts ns (j + 1) = clsI ts ns j := clsI_stop (by omega)
   refine AWP_seq_k fun K7 hK7 => ?_
   refine AWP_region (G := G) (T := T_l12Refine) T_l12Refine_ok ?_
   simp only [go_sem]
   repeat (with_reducible refine And.intro (by first | omega | exact ⟨rfl, by omega, by omega, by omega⟩ | exact hU | exact ⟨hU, clsI_len _⟩) ?_)
   refine hK7 _ ?_
   refine AWP_ret ?_
   simp only [hres, go_sem]
   first
     | exact finOk_mk (by rfl) (by decide)
     | refine ⟨?_, finOk_mk (by rfl) (by decide)⟩
       have e1 := clsF_at hjn hst
       unfold countF
       rw [e1, countL_cls]
       exact ⟨hst, by first | rfl | (rw [hcc])⟩
  ·
   intro c0
   try simp only [decide_eq_true_eq, decide_eq_false_iff_not, Bool.not_eq_true', Bool.not_eq_false', ne_eq, Int.not_lt, Int.not_le] at c0
   have hne : clsI ts ns (j + 1) ≠ clsI ts ns j := fun e => by have := clsN_stop e; omega
   refine AWP_skip ?_
   simp only [go_sem]
   refine hK5 _ ?_
   refine AWP_seq_k fun K8 hK8 => ?_
   refine AWP_region (G := G) (T := T_l12Refine) T_l12Refine_ok ?_
   simp only [go_sem]
   repeat (with_reducible refine And.intro (by first | omega | exact ⟨rfl, by omega, by omega, by omega⟩ | exact hU | exact ⟨hU, clsI_len _⟩) ?_)
   refine hK8 _ ?_
   refine AWP_region (G := G) (T := T_l12Refine) T_l12Refine_ok ?_
   simp only [go_sem]
   repeat (with_reducible refine And.intro (by first | omega | exact ⟨rfl, by omega, by omega, by omega⟩ | exact hU | exact ⟨hU, clsI_len _⟩) ?_)
   refine hL3 ⟨j + 1, fun q hq => by rcases Nat.lt_succ_iff_lt_or_eq.1 hq with h | h; exact hj q h; subst h; exact hne⟩ _ (Wk_to (by rfl) ?_) ?_
   ·
    simp (maxSteps := 2000000) only [go_sem]
    all_goals ((repeat' refine And.intro ?_ ?_) <;> first | rfl | (congr 1; done))
   ·
    have := clsN_grow (ts := ts) (ns := ns) (j + 1) (fun q hq => by rcases Nat.lt_succ_iff_lt_or_eq.1 hq with h | h; exact hj q h; subst h; exact hne)
    have := clsN_le (ts := ts) (ns := ns) (j + 1)
    simp only []; omega

theorem l12Classes_fn : FnOk Tryz.prog 59 := fnOk_of Tryz.func59 rfl (by decide)

def T_l12Classes : Tab := fun f => if f = 59 then some (.p K_l12Classes) else T_l12Refine f
theorem T_l12Classes_ok : TabOk Tryz.prog T_l12Classes := fun f k h => by
  unfold T_l12Classes at h
  split at h
  · rename_i e; cases h; subst e; exact ⟨l12Classes_ok, l12Classes_fn⟩
  · exact T_l12Refine_ok f k h
attribute [go_sem] T_l12Classes K_l12Classes

end Go.Proofs.YthfopaimihmgiaaGreat
