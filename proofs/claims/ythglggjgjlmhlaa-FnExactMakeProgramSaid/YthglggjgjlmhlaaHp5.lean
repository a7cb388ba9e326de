/-
  Contracts of functions: eqInstr, eqInstrS, eqProgram.
-/
import Derived.Test.YthglggjgjlmhlaaHl2
import Derived.Test.YthglggjgjlmhlaaPk
namespace Go.Proofs.Ythglggjgjlmhlaa
open Go.RowKit
set_option linter.unusedSimpArgs false
set_option linter.unusedVariables false

def K_eqX : Con := ⟨[.val ((.prod (.int .i64) (.prod (.int .i64) (.prod (.int .i64) (.prod (.int .i64) (.prod (.row 2 (.int .i64)) (.int .i64))))))), .val ((.prod (.int .i64) (.prod (.int .i64) (.prod (.int .i64) (.prod (.int .i64) (.prod (.row 2 (.int .i64)) (.int .i64)))))))], [⟨.bool, true⟩], fun _ => True, fun x => eqD (x.1 : InstrD) (x.2.1 : InstrD)⟩
set_option maxRecDepth 100000 in
set_option maxHeartbeats 1000000 in
theorem eqX_ok : PureT Try.prog 149 K_eqX := by
  refine pure_of_body Try.func149 rfl ?_
  have hres : Try.f149.results.toList = [.tmp 4] := rfl
  rintro ⟨⟨(kd : Int), (a : Int), (bb : Int), (nd : Int), (fr : List Int), (tt : Int)⟩, ⟨(kd2 : Int), (a2 : Int), (bb2 : Int), (nd2 : Int), (fr2 : List Int), (tt2 : Int)⟩, _⟩ hc hL
  simp only [K_eqX, lensOk, PK.lenOk, glensOk, GP.lenOk, flensOk, GO.lenOk, olensOk, Ty.lenOk, Ty.flat, Bool.and_true, Bool.true_and, Bool.and_false, Bool.false_and, true_and, and_true, implies_true, forall_const] at hL
  simp only [K_eqX, St.init, St.initG, Try.ntmps149, go_sem] 
  refine AWP_seq_k fun K1 hK1 => ?_
  refine AWP_region (G := G) (T := T_eqP) T_eqP_ok ?_
  simp only [go_sem]
  refine hK1 _ ?_
  refine AWP_seq_k fun K2 hK2 => ?_
  refine AWP_seq_k fun K3 hK3 => ?_
  refine AWP_region (G := G) (T := T_eqP) T_eqP_ok ?_
  simp (maxSteps := 2000000) only [go_sem]
  repeat (with_reducible refine And.intro (by first | omega | exact ⟨rfl, by omega, by omega, by omega⟩) ?_)
  refine hK3 _ ?_
  refine AWP_cond rfl ?_ ?_
  ·
   intro c0
   try simp only [decide_eq_true_eq, decide_eq_false_iff_not, Bool.not_eq_true', Bool.not_eq_false', ne_eq, Int.not_lt, Int.not_le] at c0
   refine AWP_seq_k fun K4 hK4 => ?_
   refine AWP_region (G := G) (T := T_eqP) T_eqP_ok ?_
   simp only [go_sem]
   refine hK4 _ ?_
   refine AWP_ret ?_
   simp only [hres, go_sem]
   first
     | exact finOk_mk (by rfl) (by decide)
     | refine ⟨?_, finOk_mk (by rfl) (by decide)⟩
       clear hK1 hK2 hK3 hK4; simp_all [eqD]
  ·
   intro c0
   try simp only [decide_eq_true_eq, decide_eq_false_iff_not, Bool.not_eq_true', Bool.not_eq_false', ne_eq, Int.not_lt, Int.not_le] at c0
   refine AWP_skip ?_
   simp only [go_sem]
   refine hK2 _ ?_
   refine AWP_seq_k fun K5 hK5 => ?_
   refine AWP_seq_k fun K6 hK6 => ?_
   refine AWP_region (G := G) (T := T_eqP) T_eqP_ok ?_
   simp (maxSteps := 2000000) only [go_sem]
   repeat (with_reducible refine And.intro (by first | omega | exact ⟨rfl, by omega, by omega, by omega⟩) ?_)
   refine hK6 _ ?_
   refine AWP_cond rfl ?_ ?_
   ·
    intro c1
    try simp only [decide_eq_true_eq, decide_eq_false_iff_not, Bool.not_eq_true', Bool.not_eq_false', ne_eq, Int.not_lt, Int.not_le] at c1
    refine AWP_seq_k fun K7 hK7 => ?_
    refine AWP_region (G := G) (T := T_eqP) T_eqP_ok ?_
    simp only [go_sem]
    refine hK7 _ ?_
    refine AWP_ret ?_
    simp only [hres, go_sem]
    first
      | exact finOk_mk (by rfl) (by decide)
      | refine ⟨?_, finOk_mk (by rfl) (by decide)⟩
        clear hK1 hK2 hK3 hK5 hK6 hK7; simp_all [eqD]
   ·
    intro c1
    try simp only [decide_eq_true_eq, decide_eq_false_iff_not, Bool.not_eq_true', Bool.not_eq_false', ne_eq, Int.not_lt, Int.not_le] at c1
    refine AWP_skip ?_
    simp only [go_sem]
    refine hK5 _ ?_
    refine AWP_seq_k fun K8 hK8 => ?_
    refine AWP_seq_k fun K9 hK9 => ?_
    refine AWP_region (G := G) (T := T_eqP) T_eqP_ok ?_
    simp (maxSteps := 2000000) only [go_sem]
    repeat (with_reducible refine And.intro (by first | omega | exact ⟨rfl, by omega, by omega, by omega⟩) ?_)
    refine hK9 _ ?_
    refine AWP_cond rfl ?_ ?_
    ·
     intro c2
     try simp only [decide_eq_true_eq, decide_eq_false_iff_not, Bool.not_eq_true', Bool.not_eq_false', ne_eq, Int.not_lt, Int.not_le] at c2
     refine AWP_seq_k fun K10 hK10 => ?_
     refine AWP_region (G := G) (T := T_eqP) T_eqP_ok ?_
     simp only [go_sem]
     refine hK10 _ ?_
     refine AWP_ret ?_
     simp only [hres, go_sem]
     first
       | exact finOk_mk (by rfl) (by decide)
       | refine ⟨?_, finOk_mk (by rfl) (by decide)⟩
         clear hK1 hK2 hK3 hK5 hK6 hK8 hK9 hK10; simp_all [eqD]
    ·
     intro c2
     try simp only [decide_eq_true_eq, decide_eq_false_iff_not, Bool.not_eq_true', Bool.not_eq_false', ne_eq, Int.not_lt, Int.not_le] at c2
     refine AWP_skip ?_
     simp only [go_sem]
     refine hK8 _ ?_
     refine AWP_seq_k fun K11 hK11 => ?_
     refine AWP_seq_k fun K12 hK12 => ?_
     refine AWP_region (G := G) (T := T_eqP) T_eqP_ok ?_
     simp (maxSteps := 2000000) only [go_sem]
     repeat (with_reducible refine And.intro (by first | omega | exact ⟨rfl, by omega, by omega, by omega⟩) ?_)
     refine hK12 _ ?_
     refine AWP_cond rfl ?_ ?_
     ·
      intro c3
      try simp only [decide_eq_true_eq, decide_eq_false_iff_not, Bool.not_eq_true', Bool.not_eq_false', ne_eq, Int.not_lt, Int.not_le] at c3
      refine AWP_seq_k fun K13 hK13 => ?_
      refine AWP_region (G := G) (T := T_eqP) T_eqP_ok ?_
      simp only [go_sem]
      refine hK13 _ ?_
      refine AWP_ret ?_
      simp only [hres, go_sem]
      first
        | exact finOk_mk (by rfl) (by decide)
        | refine ⟨?_, finOk_mk (by rfl) (by decide)⟩
          clear hK1 hK2 hK3 hK5 hK6 hK8 hK9 hK11 hK12 hK13; simp_all [eqD]
     ·
      intro c3
      try simp only [decide_eq_true_eq, decide_eq_false_iff_not, Bool.not_eq_true', Bool.not_eq_false', ne_eq, Int.not_lt, Int.not_le] at c3
      refine AWP_skip ?_
      simp only [go_sem]
      refine hK11 _ ?_
      refine AWP_seq_k fun K14 hK14 => ?_
      refine AWP_seq_k fun K15 hK15 => ?_
      refine AWP_region (G := G) (T := T_eqP) T_eqP_ok ?_
      simp (maxSteps := 2000000) only [go_sem]
      repeat (with_reducible refine And.intro (by first | omega | exact ⟨rfl, by omega, by omega, by omega⟩) ?_)
      refine hK15 _ ?_
      refine AWP_cond rfl ?_ ?_
      ·
       intro c4
       try simp only [decide_eq_true_eq, decide_eq_false_iff_not, Bool.not_eq_true', Bool.not_eq_false', ne_eq, Int.not_lt, Int.not_le] at c4
       refine AWP_seq_k fun K16 hK16 => ?_
       refine AWP_region (G := G) (T := T_eqP) T_eqP_ok ?_
       simp only [go_sem]
       refine hK16 _ ?_
       refine AWP_ret ?_
       simp only [hres, go_sem]
       first
         | exact finOk_mk (by rfl) (by decide)
         | refine ⟨?_, finOk_mk (by rfl) (by decide)⟩
           clear hK1 hK2 hK3 hK5 hK6 hK8 hK9 hK11 hK12 hK14 hK15 hK16; simp_all [eqD]
      ·
       intro c4
       try simp only [decide_eq_true_eq, decide_eq_false_iff_not, Bool.not_eq_true', Bool.not_eq_false', ne_eq, Int.not_lt, Int.not_le] at c4
       refine AWP_skip ?_
       simp only [go_sem]
       refine hK14 _ ?_
       refine AWP_seq_k fun K17 hK17 => ?_
       refine AWP_seq_k fun K18 hK18 => ?_
       refine AWP_region (G := G) (T := T_eqP) T_eqP_ok ?_
       simp (maxSteps := 2000000) only [go_sem]
       repeat (with_reducible refine And.intro (by first | omega | exact ⟨rfl, by omega, by omega, by omega⟩) ?_)
       refine hK18 _ ?_
       refine AWP_cond rfl ?_ ?_
       ·
        intro c5
        try simp only [decide_eq_true_eq, decide_eq_false_iff_not, Bool.not_eq_true', Bool.not_eq_false', ne_eq, Int.not_lt, Int.not_le] at c5
        refine AWP_seq_k fun K19 hK19 => ?_
        refine AWP_region (G := G) (T := T_eqP) T_eqP_ok ?_
        simp only [go_sem]
        refine hK19 _ ?_
        refine AWP_ret ?_
        simp only [hres, go_sem]
        first
          | exact finOk_mk (by rfl) (by decide)
          | refine ⟨?_, finOk_mk (by rfl) (by decide)⟩
            clear hK1 hK2 hK3 hK5 hK6 hK8 hK9 hK11 hK12 hK14 hK15 hK17 hK18 hK19; simp_all [eqD]
       ·
        intro c5
        try simp only [decide_eq_true_eq, decide_eq_false_iff_not, Bool.not_eq_true', Bool.not_eq_false', ne_eq, Int.not_lt, Int.not_le] at c5
        refine AWP_skip ?_
        simp only [go_sem]
        refine hK17 _ ?_
        refine AWP_seq_k fun K20 hK20 => ?_
        refine AWP_region (G := G) (T := T_eqP) T_eqP_ok ?_
        simp only [go_sem]
        refine hK20 _ ?_
        refine AWP_ret ?_
        simp only [hres, go_sem]
        first
          | exact finOk_mk (by rfl) (by decide)
          | refine ⟨?_, finOk_mk (by rfl) (by decide)⟩
            clear hK1 hK2 hK3 hK5 hK6 hK8 hK9 hK11 hK12 hK14 hK15 hK17 hK18 hK20; simp_all [eqD]

theorem eqX_fn : FnOk Try.prog 149 := fnOk_of Try.func149 rfl (by decide)

def T_eqX : Tab := fun f => if f = 149 then some (.p K_eqX) else T_eqP f
theorem T_eqX_ok : TabOk Try.prog T_eqX := fun f k h => by
  unfold T_eqX at h
  split at h
  · rename_i e; cases h; subst e; exact ⟨eqX_ok, eqX_fn⟩
  · exact T_eqP_ok f k h
attribute [go_sem] T_eqX K_eqX


def K_eqXs : Con := ⟨[.val ((.row 174 (.prod (.int .i64) (.prod (.int .i64) (.prod (.int .i64) (.prod (.int .i64) (.prod (.row 2 (.int .i64)) (.int .i64)))))))), .val ((.row 174 (.prod (.int .i64) (.prod (.int .i64) (.prod (.int .i64) (.prod (.int .i64) (.prod (.row 2 (.int .i64)) (.int .i64))))))))], [⟨.bool, true⟩], fun _ => True, fun x => eqD (x.1 : List InstrD) (x.2.1 : List InstrD)⟩
set_option maxRecDepth 100000 in
set_option maxHeartbeats 1000000 in
theorem eqXs_ok : PureT Try.prog 102 K_eqXs := by
  refine pure_of_body Try.func102 rfl ?_
  have hres : Try.f102.results.toList = [.tmp 4] := rfl
  rintro ⟨(xs : List InstrD), (ys : List InstrD), _⟩ hc hL
  simp only [K_eqXs, lensOk, PK.lenOk, glensOk, GP.lenOk, flensOk, GO.lenOk, olensOk, Ty.lenOk, Ty.flat, Bool.and_true, Bool.true_and, Bool.and_false, Bool.false_and, true_and, and_true, implies_true, forall_const] at hL
  obtain ⟨lxs, lys⟩ := hL
  simp only [K_eqXs, St.init, St.initG, Try.ntmps102, go_sem] 
  refine AWP_seq_k fun K1 hK1 => ?_
  refine AWP_region (G := G) (T := T_eqX) T_eqX_ok ?_
  simp only [go_sem]
  refine hK1 _ ?_
  refine AWP_seq_k fun K2 hK2 => ?_
  refine AWP_seq_k fun K3 hK3 => ?_
  refine AWP_region (G := G) (T := T_eqX) T_eqX_ok ?_
  simp (maxSteps := 2000000) only [go_sem]
  refine hK3 _ ?_
  refine AWP_cond rfl ?_ ?_
  ·
   intro c0
   try simp only [decide_eq_true_eq, decide_eq_false_iff_not, Bool.not_eq_true', Bool.not_eq_false', ne_eq, Int.not_lt, Int.not_le] at c0
   refine AWP_seq_k fun K4 hK4 => ?_
   refine AWP_region (G := G) (T := T_eqX) T_eqX_ok ?_
   simp only [go_sem]
   refine hK4 _ ?_
   refine AWP_ret ?_
   simp only [hres, go_sem]
   first
     | exact finOk_mk (by rfl) (by decide)
     | refine ⟨?_, finOk_mk (by rfl) (by decide)⟩
       exact (eq_len (by omega)).symm
  ·
   intro c0
   try simp only [decide_eq_true_eq, decide_eq_false_iff_not, Bool.not_eq_true', Bool.not_eq_false', ne_eq, Int.not_lt, Int.not_le] at c0
   refine AWP_skip ?_
   simp only [go_sem]
   refine hK2 _ ?_
   refine AWP_seq_k fun K5 hK5 => ?_
   refine AWP_seq_k fun K6 hK6 => ?_
   refine AWP_region (G := G) (T := T_eqX) T_eqX_ok ?_
   simp only [go_sem]
   refine hK6 _ ?_
   refine AWP_block ?_
   refine AWP_loop_k (ι := { k : Nat // k ≤ xs.length ∧ xs.take k = ys.take k }) (fun k => ⟨[.c (.rd [] 174 ((.prod (.int .i64) (.prod (.int .i64) (.prod (.int .i64) (.prod (.int .i64) (.prod (.row 2 (.int .i64)) (.int .i64))))))) (xs)), .c (.rd [] 174 ((.prod (.int .i64) (.prod (.int .i64) (.prod (.int .i64) (.prod (.int .i64) (.prod (.row 2 (.int .i64)) (.int .i64))))))) (ys)), zz, zz, zz, .c (.sc (.int .i64 (k.1))), zz, zz, zz, zz, zz, zz, zz, zz, zz, zz, zz, zz, zz, zz, zz, zz, zz, zz, zz, zz, zz], []⟩) (fun k => xs.length - k.1) ⟨0, by simp, by simp⟩ ?_ ?_
   ·
    refine Wk_to (by rfl) ?_
    simp (maxSteps := 2000000) only [go_sem]
    all_goals (first | rfl | ((repeat' refine And.intro ?_ ?_) <;> first | rfl | simp))
   rintro ⟨k, hk, hp⟩ K7 hL7
   refine AWP_seq_k fun K8 hK8 => ?_
   refine AWP_seq_k fun K9 hK9 => ?_
   refine AWP_region (G := G) (T := T_eqX) T_eqX_ok ?_
   simp only [go_sem]
   refine hK9 _ ?_
   refine AWP_cond rfl ?_ ?_
   ·
    intro c1
    try simp only [decide_eq_true_eq, decide_eq_false_iff_not, Bool.not_eq_true', Bool.not_eq_false', ne_eq, Int.not_lt, Int.not_le] at c1
    refine AWP_skip ?_
    simp only [go_sem]
    refine hK8 _ ?_
    refine AWP_seq_k fun K10 hK10 => ?_
    refine AWP_block ?_
    refine AWP_seq_k fun K11 hK11 => ?_
    refine AWP_draw (G := G) (T := T_eqX) T_eqX_ok mixed
      [[], [], [0, 1], [0, 1, 2], [], [], [4, 5], [4, 5, 6], [0, 1, 2, 3, 4, 5, 6, 7], [0, 1, 2, 3, 4, 5, 6, 7, 8]]
      [[], [], [], [], [], [], [], [], [], []]
      [[], [], [], [], [], [], [], [], [], []] (by kernel_rfl) (by kernel_rfl) (adrawR_ok (acc := []) ?_)
    simp (maxSteps := 2000000) only [go_sem]
    repeat (with_reducible refine And.intro (by first | exact chk_leaf (by kernel_rfl) | omega | exact ⟨rfl, by omega, by omega, by omega⟩) ?_)
    refine hK11 _ ?_
    refine AWP_cond rfl ?_ ?_
    ·
     intro c2
     try simp only [decide_eq_true_eq, decide_eq_false_iff_not, Bool.not_eq_true', Bool.not_eq_false', ne_eq, Int.not_lt, Int.not_le] at c2
     refine AWP_seq_k fun K12 hK12 => ?_
     refine AWP_region (G := G) (T := T_eqX) T_eqX_ok ?_
     simp only [go_sem]
     refine hK12 _ ?_
     refine AWP_ret ?_
     simp only [hres, go_sem]
     first
       | exact finOk_mk (by rfl) (by decide)
       | refine ⟨?_, finOk_mk (by rfl) (by decide)⟩
         exact (eq_stop ((0, 0, 0, 0, [], 0) : InstrD) (m := k) (by first | assumption | exact decide_eq_false (by assumption))).symm
    ·
     intro c2
     try simp only [decide_eq_true_eq, decide_eq_false_iff_not, Bool.not_eq_true', Bool.not_eq_false', ne_eq, Int.not_lt, Int.not_le] at c2
     refine AWP_skip ?_
     simp only [go_sem]
     refine hK10 _ ?_
     refine AWP_region (G := G) (T := T_eqX) T_eqX_ok ?_
     simp only [go_sem]
     refine hL7 ⟨k + 1, by omega, eq_next (d := ((0, 0, 0, 0, [], 0) : InstrD)) (by omega) (by omega) hp (by first | assumption | exact decide_eq_true (by assumption))⟩ _ (Wk_to (by rfl) ?_) ?_
     ·
      simp (maxSteps := 2000000) only [go_sem]
      all_goals (first | rfl | ((repeat' refine And.intro ?_ ?_) <;> first | rfl | exact wk (by omega) | simp))
     ·
      first | (simp only []; omega) | omega | (simp; omega)
   ·
    intro c1
    try simp only [decide_eq_true_eq, decide_eq_false_iff_not, Bool.not_eq_true', Bool.not_eq_false', ne_eq, Int.not_lt, Int.not_le] at c1
    refine AWP_exit ?_
    simp only [go_sem]
    refine hK5 _ ?_
    refine AWP_seq_k fun K13 hK13 => ?_
    refine AWP_region (G := G) (T := T_eqX) T_eqX_ok ?_
    simp only [go_sem]
    refine hK13 _ ?_
    refine AWP_ret ?_
    simp only [hres, go_sem]
    first
      | exact finOk_mk (by rfl) (by decide)
      | refine ⟨?_, finOk_mk (by rfl) (by decide)⟩
        exact (eq_done (m := k) (by omega) (by omega) hp).symm

theorem eqXs_fn : FnOk Try.prog 102 := fnOk_of Try.func102 rfl (by decide)

def T_eqXs : Tab := fun f => if f = 102 then some (.p K_eqXs) else T_eqX f
theorem T_eqXs_ok : TabOk Try.prog T_eqXs := fun f k h => by
  unfold T_eqXs at h
  split at h
  · rename_i e; cases h; subst e; exact ⟨eqXs_ok, eqXs_fn⟩
  · exact T_eqX_ok f k h
attribute [go_sem] T_eqXs K_eqXs


def K_eqG : Con := ⟨[.val ((.prod (.int .i64) (.prod (.int .i64) (.prod (.row 24 (.row 2 (.int .i64))) (.prod (.row 174 (.prod (.int .i64) (.prod (.int .i64) (.prod (.int .i64) (.prod (.int .i64) (.prod (.row 2 (.int .i64)) (.int .i64))))))) (.row 2 (.int .i64))))))), .val ((.prod (.int .i64) (.prod (.int .i64) (.prod (.row 24 (.row 2 (.int .i64))) (.prod (.row 174 (.prod (.int .i64) (.prod (.int .i64) (.prod (.int .i64) (.prod (.int .i64) (.prod (.row 2 (.int .i64)) (.int .i64))))))) (.row 2 (.int .i64)))))))], [⟨.bool, true⟩], fun _ => True, fun x => eqD (x.1 : ProgD) (x.2.1 : ProgD)⟩
set_option maxRecDepth 100000 in
set_option maxHeartbeats 1000000 in
theorem eqG_ok : PureT Try.prog 53 K_eqG := by
  refine pure_of_body Try.func53 rfl ?_
  have hres : Try.f53.results.toList = [.tmp 4] := rfl
  rintro ⟨⟨(pi : Int), (rg : Int), (ts : List (List Int)), (xs : List InstrD), (os : List Int)⟩, ⟨(pi2 : Int), (rg2 : Int), (ts2 : List (List Int)), (xs2 : List InstrD), (os2 : List Int)⟩, _⟩ hc hL
  simp only [K_eqG, lensOk, PK.lenOk, glensOk, GP.lenOk, flensOk, GO.lenOk, olensOk, Ty.lenOk, Ty.flat, Bool.and_true, Bool.true_and, Bool.and_false, Bool.false_and, true_and, and_true, implies_true, forall_const] at hL
  simp only [K_eqG, St.init, St.initG, Try.ntmps53, go_sem] 
  refine AWP_seq_k fun K1 hK1 => ?_
  refine AWP_region (G := G) (T := T_eqXs) T_eqXs_ok ?_
  simp only [go_sem]
  refine hK1 _ ?_
  refine AWP_seq_k fun K2 hK2 => ?_
  refine AWP_seq_k fun K3 hK3 => ?_
  refine AWP_region (G := G) (T := T_eqXs) T_eqXs_ok ?_
  simp (maxSteps := 2000000) only [go_sem]
  repeat (with_reducible refine And.intro (by first | omega | exact ⟨rfl, by omega, by omega, by omega⟩) ?_)
  refine hK3 _ ?_
  refine AWP_cond rfl ?_ ?_
  ·
   intro c0
   try simp only [decide_eq_true_eq, decide_eq_false_iff_not, Bool.not_eq_true', Bool.not_eq_false', ne_eq, Int.not_lt, Int.not_le] at c0
   refine AWP_seq_k fun K4 hK4 => ?_
   refine AWP_region (G := G) (T := T_eqXs) T_eqXs_ok ?_
   simp only [go_sem]
   refine hK4 _ ?_
   refine AWP_ret ?_
   simp only [hres, go_sem]
   first
     | exact finOk_mk (by rfl) (by decide)
     | refine ⟨?_, finOk_mk (by rfl) (by decide)⟩
       clear hK1 hK2 hK3 hK4; simp_all [eqD]
  ·
   intro c0
   try simp only [decide_eq_true_eq, decide_eq_false_iff_not, Bool.not_eq_true', Bool.not_eq_false', ne_eq, Int.not_lt, Int.not_le] at c0
   refine AWP_skip ?_
   simp only [go_sem]
   refine hK2 _ ?_
   refine AWP_seq_k fun K5 hK5 => ?_
   refine AWP_seq_k fun K6 hK6 => ?_
   refine AWP_region (G := G) (T := T_eqXs) T_eqXs_ok ?_
   simp (maxSteps := 2000000) only [go_sem]
   repeat (with_reducible refine And.intro (by first | omega | exact ⟨rfl, by omega, by omega, by omega⟩) ?_)
   refine hK6 _ ?_
   refine AWP_cond rfl ?_ ?_
   ·
    intro c1
    try simp only [decide_eq_true_eq, decide_eq_false_iff_not, Bool.not_eq_true', Bool.not_eq_false', ne_eq, Int.not_lt, Int.not_le] at c1
    refine AWP_seq_k fun K7 hK7 => ?_
    refine AWP_region (G := G) (T := T_eqXs) T_eqXs_ok ?_
    simp only [go_sem]
    refine hK7 _ ?_
    refine AWP_ret ?_
    simp only [hres, go_sem]
    first
      | exact finOk_mk (by rfl) (by decide)
      | refine ⟨?_, finOk_mk (by rfl) (by decide)⟩
        clear hK1 hK2 hK3 hK5 hK6 hK7; simp_all [eqD]
   ·
    intro c1
    try simp only [decide_eq_true_eq, decide_eq_false_iff_not, Bool.not_eq_true', Bool.not_eq_false', ne_eq, Int.not_lt, Int.not_le] at c1
    refine AWP_skip ?_
    simp only [go_sem]
    refine hK5 _ ?_
    refine AWP_seq_k fun K8 hK8 => ?_
    refine AWP_seq_k fun K9 hK9 => ?_
    refine AWP_region (G := G) (T := T_eqXs) T_eqXs_ok ?_
    simp (maxSteps := 2000000) only [go_sem]
    repeat (with_reducible refine And.intro (by first | omega | exact ⟨rfl, by omega, by omega, by omega⟩) ?_)
    refine hK9 _ ?_
    refine AWP_cond rfl ?_ ?_
    ·
     intro c2
     try simp only [decide_eq_true_eq, decide_eq_false_iff_not, Bool.not_eq_true', Bool.not_eq_false', ne_eq, Int.not_lt, Int.not_le] at c2
     refine AWP_seq_k fun K10 hK10 => ?_
     refine AWP_region (G := G) (T := T_eqXs) T_eqXs_ok ?_
     simp only [go_sem]
     refine hK10 _ ?_
     refine AWP_ret ?_
     simp only [hres, go_sem]
     first
       | exact finOk_mk (by rfl) (by decide)
       | refine ⟨?_, finOk_mk (by rfl) (by decide)⟩
         clear hK1 hK2 hK3 hK5 hK6 hK8 hK9 hK10; simp_all [eqD]
    ·
     intro c2
     try simp only [decide_eq_true_eq, decide_eq_false_iff_not, Bool.not_eq_true', Bool.not_eq_false', ne_eq, Int.not_lt, Int.not_le] at c2
     refine AWP_skip ?_
     simp only [go_sem]
     refine hK8 _ ?_
     refine AWP_seq_k fun K11 hK11 => ?_
     refine AWP_seq_k fun K12 hK12 => ?_
     refine AWP_region (G := G) (T := T_eqXs) T_eqXs_ok ?_
     simp (maxSteps := 2000000) only [go_sem]
     repeat (with_reducible refine And.intro (by first | omega | exact ⟨rfl, by omega, by omega, by omega⟩) ?_)
     refine hK12 _ ?_
     refine AWP_cond rfl ?_ ?_
     ·
      intro c3
      try simp only [decide_eq_true_eq, decide_eq_false_iff_not, Bool.not_eq_true', Bool.not_eq_false', ne_eq, Int.not_lt, Int.not_le] at c3
      refine AWP_seq_k fun K13 hK13 => ?_
      refine AWP_region (G := G) (T := T_eqXs) T_eqXs_ok ?_
      simp only [go_sem]
      refine hK13 _ ?_
      refine AWP_ret ?_
      simp only [hres, go_sem]
      first
        | exact finOk_mk (by rfl) (by decide)
        | refine ⟨?_, finOk_mk (by rfl) (by decide)⟩
          clear hK1 hK2 hK3 hK5 hK6 hK8 hK9 hK11 hK12 hK13; simp_all [eqD]
     ·
      intro c3
      try simp only [decide_eq_true_eq, decide_eq_false_iff_not, Bool.not_eq_true', Bool.not_eq_false', ne_eq, Int.not_lt, Int.not_le] at c3
      refine AWP_skip ?_
      simp only [go_sem]
      refine hK11 _ ?_
      refine AWP_seq_k fun K14 hK14 => ?_
      refine AWP_seq_k fun K15 hK15 => ?_
      refine AWP_region (G := G) (T := T_eqXs) T_eqXs_ok ?_
      simp (maxSteps := 2000000) only [go_sem]
      repeat (with_reducible refine And.intro (by first | omega | exact ⟨rfl, by omega, by omega, by omega⟩) ?_)
      refine hK15 _ ?_
      refine AWP_cond rfl ?_ ?_
      ·
       intro c4
       try simp only [decide_eq_true_eq, decide_eq_false_iff_not, Bool.not_eq_true', Bool.not_eq_false', ne_eq, Int.not_lt, Int.not_le] at c4
       refine AWP_seq_k fun K16 hK16 => ?_
       refine AWP_region (G := G) (T := T_eqXs) T_eqXs_ok ?_
       simp only [go_sem]
       refine hK16 _ ?_
       refine AWP_ret ?_
       simp only [hres, go_sem]
       first
         | exact finOk_mk (by rfl) (by decide)
         | refine ⟨?_, finOk_mk (by rfl) (by decide)⟩
           clear hK1 hK2 hK3 hK5 hK6 hK8 hK9 hK11 hK12 hK14 hK15 hK16; simp_all [eqD]
      ·
       intro c4
       try simp only [decide_eq_true_eq, decide_eq_false_iff_not, Bool.not_eq_true', Bool.not_eq_false', ne_eq, Int.not_lt, Int.not_le] at c4
       refine AWP_skip ?_
       simp only [go_sem]
       refine hK14 _ ?_
       refine AWP_seq_k fun K17 hK17 => ?_
       refine AWP_region (G := G) (T := T_eqXs) T_eqXs_ok ?_
       simp only [go_sem]
       refine hK17 _ ?_
       refine AWP_ret ?_
       simp only [hres, go_sem]
       first
         | exact finOk_mk (by rfl) (by decide)
         | refine ⟨?_, finOk_mk (by rfl) (by decide)⟩
           clear hK1 hK2 hK3 hK5 hK6 hK8 hK9 hK11 hK12 hK14 hK15 hK17; simp_all [eqD]

theorem eqG_fn : FnOk Try.prog 53 := fnOk_of Try.func53 rfl (by decide)

def T_eqG : Tab := fun f => if f = 53 then some (.p K_eqG) else T_eqXs f
theorem T_eqG_ok : TabOk Try.prog T_eqG := fun f k h => by
  unfold T_eqG at h
  split at h
  · rename_i e; cases h; subst e; exact ⟨eqG_ok, eqG_fn⟩
  · exact T_eqXs_ok f k h
attribute [go_sem] T_eqG K_eqG

end Go.Proofs.Ythglggjgjlmhlaa
