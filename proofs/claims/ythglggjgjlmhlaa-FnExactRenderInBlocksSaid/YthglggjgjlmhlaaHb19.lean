/-
  Contracts of functions: RenderInBlocks.
-/
import Derived.Test.YthglggjgjlmhlaaHb16
import Derived.Test.YthglggjgjlmhlaaPi
import Derived.Test.YthglggjgjlmhlaaGx
namespace Go.Proofs.Ythglggjgjlmhlaa
open Go.RowKit
set_option linter.unusedSimpArgs false
set_option linter.unusedVariables false

def K_specRib : Con := ⟨[.val ((.prod (.int .i64) (.prod (.row 24 (.row 2 (.int .i64))) (.prod (.row 140 (.prod (.int .i64) (.prod (.int .i64) (.prod (.int .i64) (.row 2 (.int .i64)))))) (.row 2 (.int .i64)))))), .val ((.row 24 (.row 2 (.int .i64)))), .val ((.row 2 (.int .i64)))], [⟨(.row 24 (.row 2 (.int .i64))), true⟩, ⟨.int .i64, true⟩], fun _ => True, fun x => ribR x.1 x.2.1 x.2.2.1⟩
set_option maxRecDepth 100000 in
set_option maxHeartbeats 8000000 in
theorem specRib_ok : PureT Try.prog 35 K_specRib := by
  refine pure_of_body Try.func35 rfl ?_
  have hres : Try.f35.results.toList = [.tmp 6, .tmp 7] := rfl
  rintro ⟨⟨(pi : Int), (ts : List (List Int)), (ns : List NodeD), (os : List Int)⟩, (ins : List (List Int)), (sz : List Int), _⟩ hc hL
  simp only [K_specRib, lensOk, PK.lenOk, glensOk, GP.lenOk, flensOk, GO.lenOk, olensOk, Ty.lenOk, Ty.flat, Bool.and_true, Bool.true_and, Bool.and_false, Bool.false_and, true_and, and_true, implies_true, forall_const] at hL
  simp only [K_specRib, St.init, St.initG, Try.ntmps35, go_sem] 
  refine AWP_seq_k fun K1 hK1 => ?_
  refine AWP_region (G := G) (T := T_specRender) T_specRender_ok ?_
  simp only [go_sem]
  refine hK1 _ ?_
  refine AWP_seq_k fun K2 hK2 => ?_
  refine AWP_seq_k fun K3 hK3 => ?_
  refine AWP_region (G := G) (T := T_specRender) T_specRender_ok ?_
  simp only [go_sem]
  repeat (with_reducible refine And.intro (by first | omega | exact ⟨rfl, by omega, by omega, by omega⟩) ?_)
  refine hK3 _ ?_
  refine AWP_cond rfl ?_ ?_
  ·
   intro c0
   try simp only [decide_eq_true_eq, decide_eq_false_iff_not, Bool.not_eq_true', Bool.not_eq_false', ne_eq, Int.not_lt, Int.not_le] at c0
   refine AWP_seq_k fun K4 hK4 => ?_
   refine AWP_region (G := G) (T := T_specRender) T_specRender_ok ?_
   simp only [go_sem]
   refine hK4 _ ?_
   refine AWP_ret ?_
   simp only [hres, go_sem]
   first
     | exact finOk_mk (by rfl) (by decide)
     | refine ⟨?_, finOk_mk (by rfl) (by decide)⟩
       first | (rw [ribR_1 c0]; exact ⟨rfl, rfl⟩) | (rw [ribR_1 c0])
  ·
   intro c0
   try simp only [decide_eq_true_eq, decide_eq_false_iff_not, Bool.not_eq_true', Bool.not_eq_false', ne_eq, Int.not_lt, Int.not_le] at c0
   have hF := (patchB_parts c0).1
   have hs0 := startL_ok hF
   have ho4 : os.length ≤ 4 := (formedB_parts hF).2.1
   refine AWP_skip ?_
   simp only [go_sem]
   refine hK2 _ ?_
   refine AWP_seq_k fun K5 hK5 => ?_
   refine AWP_region (G := G) (T := T_specRender) T_specRender_ok ?_
   simp only [go_sem]
   refine hK5 _ ?_
   refine AWP_seq_k fun K6 hK6 => ?_
   refine AWP_region (G := G) (T := T_specRender) T_specRender_ok ?_
   simp only [go_sem]
   repeat (with_reducible refine And.intro (by first | omega | exact ⟨rfl, by omega, by omega, by omega⟩) ?_)
   refine hK6 _ ?_
   refine AWP_seq_k fun K7 hK7 => ?_
   refine AWP_seq_k fun K8 hK8 => ?_
   refine AWP_region (G := G) (T := T_specRender) T_specRender_ok ?_
   simp only [go_sem]
   refine hK8 _ ?_
   refine AWP_block ?_
   refine AWP_loop_k (ι := { s : Nat × Bool × Int // s.1 ≤ sz.length ∧ s.2.1 = (sigB (pi, ts, ns, os) ins && sizB (sz.take s.1)) ∧ (s.2.1 = true → s.2.2 = (sz.take s.1).sum) }) (fun k => ⟨[zz, .c (.rd [] 24 (.row 2 (.int .i64)) (ins)), .c (.rd [] 2 (.int .i64) (sz)), .c (.po 148 0), zz, zz, zz, zz, .c (.sc (.int .i64 (k.1.2.2))), .c (.sc (.bool (k.1.2.1))), .c (.sc (.int .i64 (k.1.1))), zz, zz, zz, zz, zz, zz, zz, zz, zz, zz, zz, zz, zz, zz, zz, zz, zz, zz, zz, zz, zz, zz, zz, zz, zz, zz, zz, zz, zz, zz, zz, zz, zz, zz, zz, zz, zz, zz, zz, zz, zz, zz, zz, zz, zz, zz, zz, zz, zz, zz, zz, zz, zz, zz, zz, zz, zz, zz, zz, zz, zz, zz, zz, zz, zz, zz, zz, zz, zz, zz, zz, zz, zz, zz, zz, zz, zz], [(148, .box [.sc (.int .i64 (pi)), .rd [] 24 ((.row 2 (.int .i64))) (ts), .rd [] 140 ((.prod (.int .i64) (.prod (.int .i64) (.prod (.int .i64) (.row 2 (.int .i64)))))) (ns), .rd [] 2 (.int .i64) (os)])]⟩) (fun k => sz.length - k.1.1) ⟨(0, sigB (pi, ts, ns, os) ins, 0), by simp, by simp [sizB, sizesGo], by simp⟩ ?_ ?_
   ·
    refine Wk_to (by rfl) ?_
    simp (maxSteps := 2000000) only [go_sem]
    all_goals (first | rfl | ((repeat' refine And.intro ?_ ?_) <;> first | rfl | simp))
   rintro ⟨⟨i, ok, n⟩, hi, hok, hn⟩ K9 hL9
   have hi : i ≤ sz.length := hi
   have hok : ok = (sigB (pi, ts, ns, os) ins && sizB (sz.take i)) := hok
   have hn : ok = true → n = (sz.take i).sum := hn
   have hbb : ok = true → 0 ≤ n ∧ n ≤ 4000 := fun e => by rw [hn e]; rw [hok, Bool.and_eq_true] at e; exact sizB_bd e.2
   refine AWP_seq_k fun K10 hK10 => ?_
   refine AWP_seq_k fun K11 hK11 => ?_
   refine AWP_region (G := G) (T := T_specRender) T_specRender_ok ?_
   simp (maxSteps := 2000000) only [go_sem]
   repeat' (first | (with_reducible refine And.intro (by first | omega | exact ⟨rfl, by omega, by omega, by omega⟩) ?_) | (with_reducible refine gcase_dt (fun g6 => ?_) (fun g6 => ?_)) | (with_reducible refine gcase_df (fun g6 => ?_) (fun g6 => ?_)) | (with_reducible refine gcase_ndt (fun g6 => ?_) (fun g6 => ?_)) | (with_reducible refine gcase_ndf (fun g6 => ?_) (fun g6 => ?_)) | (with_reducible refine gcase_nt (fun g6 => ?_) (fun g6 => ?_)) | (with_reducible refine gcase_nf (fun g6 => ?_) (fun g6 => ?_)) | (with_reducible refine gcase_mk (fun g6 => ?_) (fun g6 => ?_)))
   all_goals
    refine hK11 _ ?_
    refine AWP_cond rfl ?_ ?_
    ·
     intro c1
     try simp only [decide_eq_true_eq, decide_eq_false_iff_not, Bool.not_eq_true', Bool.not_eq_false', ne_eq, Int.not_lt, Int.not_le, Bool.true_eq_false, Bool.false_eq_true] at c1
     all_goals
      refine AWP_skip ?_
      simp only [go_sem]
      refine hK10 _ ?_
      refine AWP_seq_k fun K12 hK12 => ?_
      refine AWP_block ?_
      refine AWP_seq_k fun K13 hK13 => ?_
      have hoke : ok = true := by assumption
      obtain ⟨hb1, hb2⟩ := hbb hoke
      have hne := hn hoke
      rw [hok, Bool.and_eq_true] at hoke
      obtain ⟨hsg, hsz⟩ := hoke
      have hw4 : IntKind.i64.wrap (4000 - n) = 4000 - n := wrapI (by omega)
      refine AWP_region (G := G) (T := T_specRender) T_specRender_ok ?_
      simp (maxSteps := 2000000) only [hw4, go_sem]
      repeat (with_reducible refine And.intro (by first | omega | exact ⟨rfl, by omega, by omega, by omega⟩) ?_)
      have hnx1 : inR (sz.getD i 0) 0 (4000 - n) = (sigB (pi, ts, ns, os) ins && sizB (sz.take (i + 1))) := by rw [hsg, sizB_next (by omega), hsz, Bool.true_and, Bool.true_and, hne]
      have hnx2 : inR (sz.getD i 0) 0 (4000 - n) = true → IntKind.i64.wrap (n + sz.getD i 0) = (sz.take (i + 1)).sum := fun e => by
        have h3 := inR_iff.1 e
        rw [wrapI (by omega), sum_next (by omega), hne]
      refine hK13 _ ?_
      refine AWP_region (G := G) (T := T_specRender) T_specRender_ok ?_
      simp (maxSteps := 2000000) only [go_sem]
      repeat (with_reducible refine And.intro (by first | omega | exact ⟨rfl, by omega, by omega, by omega⟩) ?_)
      refine hK12 _ ?_
      refine AWP_region (G := G) (T := T_specRender) T_specRender_ok ?_
      simp only [go_sem]
      refine hL9 ⟨(i + 1, inR (sz.getD i 0) 0 (4000 - n), IntKind.i64.wrap (n + sz.getD i 0)), by show i + 1 ≤ _; omega, hnx1, hnx2⟩ _ (Wk_to (by rfl) ?_) ?_
      ·
       simp (maxSteps := 2000000) only [go_sem]
       all_goals ((repeat' refine And.intro ?_ ?_) <;> first | rfl | exact wk (by omega) | assumption)
      ·
       first | (simp only []; omega) | omega | (simp; omega)
    ·
     intro c1
     try simp only [decide_eq_true_eq, decide_eq_false_iff_not, Bool.not_eq_true', Bool.not_eq_false', ne_eq, Int.not_lt, Int.not_le, Bool.true_eq_false, Bool.false_eq_true] at c1
     all_goals
      refine AWP_exit ?_
      simp only [go_sem]
      refine hK7 _ ?_
      refine AWP_seq_k fun K14 hK14 => ?_
      refine AWP_seq_k fun K15 hK15 => ?_
      refine AWP_region (G := G) (T := T_specRender) T_specRender_ok ?_
      simp only [go_sem]
      repeat (with_reducible refine And.intro (by first | omega | exact ⟨rfl, by omega, by omega, by omega⟩) ?_)
      refine hK15 _ ?_
      refine AWP_cond rfl ?_ ?_
      ·
       intro c2
       try simp only [decide_eq_true_eq, decide_eq_false_iff_not, Bool.not_eq_true', Bool.not_eq_false', ne_eq, Int.not_lt, Int.not_le, Bool.true_eq_false, Bool.false_eq_true] at c2
       all_goals
        have hK : (sigB (pi, ts, ns, os) ins && sizB sz) = false := by
          rw [show ok = false by assumption] at hok
          cases e : sizB (sz.take i) with
          | false => rw [sizB_bad e, Bool.and_false]
          | true => rw [e, Bool.and_true] at hok; rw [← hok]; rfl
        refine AWP_seq_k fun K16 hK16 => ?_
        refine AWP_region (G := G) (T := T_specRender) T_specRender_ok ?_
        simp only [go_sem]
        refine hK16 _ ?_
        refine AWP_ret ?_
        simp only [hres, go_sem]
        first
          | exact finOk_mk (by rfl) (by decide)
          | refine ⟨?_, finOk_mk (by rfl) (by decide)⟩
            first | (rw [ribR_2 c0 hK]; exact ⟨rfl, rfl⟩) | (rw [ribR_2 c0 hK])
      ·
       intro c2
       try simp only [decide_eq_true_eq, decide_eq_false_iff_not, Bool.not_eq_true', Bool.not_eq_false', ne_eq, Int.not_lt, Int.not_le, Bool.true_eq_false, Bool.false_eq_true] at c2
       all_goals
        have hoke : ok = true := by assumption
        have hil : sz.length ≤ i := by first | omega | (exfalso; simp_all; done)
        rw [hok, Bool.and_eq_true, List.take_of_length_le hil] at hoke
        obtain ⟨hsg, hsz⟩ := hoke
        have hin := sigB_iff.1 hsg
        have hK : (sigB (pi, ts, ns, os) ins && sizB sz) = true := by rw [hsg, hsz]; rfl
        refine AWP_skip ?_
        simp only [go_sem]
        refine hK14 _ ?_
        refine AWP_seq_k fun K17 hK17 => ?_
        refine AWP_region (G := G) (T := T_specRender) T_specRender_ok ?_
        simp only [go_sem]
        repeat (with_reducible refine And.intro (by first | omega | exact ⟨rfl, by omega, by omega, by omega⟩ | exact c0) ?_)
        refine hK17 _ ?_
        refine AWP_seq_k fun K18 hK18 => ?_
        refine AWP_region (G := G) (T := T_specRender) T_specRender_ok ?_
        simp (maxSteps := 2000000) only [List.nodup_nil, go_sem]
        repeat (with_reducible refine And.intro (by first | omega | exact ⟨rfl, by omega, by omega, by omega⟩ | exact ⟨by omega, by omega⟩) ?_)
        refine hK18 _ ?_
        refine AWP_seq_k fun K19 hK19 => ?_
        refine AWP_region (G := G) (T := T_specRender) T_specRender_ok ?_
        simp only [go_sem]
        refine hK19 _ ?_
        refine AWP_seq_k fun K20 hK20 => ?_
        refine AWP_seq_k fun K21 hK21 => ?_
        refine AWP_region (G := G) (T := T_specRender) T_specRender_ok ?_
        simp only [go_sem]
        refine hK21 _ ?_
        refine AWP_block ?_
        refine AWP_wk (Wk_freeB _ 820 (by decide)) ?_
        simp (maxSteps := 2000000) only [go_sem]
        refine AWP_wk (Wk_weak _ 276 0 [148]) ?_
        simp (maxSteps := 2000000) only [go_sem]
        refine AWP_loop_k (ι := { s : Nat × Nat // s.1 ≤ sz.length ∧ ((s.2 : Nat) : Int) = (sz.take s.1).sum }) (fun k => ⟨[zz, .c (.rd [] 24 (.row 2 (.int .i64)) (ins)), .c (.rd [] 2 (.int .i64) (sz)), .c (.po 148 0), zz, zz, zz, zz, zz, zz, zz, .c (.po 276 0), .c (.ow 9001), .c (.sc (.int .i64 ((k.1.2 : Int)))), .c (.sc (.int .i64 (k.1.1))), zz, zz, zz, zz, zz, zz, zz, zz, zz, zz, zz, zz, zz, zz, zz, zz, zz, zz, zz, zz, zz, zz, zz, zz, zz, zz, zz, zz, zz, zz, zz, zz, zz, zz, zz, zz, zz, zz, zz, zz, zz, zz, zz, zz, zz, zz, zz, zz, zz, zz, zz, zz, zz, zz, zz, zz, zz, zz, zz, zz, zz, zz, zz, zz, zz, zz, zz, zz, zz, zz, zz, zz, zz], [(148, .box [.sc (.int .i64 (pi)), .rd [] 24 ((.row 2 (.int .i64))) (ts), .rd [] 140 ((.prod (.int .i64) (.prod (.int .i64) (.prod (.int .i64) (.row 2 (.int .i64)))))) (ns), .rd [] 2 (.int .i64) (os)]), (276, .box [.rd [148] 24 ((.row 2 (.int .i64))) ((blockSt (pi, ts, ns, os) ins 0 k.1.2 (startL (pi, ts, ns, os), List.replicate os.length [])).1)]), (9001, .tree 24 (.row 2 (.int .i64)) ((blockSt (pi, ts, ns, os) ins 0 k.1.2 (startL (pi, ts, ns, os), List.replicate os.length [])).2) none)]⟩) (fun k => sz.length - k.1.1) ⟨(0, 0), by simp, by simp⟩ ?_ ?_
        ·
         refine Wk_to (by rfl) ?_
         simp (maxSteps := 2000000) only [go_sem]
         all_goals (first | rfl | ((repeat' refine And.intro ?_ ?_) <;> first | rfl | simp))
        rintro ⟨⟨j, a⟩, hj, ha⟩ K22 hL22
        have hj : j ≤ sz.length := hj
        have ha : ((a : Nat) : Int) = (sz.take j).sum := ha
        have hs1 := sizB_bd (sizB_take (k := j) hsz)
        obtain ⟨hks, hko⟩ := block_ok (p := (pi, ts, ns, os)) (ins := ins) (frm := 0) (s := startL (pi, ts, ns, os)) (o := List.replicate os.length []) hF hs0 hin (by simp) a
        have hko : (blockSt (pi, ts, ns, os) ins 0 a (startL (pi, ts, ns, os), List.replicate os.length [])).2.length = os.length := hko
        refine AWP_seq_k fun K23 hK23 => ?_
        refine AWP_seq_k fun K24 hK24 => ?_
        refine AWP_region (G := G) (T := T_specRender) T_specRender_ok ?_
        simp only [go_sem]
        refine hK24 _ ?_
        refine AWP_cond rfl ?_ ?_
        ·
         intro c3
         try simp only [decide_eq_true_eq, decide_eq_false_iff_not, Bool.not_eq_true', Bool.not_eq_false', ne_eq, Int.not_lt, Int.not_le, Bool.true_eq_false, Bool.false_eq_true] at c3
         all_goals
          have hs2 := sizB_bd (sizB_take (k := j + 1) hsz)
          have hx1 : inR (sz.getD j 0) 0 (4000 - (sz.take j).sum) = true := by
            have := sizB_take (k := j + 1) hsz
            rw [sizB_next (by omega), Bool.and_eq_true] at this; exact this.2
          obtain ⟨hx2, hx3⟩ := inR_iff.1 hx1
          have hq6 : (a : Int) + sz.getD j 0 ≤ 1000000 := by omega
          have hwa : IntKind.i64.wrap ((a : Int) + sz.getD j 0) = ((a + (sz.getD j 0).toNat : Nat) : Int) := by rw [wrapI (by omega)]; omega
          have hanx : ((a + (sz.getD j 0).toNat : Nat) : Int) = (sz.take (j + 1)).sum := by rw [sum_next (by omega)]; omega
          obtain ⟨hst1, hst2⟩ := block_step (p := (pi, ts, ns, os)) (ins := ins) (s := startL (pi, ts, ns, os)) (o := List.replicate os.length []) a (sz.getD j 0).toNat (by rw [List.length_replicate]; exact hko)
          rw [List.length_replicate] at hst1 hst2
          obtain ⟨hpk, hpo⟩ := block_ok (p := (pi, ts, ns, os)) (ins := ins) (frm := (a : Int)) (s := (blockSt (pi, ts, ns, os) ins 0 a (startL (pi, ts, ns, os), List.replicate os.length [])).1) (o := List.replicate os.length []) hF hks hin (by simp) (sz.getD j 0).toNat
          have hpo : (blockSt (pi, ts, ns, os) ins (a : Int) (sz.getD j 0).toNat ((blockSt (pi, ts, ns, os) ins 0 a (startL (pi, ts, ns, os), List.replicate os.length [])).1, List.replicate os.length [])).2.length = os.length := hpo
          have hbh : (behind (blockSt (pi, ts, ns, os) ins 0 a (startL (pi, ts, ns, os), List.replicate os.length [])).2 (blockSt (pi, ts, ns, os) ins (a : Int) (sz.getD j 0).toNat ((blockSt (pi, ts, ns, os) ins 0 a (startL (pi, ts, ns, os), List.replicate os.length [])).1, List.replicate os.length [])).2).length = os.length := by rw [behind_len (by omega)]; omega
          refine AWP_skip ?_
          simp only [go_sem]
          refine hK23 _ ?_
          refine AWP_seq_k fun K25 hK25 => ?_
          refine AWP_block ?_
          refine AWP_seq_k fun K26 hK26 => ?_
          refine AWP_region (G := G) (T := T_specRender) T_specRender_ok ?_
          simp (maxSteps := 2000000) only [go_sem]
          repeat (with_reducible refine And.intro (by first | omega | exact ⟨rfl, by omega, by omega, by omega⟩ | with_unfolding_all exact ⟨c0, hks, hin, Int.natCast_nonneg _, hx2, hq6⟩) ?_)
          refine hK26 _ ?_
          refine AWP_seq_k fun K27 hK27 => ?_
          refine AWP_region (G := G) (T := T_specRender) T_specRender_ok ?_
          simp (maxSteps := 2000000) only [hwa, go_sem]
          repeat (with_reducible refine And.intro (by first | omega | exact ⟨rfl, by omega, by omega, by omega⟩) ?_)
          refine hK27 _ ?_
          refine AWP_seq_k fun K28 hK28 => ?_
          refine AWP_region (G := G) (T := T_specRender) T_specRender_ok ?_
          simp only [go_sem]
          refine hK28 _ ?_
          refine AWP_block ?_
          refine AWP_loop_k (ι := { m : Nat // m ≤ os.length }) (fun k' => ⟨[zz, .c (.rd [] 24 (.row 2 (.int .i64)) (ins)), .c (.rd [] 2 (.int .i64) (sz)), .c (.po 148 0), zz, zz, zz, zz, zz, zz, zz, .c (.po 276 0), .c (.ow 9001), .c (.sc (.int .i64 (((a + (sz.getD j 0).toNat : Nat) : Int)))), .c (.sc (.int .i64 (j))), .c (.ow 9002), .c (.sc (.int .i64 (k'.1))), zz, zz, zz, zz, zz, zz, zz, zz, zz, zz, zz, zz, zz, zz, zz, zz, zz, zz, zz, zz, zz, zz, zz, zz, zz, zz, zz, zz, zz, zz, zz, zz, zz, zz, zz, zz, zz, zz, zz, zz, zz, zz, zz, zz, zz, zz, zz, zz, zz, zz, zz, zz, zz, zz, zz, zz, zz, zz, zz, zz, zz, zz, zz, zz, zz, zz, zz, zz, zz, zz, zz], [(148, .box [.sc (.int .i64 (pi)), .rd [] 24 ((.row 2 (.int .i64))) (ts), .rd [] 140 ((.prod (.int .i64) (.prod (.int .i64) (.prod (.int .i64) (.row 2 (.int .i64)))))) (ns), .rd [] 2 (.int .i64) (os)]), (276, .box [.rd [148] 24 ((.row 2 (.int .i64))) ((blockSt (pi, ts, ns, os) ins (a : Int) (sz.getD j 0).toNat ((blockSt (pi, ts, ns, os) ins 0 a (startL (pi, ts, ns, os), List.replicate os.length [])).1, List.replicate os.length [])).1)]), (9001, .tree 24 (.row 2 (.int .i64)) (blend (behind (blockSt (pi, ts, ns, os) ins 0 a (startL (pi, ts, ns, os), List.replicate os.length [])).2 (blockSt (pi, ts, ns, os) ins (a : Int) (sz.getD j 0).toNat ((blockSt (pi, ts, ns, os) ins 0 a (startL (pi, ts, ns, os), List.replicate os.length [])).1, List.replicate os.length [])).2) (blockSt (pi, ts, ns, os) ins 0 a (startL (pi, ts, ns, os), List.replicate os.length [])).2 k'.1) none), (9002, .tree 24 (.row 2 (.int .i64)) ((blockSt (pi, ts, ns, os) ins (a : Int) (sz.getD j 0).toNat ((blockSt (pi, ts, ns, os) ins 0 a (startL (pi, ts, ns, os), List.replicate os.length [])).1, List.replicate os.length [])).2) none)]⟩) (fun k' => os.length - k'.1) ⟨0, by simp⟩ ?_ ?_
          ·
           refine Wk_to (by rfl) ?_
           simp (maxSteps := 2000000) only [go_sem]
           all_goals ((repeat' refine And.intro ?_ ?_) <;> first | rfl | omega | (congr 1; exact blend_zero.symm) | (congr 1; done))
          rintro ⟨m, hm⟩ K29 hL29
          have hbl1 : (blend (behind (blockSt (pi, ts, ns, os) ins 0 a (startL (pi, ts, ns, os), List.replicate os.length [])).2 (blockSt (pi, ts, ns, os) ins (a : Int) (sz.getD j 0).toNat ((blockSt (pi, ts, ns, os) ins 0 a (startL (pi, ts, ns, os), List.replicate os.length [])).1, List.replicate os.length [])).2) (blockSt (pi, ts, ns, os) ins 0 a (startL (pi, ts, ns, os), List.replicate os.length [])).2 m).length = os.length := by rw [blend_len (by omega) (by omega)]; omega
          have hbat0 : m < os.length → (blend (behind (blockSt (pi, ts, ns, os) ins 0 a (startL (pi, ts, ns, os), List.replicate os.length [])).2 (blockSt (pi, ts, ns, os) ins (a : Int) (sz.getD j 0).toNat ((blockSt (pi, ts, ns, os) ins 0 a (startL (pi, ts, ns, os), List.replicate os.length [])).1, List.replicate os.length [])).2) (blockSt (pi, ts, ns, os) ins 0 a (startL (pi, ts, ns, os), List.replicate os.length [])).2 m).getD m [] = (blockSt (pi, ts, ns, os) ins 0 a (startL (pi, ts, ns, os), List.replicate os.length [])).2.getD m [] := fun h => blend_at [] (by omega) (by omega)
          have hset : m < os.length → (blend (behind (blockSt (pi, ts, ns, os) ins 0 a (startL (pi, ts, ns, os), List.replicate os.length [])).2 (blockSt (pi, ts, ns, os) ins (a : Int) (sz.getD j 0).toNat ((blockSt (pi, ts, ns, os) ins 0 a (startL (pi, ts, ns, os), List.replicate os.length [])).1, List.replicate os.length [])).2) (blockSt (pi, ts, ns, os) ins 0 a (startL (pi, ts, ns, os), List.replicate os.length [])).2 m).set m ((blockSt (pi, ts, ns, os) ins 0 a (startL (pi, ts, ns, os), List.replicate os.length [])).2.getD m [] ++ (blockSt (pi, ts, ns, os) ins (a : Int) (sz.getD j 0).toNat ((blockSt (pi, ts, ns, os) ins 0 a (startL (pi, ts, ns, os), List.replicate os.length [])).1, List.replicate os.length [])).2.getD m []) = blend (behind (blockSt (pi, ts, ns, os) ins 0 a (startL (pi, ts, ns, os), List.replicate os.length [])).2 (blockSt (pi, ts, ns, os) ins (a : Int) (sz.getD j 0).toNat ((blockSt (pi, ts, ns, os) ins 0 a (startL (pi, ts, ns, os), List.replicate os.length [])).1, List.replicate os.length [])).2) (blockSt (pi, ts, ns, os) ins 0 a (startL (pi, ts, ns, os), List.replicate os.length [])).2 (m + 1) := fun h => by rw [← behind_at (by omega) (by omega)]; exact blend_set [] (by omega) (by omega)
          have hrl1 : m < os.length → ((blockSt (pi, ts, ns, os) ins 0 a (startL (pi, ts, ns, os), List.replicate os.length [])).2.getD m []).length = a := fun h => by have := block_len (p := (pi, ts, ns, os)) (ins := ins) (frm := 0) (s := startL (pi, ts, ns, os)) (o := List.replicate os.length []) (m := 0) hF hs0 hin (by simp) (by intro i hi; simp [List.getD] at hi ⊢; simp [hi]) a m h; omega
          have hrl2 : m < os.length → ((blockSt (pi, ts, ns, os) ins (a : Int) (sz.getD j 0).toNat ((blockSt (pi, ts, ns, os) ins 0 a (startL (pi, ts, ns, os), List.replicate os.length [])).1, List.replicate os.length [])).2.getD m []).length = (sz.getD j 0).toNat := fun h => by have := block_len (p := (pi, ts, ns, os)) (ins := ins) (frm := (a : Int)) (s := (blockSt (pi, ts, ns, os) ins 0 a (startL (pi, ts, ns, os), List.replicate os.length [])).1) (o := List.replicate os.length []) (m := 0) hF hks hin (by simp) (by intro i hi; simp [List.getD] at hi ⊢; simp [hi]) (sz.getD j 0).toNat m h; omega
          refine AWP_seq_k fun K30 hK30 => ?_
          refine AWP_seq_k fun K31 hK31 => ?_
          refine AWP_region (G := G) (T := T_specRender) T_specRender_ok ?_
          simp only [go_sem]
          refine hK31 _ ?_
          refine AWP_cond rfl ?_ ?_
          ·
           intro c4
           try simp only [decide_eq_true_eq, decide_eq_false_iff_not, Bool.not_eq_true', Bool.not_eq_false', ne_eq, Int.not_lt, Int.not_le, Bool.true_eq_false, Bool.false_eq_true] at c4
           all_goals
            have hbat := hbat0 (by omega)
            have hr1 := hrl1 (by omega)
            have hr2 := hrl2 (by omega)
            refine AWP_skip ?_
            simp only [go_sem]
            refine hK30 _ ?_
            refine AWP_seq_k fun K32 hK32 => ?_
            refine AWP_block ?_
            refine AWP_draw (G := G) (T := T_specRender) T_specRender_ok mixed
              [[], [], [], [], [2, 3], [2, 3, 4], [], [], [6, 7], [6, 7, 8], [2, 3, 4, 5, 6, 7, 8, 9], [0, 1, 2, 3, 4, 5, 6, 7, 8, 9, 10], [0, 1, 2, 3, 4, 5, 6, 7, 8, 9, 10, 11]]
              [[1460, 1009001], [1460, 1009001], [], [], [], [], [], [], [], [], [], [], []]
              [[], [], [], [], [], [], [], [], [], [], [1460, 1009001], [], []] (by kernel_rfl) (by kernel_rfl) (adrawR_ok (acc := []) ?_)
            simp (maxSteps := 2000000) only [List.nodup_cons, List.nodup_nil, List.not_mem_nil, not_false_eq_true, hbat, go_sem]
            repeat (with_reducible refine And.intro (by first | exact chk_leaf (by kernel_rfl) | omega | exact ⟨rfl, by omega, by omega, by omega⟩ | omega) ?_)
            refine hK32 _ ?_
            refine AWP_region (G := G) (T := T_specRender) T_specRender_ok ?_
            simp only [go_sem]
            refine hL29 ⟨m + 1, by omega⟩ _ (Wk_to (by rfl) ?_) ?_
            ·
             simp (maxSteps := 2000000) only [go_sem]
             all_goals ((repeat' refine And.intro ?_ ?_) <;> first | rfl | exact wk (by omega) | (congr 1; exact hset (by omega)) | (congr 1; done))
            ·
             first | (simp only []; omega) | omega | (simp; omega)
          ·
           intro c4
           try simp only [decide_eq_true_eq, decide_eq_false_iff_not, Bool.not_eq_true', Bool.not_eq_false', ne_eq, Int.not_lt, Int.not_le, Bool.true_eq_false, Bool.false_eq_true] at c4
           all_goals
            refine AWP_exit ?_
            simp only [go_sem]
            refine hK25 _ ?_
            refine AWP_region (G := G) (T := T_specRender) T_specRender_ok ?_
            simp only [go_sem]
            refine hL22 ⟨(j + 1, a + (sz.getD j 0).toNat), by show j + 1 ≤ _; omega, hanx⟩ _ (Wk_to (by rfl) ?_) ?_
            ·
             simp (maxSteps := 2000000) only [go_sem]
             all_goals ((repeat' refine And.intro ?_ ?_) <;> first | rfl | exact wk (by omega) | (congr 1; done) | (rw [hst1]) | (congr 1; rw [hst1]) | (rw [hst2]; congr 1; exact blend_all (by omega) (by omega)))
            ·
             first | (simp only []; omega) | omega | (simp; omega)
        ·
         intro c3
         try simp only [decide_eq_true_eq, decide_eq_false_iff_not, Bool.not_eq_true', Bool.not_eq_false', ne_eq, Int.not_lt, Int.not_le, Bool.true_eq_false, Bool.false_eq_true] at c3
         all_goals
          refine AWP_exit ?_
          simp only [go_sem]
          refine hK20 _ ?_
          refine AWP_seq_k fun K33 hK33 => ?_
          refine AWP_region (G := G) (T := T_specRender) T_specRender_ok ?_
          simp only [go_sem]
          refine hK33 _ ?_
          refine AWP_ret ?_
          simp only [hres, go_sem]
          first
            | exact finOk_mk (by rfl) (by decide)
            | refine ⟨?_, finOk_mk (by rfl) (by decide)⟩
              have hae : sz.sum.toNat = a := by rw [List.take_of_length_le (by omega)] at ha; omega
              first | (rw [ribR_0 c0 hK, hae]; exact ⟨rfl, rfl⟩) | (rw [ribR_0 c0 hK, hae]; rfl)

theorem specRib_fn : FnOk Try.prog 35 := fnOk_of Try.func35 rfl (by decide)

def T_specRib : Tab := fun f => if f = 35 then some (.p K_specRib) else T_specRender f
theorem T_specRib_ok : TabOk Try.prog T_specRib := fun f k h => by
  unfold T_specRib at h
  split at h
  · rename_i e; cases h; subst e; exact ⟨specRib_ok, specRib_fn⟩
  · exact T_specRender_ok f k h
attribute [go_sem] T_specRib K_specRib

end Go.Proofs.Ythglggjgjlmhlaa
