/-
  Contracts of functions: l07Keep, MergeClasses.
-/
import Derived.Test.YthfopaimihmgiaaGreatHc5
import Derived.Test.YthfopaimihmgiaaGreatGb6
import Derived.Test.YthfopaimihmgiaaGreatHb1
import Derived.Test.YthfopaimihmgiaaGreatPt
namespace Go.Proofs.YthfopaimihmgiaaGreat
open Go.RowKit
set_option linter.unusedSimpArgs false
set_option linter.unusedVariables false

def T_mHc130 : Tab := fun f => match T_l12Classes f with
  | some k => some k
  | none => T_l07Ok f
theorem T_mHc130_ok : TabOk Tryz.prog T_mHc130 := fun f k h => by
  unfold T_mHc130 at h
  split at h
  · rename_i e; cases h; exact T_l12Classes_ok f _ e
  · exact T_l07Ok_ok f k h
attribute [go_sem] T_mHc130 T0


def T_mHc131 : Tab := fun f => match T_mHc130 f with
  | some k => some k
  | none => T_l07Own f
theorem T_mHc131_ok : TabOk Tryz.prog T_mHc131 := fun f k h => by
  unfold T_mHc131 at h
  split at h
  · rename_i e; cases h; exact T_mHc130_ok f _ e
  · exact T_l07Own_ok f k h
attribute [go_sem] T_mHc131 T0


def T_mHc132 : Tab := fun f => match T_mHc131 f with
  | some k => some k
  | none => T_l07Map f
theorem T_mHc132_ok : TabOk Tryz.prog T_mHc132 := fun f k h => by
  unfold T_mHc132 at h
  split at h
  · rename_i e; cases h; exact T_mHc131_ok f _ e
  · exact T_l07Map_ok f k h
attribute [go_sem] T_mHc132 T0


def K_l07Keep : Con := ⟨[.ptr (.prod (.int .i64) (.prod (.row 24 (.row 2 (.int .i64))) (.prod (.row 102 (.prod (.int .i64) (.prod (.int .i64) (.prod (.int .i64) (.row 2 (.int .i64)))))) (.row 2 (.int .i64))))), .val ((.row 2 (.int .i64)))], [⟨(.prod (.int .i64) (.prod (.row 24 (.row 2 (.int .i64))) (.prod (.row 102 (.prod (.int .i64) (.prod (.int .i64) (.prod (.int .i64) (.row 2 (.int .i64)))))) (.row 2 (.int .i64))))), true⟩], fun x => KeepOk x.1 x.2.1, fun x => keepP x.1 x.2.1⟩
set_option maxRecDepth 100000 in
set_option maxHeartbeats 8000000 in
theorem l07Keep_ok : PureT Tryz.prog 74 K_l07Keep := by
  refine pure_of_body Tryz.func74 rfl ?_
  have hres : Tryz.f74.results.toList = [.cell 4 32] := rfl
  rintro ⟨⟨(pi : Int), (ts : List (List Int)), (ns : List NodeD), (os : List Int)⟩, (kp : List Int), _⟩ hc hL
  simp only [K_l07Keep, lensOk, PK.lenOk, glensOk, GP.lenOk, flensOk, GO.lenOk, olensOk, Ty.lenOk, Ty.flat, Bool.and_true, Bool.true_and, Bool.and_false, Bool.false_and, true_and, and_true, implies_true, forall_const] at hL
  simp only [K_l07Keep, St.init, St.initG, Tryz.ntmps74, go_sem] 
  have hK : KeepOk (pi, ts, ns, os) kp := hc
  have hfp : fitsP (pi, ts, ns, os) := hK.fits
  have hn24 : ns.length ≤ 24 := hK.n24
  have hk24 : kp.length ≤ 24 := hK.k24
  have hrg : idxs ns.length kp = true := hK.rng
  have ho4 : os.length ≤ 4 := hK.o4
  have hoi : idxs ns.length os = true := hK.outs
  have hfr : ∀ x ∈ ns, x.2.2.2.length ≤ 23 ∧ idxs ns.length x.2.2.2 = true := hK.frs
  have hby : (byL ns.length kp kp.length).length = ns.length := byL_len _ _ _
  have hmo : os.length ≤ 1000 ∧ idxs (byL ns.length kp kp.length).length os = true := ⟨by omega, by rw [hby]; exact hoi⟩
  refine AWP_seq_k fun K1 hK1 => ?_
  refine AWP_region (G := G) (T := T_mHc132) T_mHc132_ok ?_
  simp only [go_sem]
  refine hK1 _ ?_
  refine AWP_seq_k fun K2 hK2 => ?_
  refine AWP_region (G := G) (T := T_mHc132) T_mHc132_ok ?_
  simp (maxSteps := 2000000) only [go_sem]
  repeat (with_reducible refine And.intro (by first | omega | exact ⟨rfl, by omega, by omega, by omega⟩ | exact ⟨by omega, by omega⟩ | omega) ?_)
  refine hK2 _ ?_
  refine AWP_seq_k fun K3 hK3 => ?_
  refine AWP_seq_k fun K4 hK4 => ?_
  refine AWP_region (G := G) (T := T_mHc132) T_mHc132_ok ?_
  simp only [go_sem]
  refine hK4 _ ?_
  refine AWP_block ?_
  refine AWP_loop_k (ι := { k : Nat // k ≤ kp.length }) (fun k => ⟨[.c (.pt [] ((.prod (.int .i64) (.prod (.row 24 (.row 2 (.int .i64))) (.prod (.row 102 (.prod (.int .i64) (.prod (.int .i64) (.prod (.int .i64) (.row 2 (.int .i64)))))) (.row 2 (.int .i64)))))) (pi, ts, ns, os) 0), .c (.rd [] 2 (.int .i64) (kp)), zz, zz, .c (.po 164 0), .c (.ow 9001), .c (.sc (.int .i64 (k.1))), zz, zz, zz, zz, zz, zz, zz, zz, zz, zz, zz, zz, zz, zz, zz, zz, zz, zz, zz, zz, zz, zz, zz, zz, zz, zz, zz, zz, zz, zz, zz, zz, zz, zz, zz, zz, zz, zz, zz, zz, zz, zz, zz, zz, zz, zz, zz, zz, zz, zz, zz, zz, zz, zz, zz, zz, zz, zz, zz, zz, zz], [(164, .box [.sc (.int .i64 (0)), .sc (.slice none 0 0), .sc (.slice none 0 0), .sc (.slice none 0 0)]), (9001, .row 2 (.int .i64) (byL ns.length kp k.1) [])]⟩) (fun k => kp.length - k.1) ⟨0, by simp⟩ ?_ ?_
  ·
   refine Wk_to (by rfl) ?_
   simp (maxSteps := 2000000) only [go_sem]
   all_goals ((repeat' refine And.intro ?_ ?_) <;> first | rfl | (congr 1; done) | simp)
  rintro ⟨k, hk⟩ K5 hL5
  have hbk : (byL ns.length kp k).length = ns.length := byL_len _ _ _
  refine AWP_seq_k fun K6 hK6 => ?_
  refine AWP_seq_k fun K7 hK7 => ?_
  refine AWP_region (G := G) (T := T_mHc132) T_mHc132_ok ?_
  simp only [go_sem]
  refine hK7 _ ?_
  refine AWP_cond rfl ?_ ?_
  ·
   intro c0
   try simp only [decide_eq_true_eq, decide_eq_false_iff_not, Bool.not_eq_true', Bool.not_eq_false', ne_eq, Int.not_lt, Int.not_le] at c0
   obtain ⟨hi1, hi2⟩ := idxs_at hrg (getD_mem (d := (0 : Int)) (show k < kp.length by omega))
   refine AWP_skip ?_
   simp only [go_sem]
   refine hK6 _ ?_
   refine AWP_seq_k fun K8 hK8 => ?_
   refine AWP_block ?_
   refine AWP_region (G := G) (T := T_mHc132) T_mHc132_ok ?_
   simp (maxSteps := 2000000) only [go_sem]
   repeat (with_reducible refine And.intro (by first | omega | exact ⟨rfl, by omega, by omega, by omega⟩ | exact ⟨by omega, by omega⟩ | omega) ?_)
   refine hK8 _ ?_
   refine AWP_region (G := G) (T := T_mHc132) T_mHc132_ok ?_
   simp only [go_sem]
   refine hL5 ⟨k + 1, by omega⟩ _ (Wk_to (by rfl) ?_) ?_
   ·
    simp (maxSteps := 2000000) only [go_sem]
    all_goals ((repeat' refine And.intro ?_ ?_) <;> first | rfl | exact wk (by omega) | (congr 1; done))
   ·
    first | (simp only []; omega) | omega | (simp; omega)
  ·
   intro c0
   try simp only [decide_eq_true_eq, decide_eq_false_iff_not, Bool.not_eq_true', Bool.not_eq_false', ne_eq, Int.not_lt, Int.not_le] at c0
   have hke : k = kp.length := by omega
   refine AWP_exit ?_
   simp only [go_sem]
   refine hK3 _ ?_
   refine AWP_seq_k fun K9 hK9 => ?_
   refine AWP_region (G := G) (T := T_mHc132) T_mHc132_ok ?_
   simp only [go_sem]
   repeat (with_reducible refine And.intro (by first | omega | exact ⟨rfl, by omega, by omega, by omega⟩ | exact hfp) ?_)
   refine hK9 _ ?_
   refine AWP_seq_k fun K10 hK10 => ?_
   refine AWP_region (G := G) (T := T_mHc132) T_mHc132_ok ?_
   simp only [List.nodup_nil, go_sem]
   repeat (with_reducible refine And.intro (by first | omega | exact ⟨rfl, by omega, by omega, by omega⟩) ?_)
   refine hK10 _ ?_
   refine AWP_seq_k fun K11 hK11 => ?_
   refine AWP_seq_k fun K12 hK12 => ?_
   refine AWP_region (G := G) (T := T_mHc132) T_mHc132_ok ?_
   simp only [go_sem]
   refine hK12 _ ?_
   refine AWP_block ?_
   refine AWP_loop_k (ι := { k : Nat // k ≤ kp.length }) (fun k => ⟨[.c (.pt [] ((.prod (.int .i64) (.prod (.row 24 (.row 2 (.int .i64))) (.prod (.row 102 (.prod (.int .i64) (.prod (.int .i64) (.prod (.int .i64) (.row 2 (.int .i64)))))) (.row 2 (.int .i64)))))) (pi, ts, ns, os) 0), .c (.rd [] 2 (.int .i64) (kp)), zz, zz, .c (.po 164 0), .c (.ow 9001), zz, .c (.po 212 0), .c (.sc (.int .i64 (k.1))), zz, zz, zz, zz, zz, zz, zz, zz, zz, zz, zz, zz, zz, zz, zz, zz, zz, zz, zz, zz, zz, zz, zz, zz, zz, zz, zz, zz, zz, zz, zz, zz, zz, zz, zz, zz, zz, zz, zz, zz, zz, zz, zz, zz, zz, zz, zz, zz, zz, zz, zz, zz, zz, zz, zz, zz, zz, zz, zz], [(164, .box [.sc (.int .i64 (0)), .sc (.slice none 0 0), .sc (.slice none 0 0), .sc (.slice none 0 0)]), (9001, .row 2 (.int .i64) ((byL ns.length kp kp.length)) []), (212, .box [.sc (.int .i64 (pi)), .ow 9011, .ow 9012, .ow 9013]), (9011, .tree 24 (.row 2 (.int .i64)) (ts) none), (9012, .tree 102 (.prod (.int .i64) (.prod (.int .i64) (.prod (.int .i64) (.row 2 (.int .i64))))) ((kp.take k.1).map (keepN ns (byL ns.length kp kp.length))) none), (9013, .row 2 (.int .i64) (os) [])]⟩) (fun k => kp.length - k.1) ⟨0, by simp⟩ ?_ ?_
   ·
    refine Wk_to (by rfl) ?_
    simp (maxSteps := 2000000) only [go_sem]
    all_goals ((repeat' refine And.intro ?_ ?_) <;> first | rfl | (rw [hke]; done) | (congr 1; done) | simp)
   rintro ⟨k, hk⟩ K13 hL13
   have hkl : ((kp.take k).map (keepN ns (byL ns.length kp kp.length))).length ≤ 24 := by rw [List.length_map, List.length_take]; omega
   refine AWP_seq_k fun K14 hK14 => ?_
   refine AWP_seq_k fun K15 hK15 => ?_
   refine AWP_region (G := G) (T := T_mHc132) T_mHc132_ok ?_
   simp only [go_sem]
   refine hK15 _ ?_
   refine AWP_cond rfl ?_ ?_
   ·
    intro c1
    try simp only [decide_eq_true_eq, decide_eq_false_iff_not, Bool.not_eq_true', Bool.not_eq_false', ne_eq, Int.not_lt, Int.not_le] at c1
    obtain ⟨hi1, hi2⟩ := idxs_at hrg (getD_mem (d := (0 : Int)) (show k < kp.length by omega))
    obtain ⟨hx1, hx2⟩ := hfr _ (getD_mem (d := ((0, 0, 0, []) : NodeD)) (show (kp.getD k 0).toNat < ns.length by omega))
    have hmc : (ns.getD (kp.getD k 0).toNat ((0, 0, 0, []) : NodeD)).2.2.2.length ≤ 1000 ∧ idxs (byL ns.length kp kp.length).length (ns.getD (kp.getD k 0).toNat ((0, 0, 0, []) : NodeD)).2.2.2 = true := ⟨Nat.le_trans hx1 (by decide), by rw [hby]; exact hx2⟩
    have hml : (List.map (fun q => (byL ns.length kp kp.length).getD (Int.toNat q) 0) (ns.getD (kp.getD k 0).toNat ((0, 0, 0, []) : NodeD)).2.2.2).length ≤ 23 := by rw [List.length_map]; exact hx1
    have hnx : (kp.take k).map (keepN ns (byL ns.length kp kp.length)) ++ [((ns.getD (kp.getD k 0).toNat ((0, 0, 0, []) : NodeD)).1, (ns.getD (kp.getD k 0).toNat ((0, 0, 0, []) : NodeD)).2.1, (ns.getD (kp.getD k 0).toNat ((0, 0, 0, []) : NodeD)).2.2.1, List.map (fun q => (byL ns.length kp kp.length).getD (Int.toNat q) 0) (ns.getD (kp.getD k 0).toNat ((0, 0, 0, []) : NodeD)).2.2.2)] = (kp.take (k + 1)).map (keepN ns (byL ns.length kp kp.length)) := map_nx (0 : Int) (by omega)
    refine AWP_skip ?_
    simp only [go_sem]
    refine hK14 _ ?_
    refine AWP_seq_k fun K16 hK16 => ?_
    refine AWP_block ?_
    refine AWP_seq_k fun K17 hK17 => ?_
    refine AWP_draw (G := G) (T := T_mHc132) T_mHc132_ok mixed
      [[], [0], [0, 1], [0, 1, 2], [], [], [4, 5], [4, 5, 6], [0, 1, 2, 3, 4, 5, 6, 7], [0, 1, 2, 3, 4, 5, 6, 7, 8], [], [0, 1, 2, 3, 4, 5, 6, 7, 8, 9, 10]]
      [[244], [244], [244], [244], [244], [244], [244], [244], [244], [244], [], []]
      [[], [], [], [], [], [], [], [], [], [], [244], []] (by kernel_rfl) (by kernel_rfl) (adrawR_ok (acc := []) ?_)
    simp (maxSteps := 2000000) only [go_sem]
    repeat (with_reducible refine And.intro (by first | exact chk_leaf (by kernel_rfl) | omega | exact ⟨rfl, by omega, by omega, by omega⟩ | exact ⟨by omega, by omega⟩ | omega) ?_)
    refine hK17 _ ?_
    refine AWP_seq_k fun K18 hK18 => ?_
    refine AWP_region (G := G) (T := T_mHc132) T_mHc132_ok ?_
    simp (maxSteps := 2000000) only [go_sem]
    repeat (with_reducible refine And.intro (by first | omega | exact ⟨rfl, by omega, by omega, by omega⟩ | exact hmc) ?_)
    refine hK18 _ ?_
    refine AWP_region (G := G) (T := T_mHc132) T_mHc132_ok ?_
    simp (maxSteps := 2000000) only [List.nodup_cons, List.nodup_nil, List.not_mem_nil, not_false_eq_true, go_sem]
    repeat (with_reducible refine And.intro (by first | omega | exact ⟨rfl, by omega, by omega, by omega⟩ | omega) ?_)
    refine hK16 _ ?_
    refine AWP_region (G := G) (T := T_mHc132) T_mHc132_ok ?_
    simp only [go_sem]
    refine hL13 ⟨k + 1, by omega⟩ _ (Wk_to (by rfl) ?_) ?_
    ·
     simp (maxSteps := 2000000) only [go_sem]
     all_goals ((repeat' refine And.intro ?_ ?_) <;> first | rfl | exact wk (by omega) | exact hnx | (congr 1; exact hnx) | (congr 1; done))
    ·
     first | (simp only []; omega) | omega | (simp; omega)
   ·
    intro c1
    try simp only [decide_eq_true_eq, decide_eq_false_iff_not, Bool.not_eq_true', Bool.not_eq_false', ne_eq, Int.not_lt, Int.not_le] at c1
    refine AWP_exit ?_
    simp only [go_sem]
    refine hK11 _ ?_
    refine AWP_seq_k fun K19 hK19 => ?_
    refine AWP_region (G := G) (T := T_mHc132) T_mHc132_ok ?_
    simp (maxSteps := 2000000) only [go_sem]
    repeat (with_reducible refine And.intro (by first | omega | exact ⟨rfl, by omega, by omega, by omega⟩ | exact hmo) ?_)
    refine hK19 _ ?_
    refine AWP_seq_k fun K20 hK20 => ?_
    refine AWP_region (G := G) (T := T_mHc132) T_mHc132_ok ?_
    simp only [go_sem]
    repeat (with_reducible refine And.intro (by first | omega | exact ⟨rfl, by omega, by omega, by omega⟩) ?_)
    refine hK20 _ ?_
    refine AWP_ret ?_
    simp only [hres, go_sem]
    first
      | exact finOk_mk (by rfl) (by decide)
      | refine ⟨?_, finOk_mk (by rfl) (by decide)⟩
        have hk3 : k = kp.length := by omega
        clear hK1 hK2 hK3 hK4 hL5 hK6 hK7 hK9 hK10 hK11 hK12 hL13 hK14 hK15 hK19 hK20
        subst hk3
        unfold keepP
        rw [List.take_of_length_le (Nat.le_refl _)]
        rfl

theorem l07Keep_fn : FnOk Tryz.prog 74 := fnOk_of Tryz.func74 rfl (by decide)

def T_l07Keep : Tab := fun f => if f = 74 then some (.p K_l07Keep) else T_mHc132 f
theorem T_l07Keep_ok : TabOk Tryz.prog T_l07Keep := fun f k h => by
  unfold T_l07Keep at h
  split at h
  · rename_i e; cases h; subst e; exact ⟨l07Keep_ok, l07Keep_fn⟩
  · exact T_mHc132_ok f k h
attribute [go_sem] T_l07Keep K_l07Keep


def K_specMerge : Con := ⟨[.val ((.prod (.int .i64) (.prod (.row 24 (.row 2 (.int .i64))) (.prod (.row 102 (.prod (.int .i64) (.prod (.int .i64) (.prod (.int .i64) (.row 2 (.int .i64)))))) (.row 2 (.int .i64))))))], [⟨(.prod (.int .i64) (.prod (.row 24 (.row 2 (.int .i64))) (.prod (.row 102 (.prod (.int .i64) (.prod (.int .i64) (.prod (.int .i64) (.row 2 (.int .i64)))))) (.row 2 (.int .i64))))), true⟩, ⟨.int .i64, true⟩], fun _ => True, fun x => mergeR x.1⟩
set_option maxRecDepth 100000 in
set_option maxHeartbeats 8000000 in
theorem specMerge_ok : PureT Tryz.prog 19 K_specMerge := by
  refine pure_of_body Tryz.func19 rfl ?_
  have hres : Tryz.f19.results.toList = [.cell 2 32, .tmp 3] := rfl
  rintro ⟨⟨(pi : Int), (ts : List (List Int)), (ns : List NodeD), (os : List Int)⟩, _⟩ hc hL
  simp only [K_specMerge, lensOk, PK.lenOk, glensOk, GP.lenOk, flensOk, GO.lenOk, olensOk, Ty.lenOk, Ty.flat, Bool.and_true, Bool.true_and, Bool.and_false, Bool.false_and, true_and, and_true, implies_true, forall_const] at hL
  simp only [K_specMerge, St.init, St.initG, Tryz.ntmps19, go_sem] 
  refine AWP_seq_k fun K1 hK1 => ?_
  refine AWP_region (G := G) (T := T_l07Keep) T_l07Keep_ok ?_
  simp only [go_sem]
  refine hK1 _ ?_
  refine AWP_seq_k fun K2 hK2 => ?_
  refine AWP_seq_k fun K3 hK3 => ?_
  refine AWP_region (G := G) (T := T_l07Keep) T_l07Keep_ok ?_
  simp only [go_sem]
  repeat (with_reducible refine And.intro (by first | omega | exact ⟨rfl, by omega, by omega, by omega⟩) ?_)
  refine hK3 _ ?_
  refine AWP_cond rfl ?_ ?_
  ·
   intro c0
   try simp only [decide_eq_true_eq, decide_eq_false_iff_not, Bool.not_eq_true', Bool.not_eq_false', ne_eq, Int.not_lt, Int.not_le] at c0
   refine AWP_seq_k fun K4 hK4 => ?_
   refine AWP_region (G := G) (T := T_l07Keep) T_l07Keep_ok ?_
   simp only [go_sem]
   repeat (with_reducible refine And.intro (by first | omega | exact ⟨rfl, by omega, by omega, by omega⟩) ?_)
   refine hK4 _ ?_
   refine AWP_ret ?_
   simp only [hres, go_sem]
   first
     | exact finOk_mk (by rfl) (by decide)
     | refine ⟨?_, finOk_mk (by rfl) (by decide)⟩
       first | (rw [mergeR_f c0]; exact ⟨rfl, rfl⟩) | (rw [mergeR_f c0]; done) | (rw [mergeR_f c0]; rfl)
  ·
   intro c0
   try simp only [decide_eq_true_eq, decide_eq_false_iff_not, Bool.not_eq_true', Bool.not_eq_false', ne_eq, Int.not_lt, Int.not_le] at c0
   have hF := (patchB_parts c0).1
   have hU : uOk ts ns := uOk_patch (p := (pi, ts, ns, os)) hF
   have hsm := smallP_of (p := (pi, ts, ns, os)) c0
   have hfp := smallP_fitsP hsm
   have hcl : (clsF ts ns).length = ns.length := clsF_len
   have hn24 : ns.length ≤ 24 := (formedB_parts hF).1
   have ho4 : os.length ≤ 4 := (formedB_parts hF).2.1
   have hos : idxs ns.length os = true := (formedB_parts hF).2.2.2.2.2.1
   have hcD : countF ts ns = ((divC (clsE (pi, ts, ns, os)) ns.length).2.length : Int) := by unfold countF; rw [← clsE_all (p := (pi, ts, ns, os))]; exact countL_div _ _
   have hDn : (divC (clsE (pi, ts, ns, os)) ns.length).2.length ≤ ns.length := canonN_le _ _
   have hw0 : IntKind.i64.wrap (((clsF ts ns).length : Int) - 1) = ((clsF ts ns).length : Int) - 1 - ((0 : Nat) : Int) := by rw [wrapI (by omega)]; omega
   have hFL : (firstsL (pi, ts, ns, os)).length = (divC (clsE (pi, ts, ns, os)) ns.length).2.length := firstsL_len _
   have hmc : (clsF ts ns).length ≤ 1000 ∧ idxs (firstsL (pi, ts, ns, os)).length (clsF ts ns) = true := ⟨by omega, cls_idxs (p := (pi, ts, ns, os))⟩
   have hbl : (clsM (firstsL (pi, ts, ns, os)) (clsF ts ns)).length = ns.length := by unfold clsM; rw [List.length_map]; exact hcl
   have hmo : os.length ≤ 1000 ∧ idxs (clsM (firstsL (pi, ts, ns, os)) (clsF ts ns)).length os = true := ⟨by omega, by rw [hbl]; exact hos⟩
   have hKm := keepOk_moved (p := (pi, ts, ns, os)) c0
   refine AWP_skip ?_
   simp only [go_sem]
   refine hK2 _ ?_
   refine AWP_seq_k fun K5 hK5 => ?_
   refine AWP_region (G := G) (T := T_l07Keep) T_l07Keep_ok ?_
   simp (maxSteps := 2000000) only [go_sem]
   repeat (with_reducible refine And.intro (by first | omega | exact ⟨rfl, by omega, by omega, by omega⟩ | exact hU) ?_)
   refine hK5 _ ?_
   refine AWP_seq_k fun K6 hK6 => ?_
   refine AWP_region (G := G) (T := T_l07Keep) T_l07Keep_ok ?_
   simp only [hcD, go_sem]
   repeat (with_reducible refine And.intro (by first | omega | exact ⟨rfl, by omega, by omega, by omega⟩ | exact ⟨by omega, by omega⟩ | omega) ?_)
   refine hK6 _ ?_
   refine AWP_seq_k fun K7 hK7 => ?_
   refine AWP_seq_k fun K8 hK8 => ?_
   refine AWP_region (G := G) (T := T_l07Keep) T_l07Keep_ok ?_
   simp only [hw0, go_sem]
   refine hK8 _ ?_
   refine AWP_block ?_
   refine AWP_loop_k (ι := { k : Nat // k ≤ (clsF ts ns).length }) (fun k => ⟨[zz, .c (.po 116 0), .c (.po 132 0), zz, .c (.ow 9004), zz, .c (.ow 9006), .c (.sc (.int .i64 ((((clsF ts ns).length : Int) - 1 - (k.1 : Int))))), zz, zz, zz, zz, zz, zz, zz, zz, zz, zz, zz, zz, zz, zz, zz, zz, zz, zz, zz, zz, zz, zz, zz, zz, zz, zz, zz, zz, zz, zz, zz, zz, zz, zz, zz, zz, zz, zz, zz, zz, zz, zz, zz, zz, zz, zz, zz, zz, zz, zz, zz, zz, zz, zz, zz, zz, zz], [(116, .box [.sc (.int .i64 (pi)), .rd [] 24 ((.row 2 (.int .i64))) (ts), .rd [] 102 ((.prod (.int .i64) (.prod (.int .i64) (.prod (.int .i64) (.row 2 (.int .i64)))))) (ns), .rd [] 2 (.int .i64) (os)]), (132, .box [.sc (.int .i64 (0)), .sc (.slice none 0 0), .sc (.slice none 0 0), .sc (.slice none 0 0)]), (9004, .row 2 (.int .i64) ((clsF ts ns)) []), (9006, .row 2 (.int .i64) ((keepD (clsF ts ns) (divC (clsE (pi, ts, ns, os)) ns.length).2.length k.1)) [])]⟩) (fun k => (clsF ts ns).length - k.1) ⟨0, by simp⟩ ?_ ?_
   ·
    refine Wk_to (by rfl) ?_
    simp (maxSteps := 2000000) only [go_sem]
    all_goals ((repeat' refine And.intro ?_ ?_) <;> first | rfl | (congr 1; done) | simp)
   rintro ⟨k, hk⟩ K9 hL9
   have hkl : (keepD (clsF ts ns) (divC (clsE (pi, ts, ns, os)) ns.length).2.length k).length = (divC (clsE (pi, ts, ns, os)) ns.length).2.length := keepD_len _ _ _
   refine AWP_seq_k fun K10 hK10 => ?_
   refine AWP_seq_k fun K11 hK11 => ?_
   refine AWP_region (G := G) (T := T_l07Keep) T_l07Keep_ok ?_
   simp only [go_sem]
   refine hK11 _ ?_
   refine AWP_cond rfl ?_ ?_
   ·
    intro c1
    try simp only [decide_eq_true_eq, decide_eq_false_iff_not, Bool.not_eq_true', Bool.not_eq_false', ne_eq, Int.not_lt, Int.not_le] at c1
    have hkn : k < (clsF ts ns).length := by omega
    have hval : ((clsF ts ns).length : Int) - 1 - (k : Int) = (((clsF ts ns).length - 1 - k : Nat) : Int) := by omega
    obtain ⟨c, hc1, hc2⟩ := cls_lt (p := (pi, ts, ns, os)) (q := (clsF ts ns).length - 1 - k) (by show _ < ns.length; omega)
    have hc1 : (clsF ts ns).getD ((clsF ts ns).length - 1 - k) 0 = (c : Int) := hc1
    have hc2 : c < (divC (clsE (pi, ts, ns, os)) ns.length).2.length := hc2
    have hdn : IntKind.i64.wrap ((((clsF ts ns).length - 1 - k : Nat) : Int) - 1) = ((clsF ts ns).length : Int) - 1 - ((k + 1 : Nat) : Int) := by rw [wrapI (by omega)]; omega
    have hci : 0 ≤ (clsF ts ns).getD ((clsF ts ns).length - 1 - k) 0 ∧ (clsF ts ns).getD ((clsF ts ns).length - 1 - k) 0 < (divC (clsE (pi, ts, ns, os)) ns.length).2.length := by rw [hc1]; omega
    refine AWP_skip ?_
    simp only [go_sem]
    refine hK10 _ ?_
    refine AWP_seq_k fun K12 hK12 => ?_
    refine AWP_block ?_
    refine AWP_region (G := G) (T := T_l07Keep) T_l07Keep_ok ?_
    simp (maxSteps := 2000000) only [hval, go_sem]
    repeat (with_reducible refine And.intro (by first | omega | exact ⟨rfl, by omega, by omega, by omega⟩ | exact ⟨by omega, by omega⟩ | omega) ?_)
    refine hK12 _ ?_
    refine AWP_region (G := G) (T := T_l07Keep) T_l07Keep_ok ?_
    simp only [go_sem]
    refine hL9 ⟨k + 1, by omega⟩ _ (Wk_to (by rfl) ?_) ?_
    ·
     simp (maxSteps := 2000000) only [go_sem]
     all_goals ((repeat' refine And.intro ?_ ?_) <;> first | rfl | exact hdn | (congr 1; done))
    ·
     first | (simp only []; omega) | omega | (simp; omega)
   ·
    intro c1
    try simp only [decide_eq_true_eq, decide_eq_false_iff_not, Bool.not_eq_true', Bool.not_eq_false', ne_eq, Int.not_lt, Int.not_le] at c1
    have hke : k = (clsF ts ns).length := by omega
    have hfin : (keepD (clsF ts ns) (divC (clsE (pi, ts, ns, os)) ns.length).2.length k) = (firstsL (pi, ts, ns, os)) := by unfold firstsL; rw [hke, hcl]
    refine AWP_exit ?_
    simp only [go_sem]
    refine hK7 _ ?_
    refine AWP_seq_k fun K13 hK13 => ?_
    refine AWP_region (G := G) (T := T_l07Keep) T_l07Keep_ok ?_
    simp only [hfin, go_sem]
    repeat (with_reducible refine And.intro (by first | omega | exact ⟨rfl, by omega, by omega, by omega⟩ | exact hmc) ?_)
    refine hK13 _ ?_
    refine AWP_seq_k fun K14 hK14 => ?_
    refine AWP_region (G := G) (T := T_l07Keep) T_l07Keep_ok ?_
    simp only [go_sem]
    repeat (with_reducible refine And.intro (by first | omega | exact ⟨rfl, by omega, by omega, by omega⟩ | exact hfp) ?_)
    refine hK14 _ ?_
    refine AWP_seq_k fun K15 hK15 => ?_
    refine AWP_seq_k fun K16 hK16 => ?_
    refine AWP_region (G := G) (T := T_l07Keep) T_l07Keep_ok ?_
    simp only [go_sem]
    refine hK16 _ ?_
    refine AWP_block ?_
    refine AWP_loop_k (ι := { k : Nat // k ≤ ns.length }) (fun k => ⟨[zz, zz, .c (.po 132 0), zz, zz, zz, .c (.ow 9006), zz, .c (.ow 9008), .c (.po 244 0), .c (.sc (.int .i64 (k.1))), zz, zz, zz, zz, zz, zz, zz, zz, zz, zz, zz, zz, zz, zz, zz, zz, zz, zz, zz, zz, zz, zz, zz, zz, zz, zz, zz, zz, zz, zz, zz, zz, zz, zz, zz, zz, zz, zz, zz, zz, zz, zz, zz, zz, zz, zz, zz, zz, zz, zz, zz, zz, zz, zz], [(132, .box [.sc (.int .i64 (0)), .sc (.slice none 0 0), .sc (.slice none 0 0), .sc (.slice none 0 0)]), (9006, .row 2 (.int .i64) ((firstsL (pi, ts, ns, os))) []), (9008, .row 2 (.int .i64) ((clsM (firstsL (pi, ts, ns, os)) (clsF ts ns))) []), (244, .box [.sc (.int .i64 (pi)), .ow 9011, .ow 9012, .ow 9013]), (9011, .tree 24 (.row 2 (.int .i64)) (ts) none), (9012, .tree 102 (.prod (.int .i64) (.prod (.int .i64) (.prod (.int .i64) (.row 2 (.int .i64))))) (((ns.take k.1).map (mrgX (clsM (firstsL (pi, ts, ns, os)) (clsF ts ns))) ++ ns.drop k.1)) none), (9013, .row 2 (.int .i64) (os) [])]⟩) (fun k => ns.length - k.1) ⟨0, by simp⟩ ?_ ?_
    ·
     refine Wk_to (by rfl) ?_
     simp (maxSteps := 2000000) only [go_sem]
     all_goals ((repeat' refine And.intro ?_ ?_) <;> first | rfl | (simp; done) | (congr 1; done))
    rintro ⟨k, hk⟩ K17 hL17
    have hml0 : ((ns.take k).map (mrgX (clsM (firstsL (pi, ts, ns, os)) (clsF ts ns)))).length + (ns.drop k).length = ns.length := mixN_len hk
    have hml : ((ns.take k).map (mrgX (clsM (firstsL (pi, ts, ns, os)) (clsF ts ns))) ++ ns.drop k).length = ns.length := by rw [List.length_append]; exact hml0
    refine AWP_seq_k fun K18 hK18 => ?_
    refine AWP_seq_k fun K19 hK19 => ?_
    refine AWP_region (G := G) (T := T_l07Keep) T_l07Keep_ok ?_
    simp (maxSteps := 2000000) only [go_sem]
    repeat (with_reducible refine And.intro (by first | omega | exact ⟨rfl, by omega, by omega, by omega⟩) ?_)
    refine hK19 _ ?_
    refine AWP_cond rfl ?_ ?_
    ·
     intro c2
     try simp only [decide_eq_true_eq, decide_eq_false_iff_not, Bool.not_eq_true', Bool.not_eq_false', ne_eq, Int.not_lt, Int.not_le] at c2
     have hma : ((ns.take k).map (mrgX (clsM (firstsL (pi, ts, ns, os)) (clsF ts ns))) ++ ns.drop k).getD k ((0, 0, 0, []) : NodeD) = (ns.getD k ((0, 0, 0, []) : NodeD)) := mixN_at _ (by omega)
     obtain ⟨hx1, hx2, hx3⟩ := (hU.2 _ (getD_mem (d := ((0, 0, 0, []) : NodeD)) (show k < ns.length by omega))).2
     have hmc2 : (ns.getD k ((0, 0, 0, []) : NodeD)).2.2.2.length ≤ 1000 ∧ idxs (clsM (firstsL (pi, ts, ns, os)) (clsF ts ns)).length (ns.getD k ((0, 0, 0, []) : NodeD)).2.2.2 = true := ⟨Nat.le_trans hx1 (by decide), by rw [hbl]; exact hx2⟩
     have hst : ((ns.take k).map (mrgX (clsM (firstsL (pi, ts, ns, os)) (clsF ts ns))) ++ ns.drop k).set k (mrgX (clsM (firstsL (pi, ts, ns, os)) (clsF ts ns)) (ns.getD k ((0, 0, 0, []) : NodeD))) = (ns.take (k + 1)).map (mrgX (clsM (firstsL (pi, ts, ns, os)) (clsF ts ns))) ++ ns.drop (k + 1) := mixN_set _ (by omega)
     refine AWP_skip ?_
     simp only [go_sem]
     refine hK18 _ ?_
     refine AWP_seq_k fun K20 hK20 => ?_
     refine AWP_block ?_
     refine AWP_draw (G := G) (T := T_l07Keep) T_l07Keep_ok mixed
       [[], [0], [], [], [3], [], [3, 4, 5], [3, 4, 5, 6], [3, 4, 5, 6, 7], [], [3, 4, 5, 6, 7, 8, 9], [0, 1, 2, 3, 4, 5, 6, 7, 8, 9, 10], [0, 1, 2, 3, 4, 5, 6, 7, 8, 9, 10, 11], [0, 1, 2, 3, 4, 5, 6, 7, 8, 9, 10, 11, 12]]
       [[980, 981, 982, 983, 984, 985, 986, 987, 988, 989, 990, 991, 992, 993, 994, 995], [980, 981, 982, 983, 984, 985, 986, 987, 988, 989, 990, 991, 992, 993, 994, 995], [980, 981, 982, 983, 984, 985, 986, 987, 988, 989, 990, 991, 992, 993, 994, 995], [], [], [], [], [], [], [], [], [], [], []]
       [[], [], [], [], [], [], [], [], [], [], [980, 981, 982, 983, 984, 985, 986, 987, 988, 989, 990, 991, 992, 993, 994, 995], [], [], []] (by kernel_rfl) (by kernel_rfl) (adrawR_ok (acc := []) ?_)
     simp (maxSteps := 2000000) only [List.nodup_cons, List.nodup_nil, List.not_mem_nil, not_false_eq_true, hma, go_sem]
     repeat (with_reducible refine And.intro (by first | exact chk_leaf (by kernel_rfl) | omega | exact ⟨rfl, by omega, by omega, by omega⟩ | exact hmc2 | exact ⟨by omega, by omega⟩ | omega) ?_)
     refine hK20 _ ?_
     refine AWP_region (G := G) (T := T_l07Keep) T_l07Keep_ok ?_
     simp only [go_sem]
     refine hL17 ⟨k + 1, by omega⟩ _ (Wk_to (by rfl) ?_) ?_
     ·
      simp (maxSteps := 2000000) only [go_sem]
      all_goals ((repeat' refine And.intro ?_ ?_) <;> first | rfl | exact wk (by omega) | exact hst | (congr 1; done))
     ·
      first | (simp only []; omega) | omega | (simp; omega)
    ·
     intro c2
     try simp only [decide_eq_true_eq, decide_eq_false_iff_not, Bool.not_eq_true', Bool.not_eq_false', ne_eq, Int.not_lt, Int.not_le] at c2
     have hke2 : k = ns.length := by omega
     have hmx : ((ns.take k).map (mrgX (clsM (firstsL (pi, ts, ns, os)) (clsF ts ns))) ++ ns.drop k) = ns.map (mrgX (clsM (firstsL (pi, ts, ns, os)) (clsF ts ns))) := by rw [hke2, List.take_length, List.drop_length, List.append_nil]
     have hKm2 : KeepOk (pi, ts, ((ns.take k).map (mrgX (clsM (firstsL (pi, ts, ns, os)) (clsF ts ns))) ++ ns.drop k), clsM (clsM (firstsL (pi, ts, ns, os)) (clsF ts ns)) os) (firstsL (pi, ts, ns, os)) := by rw [hmx]; exact hKm
     refine AWP_exit ?_
     simp only [go_sem]
     refine hK15 _ ?_
     refine AWP_seq_k fun K21 hK21 => ?_
     refine AWP_region (G := G) (T := T_l07Keep) T_l07Keep_ok ?_
     simp (maxSteps := 2000000) only [go_sem]
     repeat (with_reducible refine And.intro (by first | omega | exact ⟨rfl, by omega, by omega, by omega⟩ | exact hmo) ?_)
     refine hK21 _ ?_
     refine AWP_seq_k fun K22 hK22 => ?_
     refine AWP_region (G := G) (T := T_l07Keep) T_l07Keep_ok ?_
     simp only [go_sem]
     repeat (with_reducible refine And.intro (by first | omega | exact ⟨rfl, by omega, by omega, by omega⟩ | with_unfolding_all exact hKm2) ?_)
     refine hK22 _ ?_
     refine AWP_ret ?_
     simp only [hres, go_sem]
     first
       | exact finOk_mk (by rfl) (by decide)
       | refine ⟨?_, finOk_mk (by rfl) (by decide)⟩
         rw [mergeR_t c0, ← keep_merge (p := (pi, ts, ns, os)) c0, hmx]
         first | done | rfl

theorem specMerge_fn : FnOk Tryz.prog 19 := fnOk_of Tryz.func19 rfl (by decide)

def T_specMerge : Tab := fun f => if f = 19 then some (.p K_specMerge) else T_l07Keep f
theorem T_specMerge_ok : TabOk Tryz.prog T_specMerge := fun f k h => by
  unfold T_specMerge at h
  split at h
  · rename_i e; cases h; subst e; exact ⟨specMerge_ok, specMerge_fn⟩
  · exact T_l07Keep_ok f k h
attribute [go_sem] T_specMerge K_specMerge

end Go.Proofs.YthfopaimihmgiaaGreat
