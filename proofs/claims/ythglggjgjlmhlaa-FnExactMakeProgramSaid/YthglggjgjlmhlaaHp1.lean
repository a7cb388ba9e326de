/-
  Contracts of functions: Instr], listed, lastReads.
-/
import Derived.Test.YthglggjgjlmhlaaGa6
import Derived.Test.YthglggjgjlmhlaaHa1
import Derived.Test.YthglggjgjlmhlaaHr1
import Derived.Test.YthglggjgjlmhlaaPk
import Derived.Test.YthglggjgjlmhlaaPi
import Derived.Test.YthglggjgjlmhlaaGp
namespace Go.Proofs.Ythglggjgjlmhlaa
open Go.RowKit
set_option linter.unusedSimpArgs false
set_option linter.unusedVariables false

def T_mHp10 : Tab := fun f => match T_isPatch f with
  | some k => some k
  | none => T_clones f
theorem T_mHp10_ok : TabOk Try.prog T_mHp10 := fun f k h => by
  unfold T_mHp10 at h
  split at h
  · rename_i e; cases h; exact T_isPatch_ok f _ e
  · exact T_clones_ok f k h
attribute [go_sem] T_mHp10 T0


def T_mHp11 : Tab := fun f => match T_mHp10 f with
  | some k => some k
  | none => T_l07Map f
theorem T_mHp11_ok : TabOk Try.prog T_mHp11 := fun f k h => by
  unfold T_mHp11 at h
  split at h
  · rename_i e; cases h; exact T_mHp10_ok f _ e
  · exact T_l07Map_ok f k h
attribute [go_sem] T_mHp11 T0


def K_sizeX : Con := ⟨[.val ((.row 174 (.prod (.int .i64) (.prod (.int .i64) (.prod (.int .i64) (.prod (.int .i64) (.prod (.row 2 (.int .i64)) (.int .i64))))))))], [⟨.int .i64, true⟩], fun _ => True, fun x => (x.1.length : Int)⟩
set_option maxRecDepth 100000 in
set_option maxHeartbeats 1000000 in
theorem sizeX_ok : PureT Try.prog 172 K_sizeX := by
  refine pure_of_body Try.func172 rfl ?_
  have hres : Try.f172.results.toList = [.tmp 2] := rfl
  rintro ⟨xs, _⟩ hc hL
  simp only [K_sizeX, lensOk, PK.lenOk, glensOk, GP.lenOk, flensOk, GO.lenOk, olensOk, Ty.lenOk, Ty.flat, Bool.and_true, Bool.true_and, Bool.and_false, Bool.false_and, true_and, and_true, implies_true, forall_const] at hL
  simp only [K_sizeX, St.init, St.initG, Try.ntmps172, go_sem] 
  refine AWP_seq_k fun K1 hK1 => ?_
  refine AWP_region (G := G) (T := T_mHp11) T_mHp11_ok ?_
  simp only [go_sem]
  refine hK1 _ ?_
  refine AWP_seq_k fun K2 hK2 => ?_
  refine AWP_region (G := G) (T := T_mHp11) T_mHp11_ok ?_
  simp only [go_sem]
  refine hK2 _ ?_
  refine AWP_ret ?_
  simp only [hres, go_sem]
  first
    | exact finOk_mk (by rfl) (by decide)
    | refine ⟨?_, finOk_mk (by rfl) (by decide)⟩
      rfl

theorem sizeX_fn : FnOk Try.prog 172 := fnOk_of Try.func172 rfl (by decide)

def T_sizeX : Tab := fun f => if f = 172 then some (.p K_sizeX) else T_mHp11 f
theorem T_sizeX_ok : TabOk Try.prog T_sizeX := fun f k h => by
  unfold T_sizeX at h
  split at h
  · rename_i e; cases h; subst e; exact ⟨sizeX_ok, sizeX_fn⟩
  · exact T_mHp11_ok f k h
attribute [go_sem] T_sizeX K_sizeX


def K_listed : Con := ⟨[.val ((.prod (.int .i64) (.prod (.row 24 (.row 2 (.int .i64))) (.prod (.row 140 (.prod (.int .i64) (.prod (.int .i64) (.prod (.int .i64) (.row 2 (.int .i64)))))) (.row 2 (.int .i64))))))], [⟨(.row 174 (.prod (.int .i64) (.prod (.int .i64) (.prod (.int .i64) (.prod (.int .i64) (.prod (.row 2 (.int .i64)) (.int .i64))))))), true⟩], fun x => patchB x.1 = true, fun x => codeL x.1.2.2.1⟩
set_option maxRecDepth 100000 in
set_option maxHeartbeats 8000000 in
theorem listed_ok : PureT Try.prog 147 K_listed := by
  refine pure_of_body Try.func147 rfl ?_
  have hres : Try.f147.results.toList = [.tmp 2] := rfl
  rintro ⟨⟨(pi : Int), (ts : List (List Int)), (ns : List NodeD), (os : List Int)⟩, _⟩ hc hL
  simp only [K_listed, lensOk, PK.lenOk, glensOk, GP.lenOk, flensOk, GO.lenOk, olensOk, Ty.lenOk, Ty.flat, Bool.and_true, Bool.true_and, Bool.and_false, Bool.false_and, true_and, and_true, implies_true, forall_const] at hL
  obtain ⟨⟨lts, lts2⟩, ⟨lns, lns2⟩, los⟩ := hL
  simp only [K_listed, St.init, St.initG, Try.ntmps147, go_sem] 
  have hP : patchB (pi, ts, ns, os) = true := hc
  have hF := (patchB_parts hP).1
  have hn24 : ns.length ≤ 24 := (formedB_parts hF).1
  have hol9 : (ordL ns).length = ns.length := (patchB_parts hP).2
  have hol : (ordL ns).length ≤ 24 := by omega
  refine AWP_seq_k fun K1 hK1 => ?_
  refine AWP_region (G := G) (T := T_sizeX) T_sizeX_ok ?_
  simp only [go_sem]
  refine hK1 _ ?_
  refine AWP_seq_k fun K2 hK2 => ?_
  refine AWP_region (G := G) (T := T_sizeX) T_sizeX_ok ?_
  simp only [List.nodup_cons, List.nodup_nil, List.not_mem_nil, not_false_eq_true, go_sem]
  repeat (with_reducible refine And.intro (by first | omega | exact ⟨rfl, by omega, by omega, by omega⟩) ?_)
  refine hK2 _ ?_
  refine AWP_seq_k fun K3 hK3 => ?_
  refine AWP_draw (G := G) (T := T_sizeX) T_sizeX_ok mixed
    [[], [0], [0, 1], [0, 1, 2], [], [4], [4, 5], [4, 5, 6], [0, 1, 2, 3], [0, 1, 2, 3, 4, 5, 6, 7, 8]]
    [[420], [420], [420], [420], [356], [356], [356], [356], [420], []]
    [[], [], [], [356], [], [], [], [420], [], []] (by kernel_rfl) (by kernel_rfl) (adrawR_ok (acc := []) ?_)
  simp (maxSteps := 2000000) only [List.nodup_nil, go_sem]
  repeat (with_reducible refine And.intro (by first | exact chk_leaf (by kernel_rfl) | omega | exact ⟨rfl, by omega, by omega, by omega⟩) ?_)
  refine hK3 _ ?_
  refine AWP_seq_k fun K4 hK4 => ?_
  refine AWP_seq_k fun K5 hK5 => ?_
  refine AWP_region (G := G) (T := T_sizeX) T_sizeX_ok ?_
  simp only [go_sem]
  repeat (with_reducible refine And.intro (by first | omega | exact ⟨rfl, by omega, by omega, by omega⟩ | exact hF) ?_)
  refine hK5 _ ?_
  refine AWP_block ?_
  refine AWP_loop_k (ι := { s : Nat × List Bool × List Bool // s.1 ≤ (ordL ns).length ∧ Marks ns.length s.2.1 ((ordL ns).take s.1) ∧ Marks ns.length s.2.2 (codeK ns (ordL ns) s.1).2 }) (fun k => ⟨[zz, .c (.po 116 0), zz, .c (.ow 9001), .c (.ow 9002), .c (.ow 9003), zz, zz, zz, zz, zz, zz, zz, zz, zz, zz, zz, zz, zz, zz, zz, zz, .c (.ow 9004), .c (.sc (.int .i64 ((ordL ns).length))), .c (.sc (.int .i64 (k.1.1))), zz, zz, zz, zz, zz, zz, zz, zz, zz, zz, zz, zz, zz, zz, zz, zz, zz, zz, zz, zz, zz, zz, zz, zz, zz, zz, zz, zz, zz, zz, zz, zz, zz, zz, zz, zz, zz, zz, zz, zz, zz, zz, zz, zz, zz, zz, zz, zz, zz, zz, zz, zz, zz, zz, zz, zz, zz, zz, zz, zz, zz, zz, zz, zz, zz, zz, zz, zz, zz, zz, zz, zz, zz, zz], [(116, .box [.sc (.int .i64 (pi)), .rd [] 24 ((.row 2 (.int .i64))) (ts), .rd [] 140 ((.prod (.int .i64) (.prod (.int .i64) (.prod (.int .i64) (.row 2 (.int .i64)))))) (ns), .rd [] 2 (.int .i64) (os)]), (9001, .tree 174 (.prod (.int .i64) (.prod (.int .i64) (.prod (.int .i64) (.prod (.int .i64) (.prod (.row 2 (.int .i64)) (.int .i64)))))) ((codeK ns (ordL ns) k.1.1).1) none), (9002, .row 4 (.bool) (k.1.2.1) []), (9003, .row 4 (.bool) (k.1.2.2) []), (9004, .row 2 (.int .i64) (ordL ns) [])]⟩) (fun k => (ordL ns).length - k.1.1) ⟨(0, List.replicate ns.length false, List.replicate ns.length false), by simp, Marks.nil _, Marks.nil _⟩ ?_ ?_
  ·
   refine Wk_to (by rfl) ?_
   simp (maxSteps := 2000000) only [go_sem]
   all_goals ((repeat' refine And.intro ?_ ?_) <;> first | rfl | (congr 1; done) | (simp; done))
  rintro ⟨⟨k, oc, so⟩, hk, hoc, hso⟩ K6 hL6
  have hk : k ≤ (ordL ns).length := hk
  have hoc : Marks ns.length oc ((ordL ns).take k) := hoc
  have hso : Marks ns.length so (codeK ns (ordL ns) k).2 := hso
  have hocl := hoc.1
  have hsol := hso.1
  have hor : k < (ordL ns).length → 0 ≤ (ordL ns).getD k 0 ∧ ((ordL ns).getD k 0).toNat < ns.length ∧ (ordL ns).getD k 0 < ns.length := fun h => ord_at h
  refine AWP_seq_k fun K7 hK7 => ?_
  refine AWP_region (G := G) (T := T_sizeX) T_sizeX_ok ?_
  simp only [go_sem]
  refine hK7 _ ?_
  refine AWP_seq_k fun K8 hK8 => ?_
  refine AWP_cond rfl ?_ ?_
  ·
   intro c0
   try simp only [decide_eq_true_eq, decide_eq_false_iff_not, Bool.not_eq_true', Bool.not_eq_false', ne_eq, Int.not_lt, Int.not_le] at c0
   obtain ⟨ho0, ho1, ho2⟩ := hor (by omega)
   have hko : CodeOk ns ((ordL ns).take k) (codeK ns (ordL ns) k) := codeK_ok hF k (by omega)
   have hkl := hko.len
   have hks := hko.small (p := (pi, ts, ns, os)) hF
   have hks : (codeK ns (ordL ns) k).2.length ≤ ns.length := hks
   have htl : ((ordL ns).take k).length = k := by rw [List.length_take]; omega
   obtain ⟨hi1, hi2, hi3, hi4, hi5⟩ := kind_at (p := (pi, ts, ns, os)) hF (i := ((ordL ns).getD k 0).toNat) ho1
   have hi4 : (ns.getD ((ordL ns).getD k 0).toNat ((0, 0, 0, []) : NodeD)).2.2.2.length ≤ 3 := hi4
   have hwl := waitsL_len (ns.getD ((ordL ns).getD k 0).toNat ((0, 0, 0, []) : NodeD))
   have hwl2 : (waitsL ((ns.getD ((ordL ns).getD k 0).toNat ((0, 0, 0, []) : NodeD)).1, (ns.getD ((ordL ns).getD k 0).toNat ((0, 0, 0, []) : NodeD)).2.1, (ns.getD ((ordL ns).getD k 0).toNat ((0, 0, 0, []) : NodeD)).2.2.1, (ns.getD ((ordL ns).getD k 0).toNat ((0, 0, 0, []) : NodeD)).2.2.2)).length ≤ 3 := Nat.le_trans (waitsL_len _) hi4
   have hoi : ((((ordL ns).getD k 0).toNat : Nat) : Int) = (ordL ns).getD k 0 := Int.toNat_of_nonneg ho0
   have hoc2 : Marks ns.length (oc.set ((ordL ns).getD k 0).toNat true) (doneAt ns k) := by unfold doneAt; rw [take_next (d := (0 : Int)) (by omega)]; have := hoc.add ho1; rwa [hoi] at this
   refine AWP_skip ?_
   simp only [go_sem]
   refine hK8 _ ?_
   refine AWP_seq_k fun K9 hK9 => ?_
   refine AWP_block ?_
   refine AWP_seq_k fun K10 hK10 => ?_
   refine AWP_region (G := G) (T := T_sizeX) T_sizeX_ok ?_
   simp only [go_sem]
   repeat (with_reducible refine And.intro (by first | omega | exact ⟨rfl, by omega, by omega, by omega⟩) ?_)
   refine hK10 _ ?_
   refine AWP_seq_k fun K11 hK11 => ?_
   refine AWP_region (G := G) (T := T_sizeX) T_sizeX_ok ?_
   simp (maxSteps := 2000000) only [go_sem]
   repeat (with_reducible refine And.intro (by first | omega | exact ⟨rfl, by omega, by omega, by omega⟩) ?_)
   refine hK11 _ ?_
   refine AWP_seq_k fun K12 hK12 => ?_
   refine AWP_draw (G := G) (T := T_sizeX) T_sizeX_ok mixed
     [[], [0], [], [2], [], [4], [], [], [7], [7, 8], [], [0, 1, 2, 3, 4, 5, 6, 7, 8, 9, 10], [], [0, 1, 2, 3, 4, 5, 6, 7, 8, 9, 10, 11, 12]]
     [[244, 756, 757, 758, 759, 760, 761, 762, 763, 764, 765, 766, 767, 768, 769, 770, 771, 772, 773, 774, 775, 776, 777, 778, 779, 780, 781, 782, 783, 784, 785, 786, 787], [244, 756, 757, 758, 759, 760, 761, 762, 763, 764, 765, 766, 767, 768, 769, 770, 771, 772, 773, 774, 775, 776, 777, 778, 779, 780, 781, 782, 783, 784, 785, 786, 787], [244, 756, 757, 758, 759, 760, 761, 762, 763, 764, 765, 766, 767, 768, 769, 770, 771, 772, 773, 774, 775, 776, 777, 778, 779, 780, 781, 782, 783, 784, 785, 786, 787], [244, 756, 757, 758, 759, 760, 761, 762, 763, 764, 765, 766, 767, 768, 769, 770, 771, 772, 773, 774, 775, 776, 777, 778, 779, 780, 781, 782, 783, 784, 785, 786, 787], [244, 756, 757, 758, 759, 760, 761, 762, 763, 764, 765, 766, 767, 768, 769, 770, 771, 772, 773, 774, 775, 776, 777, 778, 779, 780, 781, 782, 783, 784, 785, 786, 787], [244, 756, 757, 758, 759, 760, 761, 762, 763, 764, 765, 766, 767, 768, 769, 770, 771, 772, 773, 774, 775, 776, 777, 778, 779, 780, 781, 782, 783, 784, 785, 786, 787], [244, 756, 757, 758, 759, 760, 761, 762, 763, 764, 765, 766, 767, 768, 769, 770, 771, 772, 773, 774, 775, 776, 777, 778, 779, 780, 781, 782, 783, 784, 785, 786, 787], [244], [244], [244], [244, 756, 757, 758, 759, 760, 761, 762, 763, 764, 765, 766, 767, 768, 769, 770, 771, 772, 773, 774, 775, 776, 777, 778, 779, 780, 781, 782, 783, 784, 785, 786, 787], [244], [756, 757, 758, 759, 760, 761, 762, 763, 764, 765, 766, 767, 768, 769, 770, 771, 772, 773, 774, 775, 776, 777, 778, 779, 780, 781, 782, 783, 784, 785, 786, 787], []]
     [[], [], [], [], [], [], [], [], [756, 757, 758, 759, 760, 761, 762, 763, 764, 765, 766, 767, 768, 769, 770, 771], [772, 773, 774, 775, 776, 777, 778, 779, 780, 781, 782, 783, 784, 785, 786, 787], [], [], [244], []] (by kernel_rfl) (by kernel_rfl) (adrawR_ok (acc := []) ?_)
   simp (maxSteps := 2000000) only [go_sem]
   repeat (with_reducible refine And.intro (by first | exact chk_leaf (by kernel_rfl) | omega | exact ⟨rfl, by omega, by omega, by omega⟩ | exact Nat.le_trans hwl2 (by decide) | exact Nat.le_trans hi4 (by decide)) ?_)
   refine hK12 _ ?_
   refine AWP_seq_k fun K13 hK13 => ?_
   refine AWP_region (G := G) (T := T_sizeX) T_sizeX_ok ?_
   simp (maxSteps := 2000000) only [List.nodup_cons, List.nodup_nil, List.not_mem_nil, not_false_eq_true, go_sem]
   repeat (with_reducible refine And.intro (by first | omega | exact ⟨rfl, by omega, by omega, by omega⟩) ?_)
   refine hK13 _ ?_
   refine AWP_seq_k fun K14 hK14 => ?_
   refine AWP_region (G := G) (T := T_sizeX) T_sizeX_ok ?_
   simp only [List.nodup_nil, go_sem]
   repeat (with_reducible refine And.intro (by first | omega | exact ⟨rfl, by omega, by omega, by omega⟩) ?_)
   refine hK14 _ ?_
   refine AWP_seq_k fun K15 hK15 => ?_
   refine AWP_region (G := G) (T := T_sizeX) T_sizeX_ok ?_
   simp only [go_sem]
   repeat (with_reducible refine And.intro (by first | omega | exact ⟨rfl, by omega, by omega, by omega⟩) ?_)
   refine hK15 _ ?_
   refine AWP_block ?_
   refine AWP_loop_k (ι := { s : Nat × List Bool // s.1 ≤ ns.length ∧ Marks ns.length s.2 (putAt ns k s.1).2 }) (fun k' => ⟨[zz, .c (.po 116 0), zz, .c (.ow 9001), .c (.ow 9002), .c (.ow 9003), zz, zz, zz, zz, zz, zz, zz, zz, zz, zz, zz, zz, zz, zz, zz, zz, .c (.ow 9004), .c (.sc (.int .i64 ((ordL ns).length))), .c (.sc (.int .i64 (k))), zz, zz, zz, zz, zz, zz, zz, zz, zz, zz, zz, zz, zz, zz, zz, zz, zz, zz, zz, zz, zz, zz, zz, zz, zz, zz, zz, zz, .c (.rd [] 140 ((.prod (.int .i64) (.prod (.int .i64) (.prod (.int .i64) (.row 2 (.int .i64)))))) (ns)), .c (.sc (.int .i64 (ns.length))), .c (.sc (.int .i64 (k'.1.1))), zz, zz, zz, zz, zz, zz, zz, zz, zz, zz, zz, zz, zz, zz, zz, zz, zz, zz, zz, zz, zz, zz, zz, zz, zz, zz, zz, zz, zz, zz, zz, zz, zz, zz, zz, zz, zz, zz, zz, zz, zz, zz, zz], [(116, .box [.sc (.int .i64 (pi)), .rd [] 24 ((.row 2 (.int .i64))) (ts), .rd [] 140 ((.prod (.int .i64) (.prod (.int .i64) (.prod (.int .i64) (.row 2 (.int .i64)))))) (ns), .rd [] 2 (.int .i64) (os)]), (9001, .tree 174 (.prod (.int .i64) (.prod (.int .i64) (.prod (.int .i64) (.prod (.int .i64) (.prod (.row 2 (.int .i64)) (.int .i64)))))) ((putAt ns k k'.1.1).1) none), (9002, .row 4 (.bool) (oc.set ((ordL ns).getD k 0).toNat true) []), (9003, .row 4 (.bool) (k'.1.2) []), (9004, .row 2 (.int .i64) (ordL ns) [])]⟩) (fun k' => ns.length - k'.1.1) ⟨(0, so), by simp, hso⟩ ?_ ?_
   ·
    refine Wk_to (by rfl) ?_
    simp (maxSteps := 2000000) only [go_sem]
    all_goals ((repeat' refine And.intro ?_ ?_) <;> first | rfl | (congr 1; done) | (simp; done))
   rintro ⟨⟨d, so2⟩, hd, hso2⟩ K16 hL16
   have hd : d ≤ ns.length := hd
   have hso2 : Marks ns.length so2 (putAt ns k d).2 := hso2
   have hsl2 := hso2.1
   have hco : CodeOk ns (doneAt ns k) (putAt ns k d) := putAt_ok (p := (pi, ts, ns, os)) hF (by show k < (ordL ns).length; omega) hd
   have hcl := hco.len
   have hcs := hco.small (p := (pi, ts, ns, os)) hF
   have hcs : (putAt ns k d).2.length ≤ ns.length := hcs
   have htl1 : (doneAt ns k).length = k + 1 := by unfold doneAt; rw [List.length_take]; omega
   have hkd : d < ns.length → (ns.getD d ((0, 0, 0, []) : NodeD)).2.2.2.length ≤ 3 ∧ ((ns.getD d ((0, 0, 0, []) : NodeD)).1 = 6 → (ns.getD d ((0, 0, 0, []) : NodeD)).2.2.2.length = 1) ∧ idxs ns.length (ns.getD d ((0, 0, 0, []) : NodeD)).2.2.2 = true := fun h => by obtain ⟨a1, a2, a3, a4, a5⟩ := kind_at (p := (pi, ts, ns, os)) hF (i := d) h; exact ⟨a4, a5, a3⟩
   have hfr0 : d < ns.length → 0 ≤ (ns.getD d ((0, 0, 0, []) : NodeD)).2.2.2.getD 0 0 ∧ (ns.getD d ((0, 0, 0, []) : NodeD)).2.2.2.getD 0 0 < ns.length := fun h => from0_at (p := (pi, ts, ns, os)) hF (i := d) h
   have hocs : (oc.set ((ordL ns).getD k 0).toNat true).length = ns.length := by rw [List.length_set]; exact hocl
   have hm1' : d < ns.length → (oc.set ((ordL ns).getD k 0).toNat true).getD d false = (doneAt ns k).contains (d : Int) := fun h => hoc2.2 d h
   have hm2' : d < ns.length → (oc.set ((ordL ns).getD k 0).toNat true).getD ((ns.getD d ((0, 0, 0, []) : NodeD)).2.2.2.getD 0 0).toNat false = (doneAt ns k).contains ((ns.getD d ((0, 0, 0, []) : NodeD)).2.2.2.getD 0 0) := fun h => by
     obtain ⟨a, b⟩ := hfr0 h
     exact hoc2.at a b
   have hm3' : d < ns.length → so2.getD d false = (putAt ns k d).2.contains (d : Int) := fun h => hso2.2 d h
   refine AWP_seq_k fun K17 hK17 => ?_
   refine AWP_region (G := G) (T := T_sizeX) T_sizeX_ok ?_
   simp only [go_sem]
   refine hK17 _ ?_
   refine AWP_seq_k fun K18 hK18 => ?_
   refine AWP_cond rfl ?_ ?_
   ·
    intro c1
    try simp only [decide_eq_true_eq, decide_eq_false_iff_not, Bool.not_eq_true', Bool.not_eq_false', ne_eq, Int.not_lt, Int.not_le] at c1
    obtain ⟨hk4, hk5, hk6⟩ := hkd (by omega)
    obtain ⟨hfr1, hfr2⟩ := hfr0 (by omega)
    have hm1 := hm1' (by omega)
    have hm2 := hm2' (by omega)
    have hm3 := hm3' (by omega)
    refine AWP_skip ?_
    simp only [go_sem]
    refine hK18 _ ?_
    refine AWP_seq_k fun K19 hK19 => ?_
    refine AWP_block ?_
    refine AWP_seq_k fun K20 hK20 => ?_
    refine AWP_region (G := G) (T := T_sizeX) T_sizeX_ok ?_
    simp (maxSteps := 2000000) only [go_sem]
    repeat (with_reducible refine And.intro (by first | omega | exact ⟨rfl, by omega, by omega, by omega⟩) ?_)
    refine hK20 _ ?_
    refine AWP_seq_k fun K21 hK21 => ?_
    refine AWP_region (G := G) (T := T_sizeX) T_sizeX_ok ?_
    simp (maxSteps := 2000000) only [hm1, hm2, hm3, go_sem]
    repeat' (first | (with_reducible refine And.intro (by first | omega | exact ⟨rfl, by omega, by omega, by omega⟩ | omega) ?_) | (with_reducible refine gcase_dt (fun g13 => ?_) (fun g13 => ?_)) | (with_reducible refine gcase_df (fun g13 => ?_) (fun g13 => ?_)) | (with_reducible refine gcase_ndt (fun g13 => ?_) (fun g13 => ?_)) | (with_reducible refine gcase_ndf (fun g13 => ?_) (fun g13 => ?_)) | (with_reducible refine gcase_nt (fun g13 => ?_) (fun g13 => ?_)) | (with_reducible refine gcase_nf (fun g13 => ?_) (fun g13 => ?_)) | (with_reducible refine gcase_mk (fun g13 => ?_) (fun g13 => ?_)))
    all_goals
     refine hK21 _ ?_
     refine AWP_cond rfl ?_ ?_
     ·
      intro c2
      try simp only [decide_eq_true_eq, decide_eq_false_iff_not, Bool.not_eq_true', Bool.not_eq_false', ne_eq, Int.not_lt, Int.not_le, Bool.true_eq_false, Bool.false_eq_true] at c2
      all_goals
       have hB : putB ns (doneAt ns k) (putAt ns k d).2 d = true := putB_t (by assumption) (by assumption) (by assumption) (by assumption)
       refine AWP_seq_k fun K22 hK22 => ?_
       refine AWP_region (G := G) (T := T_sizeX) T_sizeX_ok ?_
       simp only [List.nodup_nil, go_sem]
       repeat (with_reducible refine And.intro (by first | omega | exact ⟨rfl, by omega, by omega, by omega⟩) ?_)
       refine hK22 _ ?_
       refine AWP_region (G := G) (T := T_sizeX) T_sizeX_ok ?_
       simp (maxSteps := 2000000) only [List.nodup_cons, List.nodup_nil, List.not_mem_nil, not_false_eq_true, go_sem]
       repeat (with_reducible refine And.intro (by first | omega | exact ⟨rfl, by omega, by omega, by omega⟩ | omega) ?_)
       refine hK19 _ ?_
       refine AWP_region (G := G) (T := T_sizeX) T_sizeX_ok ?_
       simp only [go_sem]
       first | (refine hL16 ⟨(d + 1, so2.set d true), by show d + 1 ≤ _; omega, by show Marks ns.length _ (putAt ns k (d + 1)).2; rw [(putAt_t hB).2]; exact hso2.add (by omega)⟩ _ (Wk_to (by rfl) ?_) ?_) | (refine hL16 ⟨(d + 1, so2), by show d + 1 ≤ _; omega, by show Marks ns.length _ (putAt ns k (d + 1)).2; rw [putAt_f hB]; exact hso2⟩ _ (Wk_to (by rfl) ?_) ?_)
       ·
        simp (maxSteps := 2000000) only [go_sem]
        all_goals ((repeat' refine And.intro ?_ ?_) <;> first | rfl | exact wk (by omega) | (rw [putAt_f hB]; done) | (congr 1; exact (putAt_t hB).1.symm) | (congr 1; done))
       ·
        first | (simp only []; omega) | omega | (simp; omega)
     ·
      intro c2
      try simp only [decide_eq_true_eq, decide_eq_false_iff_not, Bool.not_eq_true', Bool.not_eq_false', ne_eq, Int.not_lt, Int.not_le, Bool.true_eq_false, Bool.false_eq_true] at c2
      all_goals
       have hB : putB ns (doneAt ns k) (putAt ns k d).2 d = false := by first | exact putB_f1 (by assumption) | exact putB_f2 (by assumption) | exact putB_f3 (by assumption) | exact putB_f4 (by assumption)
       refine AWP_skip ?_
       simp only [go_sem]
       refine hK19 _ ?_
       refine AWP_region (G := G) (T := T_sizeX) T_sizeX_ok ?_
       simp only [go_sem]
       first | (refine hL16 ⟨(d + 1, so2.set d true), by show d + 1 ≤ _; omega, by show Marks ns.length _ (putAt ns k (d + 1)).2; rw [(putAt_t hB).2]; exact hso2.add (by omega)⟩ _ (Wk_to (by rfl) ?_) ?_) | (refine hL16 ⟨(d + 1, so2), by show d + 1 ≤ _; omega, by show Marks ns.length _ (putAt ns k (d + 1)).2; rw [putAt_f hB]; exact hso2⟩ _ (Wk_to (by rfl) ?_) ?_)
       ·
        simp (maxSteps := 2000000) only [go_sem]
        all_goals ((repeat' refine And.intro ?_ ?_) <;> first | rfl | exact wk (by omega) | (rw [putAt_f hB]; done) | (congr 1; exact (putAt_t hB).1.symm) | (congr 1; done))
       ·
        first | (simp only []; omega) | omega | (simp; omega)
   ·
    intro c1
    try simp only [decide_eq_true_eq, decide_eq_false_iff_not, Bool.not_eq_true', Bool.not_eq_false', ne_eq, Int.not_lt, Int.not_le] at c1
    have hde : d = ns.length := by omega
    have hso3 : Marks ns.length so2 (codeK ns (ordL ns) (k + 1)).2 := by rw [hde] at hso2; exact hso2
    refine AWP_exit ?_
    simp only [go_sem]
    refine hK9 _ ?_
    refine AWP_region (G := G) (T := T_sizeX) T_sizeX_ok ?_
    simp only [go_sem]
    refine hL6 ⟨(k + 1, oc.set ((ordL ns).getD k 0).toNat true, so2), by show k + 1 ≤ _; omega, hoc2, hso3⟩ _ (Wk_to (by rfl) ?_) ?_
    ·
     simp (maxSteps := 2000000) only [go_sem]
     all_goals ((repeat' refine And.intro ?_ ?_) <;> first | rfl | exact wk (by omega) | (congr 1; done) | (rw [hde]; rfl))
    ·
     first | (simp only []; omega) | omega | (simp; omega)
  ·
   intro c0
   try simp only [decide_eq_true_eq, decide_eq_false_iff_not, Bool.not_eq_true', Bool.not_eq_false', ne_eq, Int.not_lt, Int.not_le] at c0
   refine AWP_exit ?_
   simp only [go_sem]
   refine hK4 _ ?_
   refine AWP_seq_k fun K23 hK23 => ?_
   refine AWP_region (G := G) (T := T_sizeX) T_sizeX_ok ?_
   simp only [go_sem]
   refine hK23 _ ?_
   refine AWP_ret ?_
   simp only [hres, go_sem]
   first
     | exact finOk_mk (by rfl) (by decide)
     | refine ⟨?_, finOk_mk (by rfl) (by decide)⟩
       have hk3 : k = (ordL ns).length := by omega
       clear hK1 hK2 hK3 hK4 hK5 hL6 hK7 hK8 hK23
       subst hk3
       rfl

theorem listed_fn : FnOk Try.prog 147 := fnOk_of Try.func147 rfl (by decide)

def T_listed : Tab := fun f => if f = 147 then some (.p K_listed) else T_sizeX f
theorem T_listed_ok : TabOk Try.prog T_listed := fun f k h => by
  unfold T_listed at h
  split at h
  · rename_i e; cases h; subst e; exact ⟨listed_ok, listed_fn⟩
  · exact T_sizeX_ok f k h
attribute [go_sem] T_listed K_listed


def K_lastReads : Con := ⟨[.val ((.prod (.int .i64) (.prod (.row 24 (.row 2 (.int .i64))) (.prod (.row 140 (.prod (.int .i64) (.prod (.int .i64) (.prod (.int .i64) (.row 2 (.int .i64)))))) (.row 2 (.int .i64)))))), .val ((.row 174 (.prod (.int .i64) (.prod (.int .i64) (.prod (.int .i64) (.prod (.int .i64) (.prod (.row 2 (.int .i64)) (.int .i64))))))))], [⟨(.row 2 (.int .i64)), true⟩], fun x => (∀ y ∈ x.2.1, InstrOk x.1.2.2.1.length y) ∧ idxs x.1.2.2.1.length x.1.2.2.2 = true ∧ x.1.2.2.1.length ≤ 1000 ∧ x.1.2.2.2.length ≤ 1000, fun x => lastP x.1.2.2.1.length x.2.1 x.1.2.2.2⟩
set_option maxRecDepth 100000 in
set_option maxHeartbeats 8000000 in
theorem lastReads_ok : PureT Try.prog 148 K_lastReads := by
  refine pure_of_body Try.func148 rfl ?_
  have hres : Try.f148.results.toList = [.tmp 4] := rfl
  rintro ⟨⟨(pi : Int), (ts : List (List Int)), (ns : List NodeD), (os : List Int)⟩, (xs : List InstrD), _⟩ hc hL
  simp only [K_lastReads, lensOk, PK.lenOk, glensOk, GP.lenOk, flensOk, GO.lenOk, olensOk, Ty.lenOk, Ty.flat, Bool.and_true, Bool.true_and, Bool.and_false, Bool.false_and, true_and, and_true, implies_true, forall_const] at hL
  obtain ⟨⟨⟨lts, lts2⟩, ⟨lns, lns2⟩, los⟩, lxs, lxs2⟩ := hL
  simp only [K_lastReads, St.init, St.initG, Try.ntmps148, go_sem] 
  obtain ⟨hX, hO, hnl, hol⟩ := (show (∀ y ∈ xs, InstrOk ns.length y) ∧ idxs ns.length os = true ∧ ns.length ≤ 1000 ∧ os.length ≤ 1000 from hc)
  have hzc : inR (ns.length : Int) 0 1099511627776 = true := inR_t (by omega) (by omega)
  refine AWP_seq_k fun K1 hK1 => ?_
  refine AWP_region (G := G) (T := T_listed) T_listed_ok ?_
  simp only [go_sem]
  refine hK1 _ ?_
  refine AWP_seq_k fun K2 hK2 => ?_
  refine AWP_region (G := G) (T := T_listed) T_listed_ok ?_
  simp (maxSteps := 2000000) only [go_sem]
  repeat (with_reducible refine And.intro (by first | omega | exact ⟨rfl, by omega, by omega, by omega⟩ | exact hzc) ?_)
  refine hK2 _ ?_
  refine AWP_seq_k fun K3 hK3 => ?_
  refine AWP_seq_k fun K4 hK4 => ?_
  refine AWP_region (G := G) (T := T_listed) T_listed_ok ?_
  simp only [go_sem]
  refine hK4 _ ?_
  refine AWP_block ?_
  refine AWP_loop_k (ι := { k : Nat // k ≤ ns.length }) (fun k => ⟨[zz, .c (.rd [] 174 ((.prod (.int .i64) (.prod (.int .i64) (.prod (.int .i64) (.prod (.int .i64) (.prod (.row 2 (.int .i64)) (.int .i64))))))) (xs)), .c (.po 132 0), zz, zz, .c (.ow 9001), zz, zz, zz, zz, zz, zz, zz, zz, zz, zz, zz, zz, .c (.sc (.int .i64 (ns.length))), .c (.sc (.int .i64 (k.1))), zz, zz, zz, zz, zz, zz, zz, zz, zz, zz, zz, zz, zz, zz, zz, zz, zz, zz, zz, zz, zz, zz, zz, zz, zz, zz, zz, zz, zz, zz, zz, zz, zz, zz, zz, zz, zz, zz, zz, zz], [(132, .box [.sc (.int .i64 (pi)), .rd [] 24 ((.row 2 (.int .i64))) (ts), .rd [] 140 ((.prod (.int .i64) (.prod (.int .i64) (.prod (.int .i64) (.row 2 (.int .i64)))))) (ns), .rd [] 2 (.int .i64) (os)]), (9001, .row 2 (.int .i64) (blend (List.replicate ns.length (-1 : Int)) (List.replicate ns.length 0) k.1) [])]⟩) (fun k => ns.length - k.1) ⟨0, by simp⟩ ?_ ?_
  ·
   refine Wk_to (by rfl) ?_
   simp (maxSteps := 2000000) only [go_sem]
   all_goals ((repeat' refine And.intro ?_ ?_) <;> first | rfl | exact blend_zero.symm | (congr 1; done) | (simp; done))
  rintro ⟨k, hk⟩ K5 hL5
  have hbl : (blend (List.replicate ns.length (-1 : Int)) (List.replicate ns.length 0) k).length = ns.length := by rw [blend_len (by simp) (by simp; omega)]; simp
  have hbs : k < ns.length → (blend (List.replicate ns.length (-1 : Int)) (List.replicate ns.length 0) k).set k (-1) = blend (List.replicate ns.length (-1 : Int)) (List.replicate ns.length 0) (k + 1) := fun h => by have := blend_set (A := List.replicate ns.length (-1 : Int)) (B := List.replicate ns.length 0) (m := k) (-1) (by simp) (by simpa using h); rwa [show (List.replicate ns.length (-1 : Int)).getD k (-1) = -1 by simp [List.getD, h]] at this
  refine AWP_seq_k fun K6 hK6 => ?_
  refine AWP_region (G := G) (T := T_listed) T_listed_ok ?_
  simp only [go_sem]
  refine hK6 _ ?_
  refine AWP_seq_k fun K7 hK7 => ?_
  refine AWP_cond rfl ?_ ?_
  ·
   intro c0
   try simp only [decide_eq_true_eq, decide_eq_false_iff_not, Bool.not_eq_true', Bool.not_eq_false', ne_eq, Int.not_lt, Int.not_le] at c0
   refine AWP_skip ?_
   simp only [go_sem]
   refine hK7 _ ?_
   refine AWP_seq_k fun K8 hK8 => ?_
   refine AWP_block ?_
   refine AWP_seq_k fun K9 hK9 => ?_
   refine AWP_region (G := G) (T := T_listed) T_listed_ok ?_
   simp only [go_sem]
   refine hK9 _ ?_
   refine AWP_region (G := G) (T := T_listed) T_listed_ok ?_
   simp only [List.nodup_nil, go_sem]
   repeat (with_reducible refine And.intro (by first | omega | exact ⟨rfl, by omega, by omega, by omega⟩) ?_)
   refine hK8 _ ?_
   refine AWP_region (G := G) (T := T_listed) T_listed_ok ?_
   simp only [go_sem]
   refine hL5 ⟨k + 1, by omega⟩ _ (Wk_to (by rfl) ?_) ?_
   ·
    simp (maxSteps := 2000000) only [go_sem]
    all_goals ((repeat' refine And.intro ?_ ?_) <;> first | rfl | exact wk (by omega) | exact hbs (by omega))
   ·
    first | (simp only []; omega) | omega | (simp; omega)
  ·
   intro c0
   try simp only [decide_eq_true_eq, decide_eq_false_iff_not, Bool.not_eq_true', Bool.not_eq_false', ne_eq, Int.not_lt, Int.not_le] at c0
   refine AWP_exit ?_
   simp only [go_sem]
   refine hK3 _ ?_
   refine AWP_seq_k fun K10 hK10 => ?_
   refine AWP_seq_k fun K11 hK11 => ?_
   refine AWP_region (G := G) (T := T_listed) T_listed_ok ?_
   simp only [go_sem]
   refine hK11 _ ?_
   refine AWP_block ?_
   refine AWP_loop_k (ι := { t : Nat // t ≤ xs.length }) (fun k => ⟨[zz, .c (.rd [] 174 ((.prod (.int .i64) (.prod (.int .i64) (.prod (.int .i64) (.prod (.int .i64) (.prod (.row 2 (.int .i64)) (.int .i64))))))) (xs)), .c (.po 132 0), zz, zz, .c (.ow 9001), zz, zz, zz, zz, zz, zz, zz, zz, zz, zz, zz, zz, zz, zz, zz, zz, zz, zz, zz, zz, .c (.rd [] 174 ((.prod (.int .i64) (.prod (.int .i64) (.prod (.int .i64) (.prod (.int .i64) (.prod (.row 2 (.int .i64)) (.int .i64))))))) (xs)), .c (.sc (.int .i64 (xs.length))), .c (.sc (.int .i64 (k.1))), zz, zz, zz, zz, zz, zz, zz, zz, zz, zz, zz, zz, zz, zz, zz, zz, zz, zz, zz, zz, zz, zz, zz, zz, zz, zz, zz, zz, zz, zz, zz], [(132, .box [.sc (.int .i64 (pi)), .rd [] 24 ((.row 2 (.int .i64))) (ts), .rd [] 140 ((.prod (.int .i64) (.prod (.int .i64) (.prod (.int .i64) (.row 2 (.int .i64)))))) (ns), .rd [] 2 (.int .i64) (os)]), (9001, .row 2 (.int .i64) ((lastK ns.length xs k.1)) [])]⟩) (fun k => xs.length - k.1) ⟨0, by simp⟩ ?_ ?_
   ·
    refine Wk_to (by rfl) ?_
    simp (maxSteps := 2000000) only [go_sem]
    all_goals ((repeat' refine And.intro ?_ ?_) <;> first | rfl | (congr 1; done) | (rw [show k = ns.length by omega]; first | rfl | exact blend_all (by simp) (by simp)) | (simp; done))
   rintro ⟨t, ht⟩ K12 hL12
   have hlk : (lastK ns.length xs t).length = ns.length := lastK_len t
   have hxo : t < xs.length → InstrOk ns.length (xs.getD t ((0, 0, 0, 0, [], 0) : InstrD)) := fun h => hX _ (getD_mem h)
   refine AWP_seq_k fun K13 hK13 => ?_
   refine AWP_region (G := G) (T := T_listed) T_listed_ok ?_
   simp only [go_sem]
   refine hK13 _ ?_
   refine AWP_seq_k fun K14 hK14 => ?_
   refine AWP_cond rfl ?_ ?_
   ·
    intro c1
    try simp only [decide_eq_true_eq, decide_eq_false_iff_not, Bool.not_eq_true', Bool.not_eq_false', ne_eq, Int.not_lt, Int.not_le] at c1
    have hxt := hxo (by omega)
    have hx3 : (xs.getD t ((0, 0, 0, 0, [], 0) : InstrD)).2.2.2.2.1.length ≤ 3 := hxt.2.2
    refine AWP_skip ?_
    simp only [go_sem]
    refine hK14 _ ?_
    refine AWP_seq_k fun K15 hK15 => ?_
    refine AWP_block ?_
    refine AWP_seq_k fun K16 hK16 => ?_
    refine AWP_region (G := G) (T := T_listed) T_listed_ok ?_
    simp (maxSteps := 2000000) only [go_sem]
    repeat (with_reducible refine And.intro (by first | omega | exact ⟨rfl, by omega, by omega, by omega⟩) ?_)
    refine hK16 _ ?_
    refine AWP_seq_k fun K17 hK17 => ?_
    refine AWP_region (G := G) (T := T_listed) T_listed_ok ?_
    simp only [go_sem]
    repeat (with_reducible refine And.intro (by first | omega | exact ⟨rfl, by omega, by omega, by omega⟩) ?_)
    refine hK17 _ ?_
    refine AWP_block ?_
    refine AWP_loop_k (ι := { m : Nat // m ≤ (xs.getD t ((0, 0, 0, 0, [], 0) : InstrD)).2.2.2.2.1.length }) (fun k' => ⟨[zz, .c (.rd [] 174 ((.prod (.int .i64) (.prod (.int .i64) (.prod (.int .i64) (.prod (.int .i64) (.prod (.row 2 (.int .i64)) (.int .i64))))))) (xs)), .c (.po 132 0), zz, zz, .c (.ow 9001), zz, .c (.sc (.int .i64 (t))), zz, zz, zz, zz, zz, zz, zz, zz, zz, zz, zz, zz, zz, zz, zz, zz, zz, zz, .c (.rd [] 174 ((.prod (.int .i64) (.prod (.int .i64) (.prod (.int .i64) (.prod (.int .i64) (.prod (.row 2 (.int .i64)) (.int .i64))))))) (xs)), .c (.sc (.int .i64 (xs.length))), .c (.sc (.int .i64 (t))), zz, zz, zz, zz, zz, .c (.rd [] 2 (.int .i64) ((xs.getD t ((0, 0, 0, 0, [], 0) : InstrD)).2.2.2.2.1)), .c (.sc (.int .i64 ((xs.getD t ((0, 0, 0, 0, [], 0) : InstrD)).2.2.2.2.1.length))), .c (.sc (.int .i64 (k'.1))), zz, zz, zz, zz, zz, zz, zz, zz, zz, zz, zz, zz, zz, zz, zz, zz, zz, zz, zz, zz, zz, zz, zz], [(132, .box [.sc (.int .i64 (pi)), .rd [] 24 ((.row 2 (.int .i64))) (ts), .rd [] 140 ((.prod (.int .i64) (.prod (.int .i64) (.prod (.int .i64) (.row 2 (.int .i64)))))) (ns), .rd [] 2 (.int .i64) (os)]), (9001, .row 2 (.int .i64) (setAll (lastK ns.length xs t) ((xs.getD t ((0, 0, 0, 0, [], 0) : InstrD)).2.2.2.2.1.take k'.1) (t : Int)) [])]⟩) (fun k' => (xs.getD t ((0, 0, 0, 0, [], 0) : InstrD)).2.2.2.2.1.length - k'.1) ⟨0, by simp⟩ ?_ ?_
    ·
     refine Wk_to (by rfl) ?_
     simp (maxSteps := 2000000) only [go_sem]
     all_goals ((repeat' refine And.intro ?_ ?_) <;> first | rfl | (congr 1; done) | (simp; done))
    rintro ⟨m, hm⟩ K18 hL18
    have hsl : (setAll (lastK ns.length xs t) ((xs.getD t ((0, 0, 0, 0, [], 0) : InstrD)).2.2.2.2.1.take m) (t : Int)).length = ns.length := by rw [setAll_len]; exact hlk
    have hix : m < (xs.getD t ((0, 0, 0, 0, [], 0) : InstrD)).2.2.2.2.1.length → 0 ≤ (xs.getD t ((0, 0, 0, 0, [], 0) : InstrD)).2.2.2.2.1.getD m 0 ∧ (xs.getD t ((0, 0, 0, 0, [], 0) : InstrD)).2.2.2.2.1.getD m 0 ≤ ns.length - 1 := fun h => idxs_at hxt.2.1 (getD_mem h)
    have hnx : m < (xs.getD t ((0, 0, 0, 0, [], 0) : InstrD)).2.2.2.2.1.length → setAll (lastK ns.length xs t) ((xs.getD t ((0, 0, 0, 0, [], 0) : InstrD)).2.2.2.2.1.take (m + 1)) (t : Int) = (setAll (lastK ns.length xs t) ((xs.getD t ((0, 0, 0, 0, [], 0) : InstrD)).2.2.2.2.1.take m) (t : Int)).set ((xs.getD t ((0, 0, 0, 0, [], 0) : InstrD)).2.2.2.2.1.getD m 0).toNat (t : Int) := fun h => setAll_next h
    refine AWP_seq_k fun K19 hK19 => ?_
    refine AWP_region (G := G) (T := T_listed) T_listed_ok ?_
    simp only [go_sem]
    refine hK19 _ ?_
    refine AWP_seq_k fun K20 hK20 => ?_
    refine AWP_cond rfl ?_ ?_
    ·
     intro c2
     try simp only [decide_eq_true_eq, decide_eq_false_iff_not, Bool.not_eq_true', Bool.not_eq_false', ne_eq, Int.not_lt, Int.not_le] at c2
     obtain ⟨hi1, hi2⟩ := hix (by omega)
     refine AWP_skip ?_
     simp only [go_sem]
     refine hK20 _ ?_
     refine AWP_seq_k fun K21 hK21 => ?_
     refine AWP_block ?_
     refine AWP_seq_k fun K22 hK22 => ?_
     refine AWP_region (G := G) (T := T_listed) T_listed_ok ?_
     simp only [go_sem]
     repeat (with_reducible refine And.intro (by first | omega | exact ⟨rfl, by omega, by omega, by omega⟩) ?_)
     refine hK22 _ ?_
     refine AWP_region (G := G) (T := T_listed) T_listed_ok ?_
     simp (maxSteps := 2000000) only [List.nodup_nil, go_sem]
     repeat (with_reducible refine And.intro (by first | omega | exact ⟨rfl, by omega, by omega, by omega⟩) ?_)
     refine hK21 _ ?_
     refine AWP_region (G := G) (T := T_listed) T_listed_ok ?_
     simp only [go_sem]
     refine hL18 ⟨m + 1, by omega⟩ _ (Wk_to (by rfl) ?_) ?_
     ·
      simp (maxSteps := 2000000) only [go_sem]
      all_goals ((repeat' refine And.intro ?_ ?_) <;> first | rfl | exact wk (by omega) | exact (hnx (by omega)).symm)
     ·
      first | (simp only []; omega) | omega | (simp; omega)
    ·
     intro c2
     try simp only [decide_eq_true_eq, decide_eq_false_iff_not, Bool.not_eq_true', Bool.not_eq_false', ne_eq, Int.not_lt, Int.not_le] at c2
     have hms : (xs.getD t ((0, 0, 0, 0, [], 0) : InstrD)).2.2.2.2.1.take m = (xs.getD t ((0, 0, 0, 0, [], 0) : InstrD)).2.2.2.2.1 := List.take_of_length_le (by omega)
     refine AWP_exit ?_
     simp only [go_sem]
     refine hK15 _ ?_
     refine AWP_region (G := G) (T := T_listed) T_listed_ok ?_
     simp only [go_sem]
     refine hL12 ⟨t + 1, by omega⟩ _ (Wk_to (by rfl) ?_) ?_
     ·
      simp (maxSteps := 2000000) only [go_sem]
      all_goals ((repeat' refine And.intro ?_ ?_) <;> first | rfl | exact wk (by omega) | (rw [hms]; rfl))
     ·
      first | (simp only []; omega) | omega | (simp; omega)
   ·
    intro c1
    try simp only [decide_eq_true_eq, decide_eq_false_iff_not, Bool.not_eq_true', Bool.not_eq_false', ne_eq, Int.not_lt, Int.not_le] at c1
    refine AWP_exit ?_
    simp only [go_sem]
    refine hK10 _ ?_
    refine AWP_seq_k fun K23 hK23 => ?_
    refine AWP_seq_k fun K24 hK24 => ?_
    refine AWP_region (G := G) (T := T_listed) T_listed_ok ?_
    simp only [go_sem]
    repeat (with_reducible refine And.intro (by first | omega | exact ⟨rfl, by omega, by omega, by omega⟩) ?_)
    refine hK24 _ ?_
    refine AWP_block ?_
    refine AWP_loop_k (ι := { m : Nat // m ≤ os.length }) (fun k' => ⟨[zz, .c (.rd [] 174 ((.prod (.int .i64) (.prod (.int .i64) (.prod (.int .i64) (.prod (.int .i64) (.prod (.row 2 (.int .i64)) (.int .i64))))))) (xs)), zz, zz, zz, .c (.ow 9001), zz, zz, zz, zz, zz, zz, zz, zz, zz, zz, zz, zz, zz, zz, zz, zz, zz, zz, zz, zz, zz, zz, zz, zz, zz, zz, zz, zz, zz, zz, zz, zz, zz, zz, zz, zz, zz, zz, zz, zz, zz, .c (.rd [] 2 (.int .i64) (os)), .c (.sc (.int .i64 (os.length))), .c (.sc (.int .i64 (k'.1))), zz, zz, zz, zz, zz, zz, zz, zz, zz, zz], [(9001, .row 2 (.int .i64) (setAll (lastK ns.length xs xs.length) (os.take k'.1) (xs.length : Int)) [])]⟩) (fun k' => os.length - k'.1) ⟨0, by simp⟩ ?_ ?_
    ·
     refine Wk_to (by rfl) ?_
     simp (maxSteps := 2000000) only [go_sem]
     all_goals ((repeat' refine And.intro ?_ ?_) <;> first | rfl | (rw [show t = xs.length by omega]; rfl) | (congr 1; done) | (simp; done))
    rintro ⟨m, hm⟩ K25 hL25
    have hlk9 : (lastK ns.length xs xs.length).length = ns.length := lastK_len _
    have hsl : (setAll (lastK ns.length xs xs.length) (os.take m) (xs.length : Int)).length = ns.length := by rw [setAll_len]; exact hlk9
    have hix : m < os.length → 0 ≤ os.getD m 0 ∧ os.getD m 0 ≤ ns.length - 1 := fun h => idxs_at hO (getD_mem h)
    have hnx : m < os.length → setAll (lastK ns.length xs xs.length) (os.take (m + 1)) (xs.length : Int) = (setAll (lastK ns.length xs xs.length) (os.take m) (xs.length : Int)).set (os.getD m 0).toNat (xs.length : Int) := fun h => setAll_next h
    refine AWP_seq_k fun K26 hK26 => ?_
    refine AWP_region (G := G) (T := T_listed) T_listed_ok ?_
    simp only [go_sem]
    refine hK26 _ ?_
    refine AWP_seq_k fun K27 hK27 => ?_
    refine AWP_cond rfl ?_ ?_
    ·
     intro c3
     try simp only [decide_eq_true_eq, decide_eq_false_iff_not, Bool.not_eq_true', Bool.not_eq_false', ne_eq, Int.not_lt, Int.not_le] at c3
     obtain ⟨hi1, hi2⟩ := hix (by omega)
     refine AWP_skip ?_
     simp only [go_sem]
     refine hK27 _ ?_
     refine AWP_seq_k fun K28 hK28 => ?_
     refine AWP_block ?_
     refine AWP_seq_k fun K29 hK29 => ?_
     refine AWP_region (G := G) (T := T_listed) T_listed_ok ?_
     simp only [go_sem]
     repeat (with_reducible refine And.intro (by first | omega | exact ⟨rfl, by omega, by omega, by omega⟩) ?_)
     refine hK29 _ ?_
     refine AWP_region (G := G) (T := T_listed) T_listed_ok ?_
     simp (maxSteps := 2000000) only [List.nodup_nil, go_sem]
     repeat (with_reducible refine And.intro (by first | omega | exact ⟨rfl, by omega, by omega, by omega⟩) ?_)
     refine hK28 _ ?_
     refine AWP_region (G := G) (T := T_listed) T_listed_ok ?_
     simp only [go_sem]
     refine hL25 ⟨m + 1, by omega⟩ _ (Wk_to (by rfl) ?_) ?_
     ·
      simp (maxSteps := 2000000) only [go_sem]
      all_goals ((repeat' refine And.intro ?_ ?_) <;> first | rfl | exact wk (by omega) | exact (hnx (by omega)).symm)
     ·
      first | (simp only []; omega) | omega | (simp; omega)
    ·
     intro c3
     try simp only [decide_eq_true_eq, decide_eq_false_iff_not, Bool.not_eq_true', Bool.not_eq_false', ne_eq, Int.not_lt, Int.not_le] at c3
     refine AWP_exit ?_
     simp only [go_sem]
     refine hK23 _ ?_
     refine AWP_seq_k fun K30 hK30 => ?_
     refine AWP_region (G := G) (T := T_listed) T_listed_ok ?_
     simp only [go_sem]
     refine hK30 _ ?_
     refine AWP_ret ?_
     simp only [hres, go_sem]
     first
       | exact finOk_mk (by rfl) (by decide)
       | refine ⟨?_, finOk_mk (by rfl) (by decide)⟩
         have hm3 : m = os.length := by omega
         clear hK1 hK2 hK3 hK4 hL5 hK6 hK7 hK10 hK11 hL12 hK13 hK14 hK23 hK24 hL25 hK26 hK27 hK30
         subst hm3
         unfold lastP
         rw [List.take_of_length_le (by omega)]

theorem lastReads_fn : FnOk Try.prog 148 := fnOk_of Try.func148 rfl (by decide)

def T_lastReads : Tab := fun f => if f = 148 then some (.p K_lastReads) else T_listed f
theorem T_lastReads_ok : TabOk Try.prog T_lastReads := fun f k h => by
  unfold T_lastReads at h
  split at h
  · rename_i e; cases h; subst e; exact ⟨lastReads_ok, lastReads_fn⟩
  · exact T_listed_ok f k h
attribute [go_sem] T_lastReads K_lastReads

end Go.Proofs.Ythglggjgjlmhlaa
