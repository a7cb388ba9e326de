/-
  Contracts of functions: l11Code, l11Last.
-/
import Derived.Test.YthglggjgjlmhlaaGb6
import Derived.Test.YthglggjgjlmhlaaHb1
import Derived.Test.YthglggjgjlmhlaaHr1
import Derived.Test.YthglggjgjlmhlaaPk
import Derived.Test.YthglggjgjlmhlaaPi
import Derived.Test.YthglggjgjlmhlaaGp
import Derived.Test.YthglggjgjlmhlaaGz
namespace Go.Proofs.Ythglggjgjlmhlaa
open Go.RowKit
set_option linter.unusedSimpArgs false
set_option linter.unusedVariables false

def T_mHp30 : Tab := fun f => match T_l12Ask f with
  | some k => some k
  | none => T_l07Own f
theorem T_mHp30_ok : TabOk Try.prog T_mHp30 := fun f k h => by
  unfold T_mHp30 at h
  split at h
  · rename_i e; cases h; exact T_l12Ask_ok f _ e
  · exact T_l07Own_ok f k h
attribute [go_sem] T_mHp30 T0


def T_mHp31 : Tab := fun f => match T_mHp30 f with
  | some k => some k
  | none => T_l07Map f
theorem T_mHp31_ok : TabOk Try.prog T_mHp31 := fun f k h => by
  unfold T_mHp31 at h
  split at h
  · rename_i e; cases h; exact T_mHp30_ok f _ e
  · exact T_l07Map_ok f k h
attribute [go_sem] T_mHp31 T0


def K_l11Code : Con := ⟨[.ptr (.prod (.int .i64) (.prod (.row 24 (.row 2 (.int .i64))) (.prod (.row 140 (.prod (.int .i64) (.prod (.int .i64) (.prod (.int .i64) (.row 2 (.int .i64)))))) (.row 2 (.int .i64)))))], [⟨(.row 174 (.prod (.int .i64) (.prod (.int .i64) (.prod (.int .i64) (.prod (.int .i64) (.prod (.row 2 (.int .i64)) (.int .i64))))))), true⟩], fun x => patchB x.1 = true, fun x => codeL x.1.2.2.1⟩
set_option maxRecDepth 100000 in
set_option maxHeartbeats 8000000 in
theorem l11Code_r19 (pi : Int) (ts : List (List Int)) (ns : List NodeD) (os : List Int) (k d : Nat) (hd : d < ns.length) (hn24 : ns.length ≤ 24) (htl1 : (doneAt ns k).length = k + 1) (hkn : k < ns.length) (hcs : (putAt ns k d).2.length ≤ ns.length) (hk5 : (ns.getD d ((0, 0, 0, []) : NodeD)).1 = 6 → (ns.getD d ((0, 0, 0, []) : NodeD)).2.2.2.length = 1) {K : St → Prop} {Q : Exit → St → Prop} (hK : ∀ σ', Wk σ' ⟨(.c (.pt [] ((.prod (.int .i64) (.prod (.row 24 (.row 2 (.int .i64))) (.prod (.row 140 (.prod (.int .i64) (.prod (.int .i64) (.prod (.int .i64) (.row 2 (.int .i64)))))) (.row 2 (.int .i64)))))) (pi, ts, ns, os) 0) :: zz :: zz :: .c (.ow 9001) :: .c (.ow 9004) :: zz :: .c (.ow 9002) :: .c (.ow 9003) :: .c (.sc (.int .i64 (k))) :: zz :: zz :: zz :: .c (.sc (.int .i64 (d))) :: .c (.pt [] ((.prod (.int .i64) (.prod (.int .i64) (.prod (.int .i64) (.row 2 (.int .i64)))))) (ns.getD d ((0, 0, 0, []) : NodeD)) 0) :: zz :: zz :: zz :: zz :: zz :: zz :: zz :: zz :: zz :: zz :: zz :: zz :: zz :: zz :: zz :: zz :: zz :: zz :: zz :: zz :: zz :: zz :: zz :: zz :: zz :: zz :: zz :: zz :: zz :: zz :: zz :: zz :: zz :: zz :: zz :: zz :: zz :: zz :: zz :: zz :: zz :: zz :: zz :: zz :: zz :: zz :: zz :: zz :: zz :: zz :: zz :: zz :: zz :: zz :: zz :: zz :: zz :: zz :: zz :: zz :: zz :: zz :: zz :: zz :: zz :: zz :: zz :: zz :: zz :: zz :: zz :: zz :: zz :: zz :: zz :: zz :: zz :: zz :: zz :: zz :: zz :: zz :: zz :: zz :: zz :: zz :: zz :: zz :: zz :: zz :: zz :: zz :: zz :: zz :: zz :: zz :: zz :: zz :: zz :: .c (.sc (.bool ((putB ns (doneAt ns k) (putAt ns k d).2 d)))) :: zz :: zz :: zz :: zz :: zz :: zz :: zz :: zz :: zz :: zz :: zz :: zz :: zz :: zz :: zz :: zz :: zz :: []), [(9001, .tree 174 (.prod (.int .i64) (.prod (.int .i64) (.prod (.int .i64) (.prod (.int .i64) (.prod (.row 2 (.int .i64)) (.int .i64)))))) ((putAt ns k d).1) none), (9002, .row 2 (.int .i64) ((doneAt ns k)) []), (9003, .row 2 (.int .i64) ((putAt ns k d).2) []), (9004, .row 2 (.int .i64) (ordL ns) [])]⟩ → K σ') : ∀ c, Try.f145.body = some c → ∀ r', regAt 19 c = some r' → AWP Try.prog r' ⟨(.c (.pt [] ((.prod (.int .i64) (.prod (.row 24 (.row 2 (.int .i64))) (.prod (.row 140 (.prod (.int .i64) (.prod (.int .i64) (.prod (.int .i64) (.row 2 (.int .i64)))))) (.row 2 (.int .i64)))))) (pi, ts, ns, os) 0) :: zz :: zz :: .c (.ow 9001) :: .c (.ow 9004) :: zz :: .c (.ow 9002) :: .c (.ow 9003) :: .c (.sc (.int .i64 (k))) :: zz :: zz :: zz :: .c (.sc (.int .i64 (d))) :: .c (.pt [] ((.prod (.int .i64) (.prod (.int .i64) (.prod (.int .i64) (.row 2 (.int .i64)))))) (ns.getD d ((0, 0, 0, []) : NodeD)) 0) :: zz :: zz :: zz :: zz :: zz :: zz :: zz :: zz :: zz :: zz :: zz :: zz :: zz :: zz :: zz :: zz :: zz :: zz :: zz :: zz :: zz :: zz :: zz :: zz :: zz :: zz :: zz :: zz :: zz :: zz :: zz :: zz :: zz :: zz :: zz :: zz :: zz :: zz :: zz :: zz :: zz :: zz :: zz :: zz :: zz :: zz :: zz :: zz :: zz :: zz :: zz :: zz :: zz :: zz :: zz :: zz :: zz :: zz :: zz :: zz :: zz :: zz :: zz :: zz :: zz :: zz :: zz :: zz :: zz :: zz :: zz :: zz :: zz :: zz :: zz :: zz :: zz :: zz :: zz :: zz :: zz :: zz :: zz :: zz :: zz :: zz :: zz :: zz :: zz :: zz :: zz :: zz :: zz :: zz :: zz :: zz :: zz :: zz :: zz :: zz :: zz :: zz :: zz :: zz :: zz :: zz :: zz :: zz :: zz :: zz :: zz :: zz :: zz :: zz :: zz :: zz :: zz :: []), [(9001, .tree 174 (.prod (.int .i64) (.prod (.int .i64) (.prod (.int .i64) (.prod (.int .i64) (.prod (.row 2 (.int .i64)) (.int .i64)))))) ((putAt ns k d).1) none), (9002, .row 2 (.int .i64) ((doneAt ns k)) []), (9003, .row 2 (.int .i64) ((putAt ns k d).2) []), (9004, .row 2 (.int .i64) (ordL ns) [])]⟩ (thenA K Q) := by
  rcases hb1 : decide ((ns.getD d ((0, 0, 0, []) : NodeD)).1 = 6) with _ | _
  ·
   refine AWP_part (code := _) rfl rfl ?_
   refine AWP_region (G := G) (T := T_mHp31) T_mHp31_ok ?_
   refine aseq_take 200 (by rfl) ?_
   simp (maxSteps := 2000000) only [hb1, go_sem]
   repeat (with_reducible refine And.intro (by first | omega | exact ⟨rfl, by omega, by omega, by omega⟩ | (have := hk5 (of_decide_eq_true hb1); omega)) ?_)
   refine hK _ (Wk_to (by rfl) ?_)
   simp (maxSteps := 2000000) only [go_sem]
   all_goals ((repeat' refine And.intro ?_ ?_) <;> first | rfl | exact (putB_f1 (of_decide_eq_false hb1)).symm | exact (putB_f2 hb2).symm | exact (putB_f3 hb3).symm | exact (putB_l (of_decide_eq_true hb1) hb2 hb3).symm)
  ·
   rcases hb2 : (putAt ns k d).2.contains (d : Int) with _ | _
   ·
    rcases hb3 : (doneAt ns k).contains (d : Int) with _ | _
    ·
     refine AWP_part (code := _) rfl rfl ?_
     refine AWP_region (G := G) (T := T_mHp31) T_mHp31_ok ?_
     refine aseq_take 200 (by rfl) ?_
     simp (maxSteps := 2000000) only [hb1, hb2, hb3, go_sem]
     repeat (with_reducible refine And.intro (by first | omega | exact ⟨rfl, by omega, by omega, by omega⟩ | (have := hk5 (of_decide_eq_true hb1); omega)) ?_)
     refine hK _ (Wk_to (by rfl) ?_)
     simp (maxSteps := 2000000) only [go_sem]
     all_goals ((repeat' refine And.intro ?_ ?_) <;> first | rfl | exact (putB_f1 (of_decide_eq_false hb1)).symm | exact (putB_f2 hb2).symm | exact (putB_f3 hb3).symm | exact (putB_l (of_decide_eq_true hb1) hb2 hb3).symm)
    ·
     refine AWP_part (code := _) rfl rfl ?_
     refine AWP_region (G := G) (T := T_mHp31) T_mHp31_ok ?_
     refine aseq_take 200 (by rfl) ?_
     simp (maxSteps := 2000000) only [hb1, hb2, hb3, go_sem]
     repeat (with_reducible refine And.intro (by first | omega | exact ⟨rfl, by omega, by omega, by omega⟩ | (have := hk5 (of_decide_eq_true hb1); omega)) ?_)
     refine hK _ (Wk_to (by rfl) ?_)
     simp (maxSteps := 2000000) only [go_sem]
     all_goals ((repeat' refine And.intro ?_ ?_) <;> first | rfl | exact (putB_f1 (of_decide_eq_false hb1)).symm | exact (putB_f2 hb2).symm | exact (putB_f3 hb3).symm | exact (putB_l (of_decide_eq_true hb1) hb2 hb3).symm)
   ·
    refine AWP_part (code := _) rfl rfl ?_
    refine AWP_region (G := G) (T := T_mHp31) T_mHp31_ok ?_
    refine aseq_take 200 (by rfl) ?_
    simp (maxSteps := 2000000) only [hb1, hb2, go_sem]
    repeat (with_reducible refine And.intro (by first | omega | exact ⟨rfl, by omega, by omega, by omega⟩ | (have := hk5 (of_decide_eq_true hb1); omega)) ?_)
    refine hK _ (Wk_to (by rfl) ?_)
    simp (maxSteps := 2000000) only [go_sem]
    all_goals ((repeat' refine And.intro ?_ ?_) <;> first | rfl | exact (putB_f1 (of_decide_eq_false hb1)).symm | exact (putB_f2 hb2).symm | exact (putB_f3 hb3).symm | exact (putB_l (of_decide_eq_true hb1) hb2 hb3).symm)
set_option maxRecDepth 100000 in
set_option maxHeartbeats 8000000 in
theorem l11Code_ok : PureT Try.prog 145 K_l11Code := by
  refine pure_of_body Try.func145 rfl ?_
  have hres : Try.f145.results.toList = [.tmp 2] := rfl
  rintro ⟨⟨(pi : Int), (ts : List (List Int)), (ns : List NodeD), (os : List Int)⟩, _⟩ hc hL
  simp only [K_l11Code, lensOk, PK.lenOk, glensOk, GP.lenOk, flensOk, GO.lenOk, olensOk, Ty.lenOk, Ty.flat, Bool.and_true, Bool.true_and, Bool.and_false, Bool.false_and, true_and, and_true, implies_true, forall_const] at hL
  simp only [K_l11Code, St.init, St.initG, Try.ntmps145, go_sem] 
  have hP : patchB (pi, ts, ns, os) = true := hc
  have hF := (patchB_parts hP).1
  have hn24 : ns.length ≤ 24 := (formedB_parts hF).1
  have hol9 : (ordL ns).length = ns.length := (patchB_parts hP).2
  have hol : (ordL ns).length ≤ 24 := by omega
  have hor0 : ordR ns = (ordL ns, true) := ordR_t (patchB_parts hP).2
  refine AWP_seq_k fun K1 hK1 => ?_
  refine AWP_region (G := G) (T := T_mHp31) T_mHp31_ok ?_
  simp only [go_sem]
  refine hK1 _ ?_
  refine AWP_seq_k fun K2 hK2 => ?_
  refine AWP_region (G := G) (T := T_mHp31) T_mHp31_ok ?_
  simp only [List.nodup_cons, List.nodup_nil, List.not_mem_nil, not_false_eq_true, go_sem]
  repeat (with_reducible refine And.intro (by first | omega | exact ⟨rfl, by omega, by omega, by omega⟩) ?_)
  refine hK2 _ ?_
  refine AWP_seq_k fun K3 hK3 => ?_
  refine AWP_region (G := G) (T := T_mHp31) T_mHp31_ok ?_
  simp (maxSteps := 2000000) only [hor0, go_sem]
  repeat (with_reducible refine And.intro (by first | omega | exact ⟨rfl, by omega, by omega, by omega⟩ | exact hF) ?_)
  refine hK3 _ ?_
  refine AWP_seq_k fun K4 hK4 => ?_
  refine AWP_region (G := G) (T := T_mHp31) T_mHp31_ok ?_
  simp only [List.nodup_nil, go_sem]
  repeat (with_reducible refine And.intro (by first | omega | exact ⟨rfl, by omega, by omega, by omega⟩) ?_)
  refine hK4 _ ?_
  refine AWP_seq_k fun K5 hK5 => ?_
  refine AWP_region (G := G) (T := T_mHp31) T_mHp31_ok ?_
  simp only [List.nodup_nil, go_sem]
  repeat (with_reducible refine And.intro (by first | omega | exact ⟨rfl, by omega, by omega, by omega⟩) ?_)
  refine hK5 _ ?_
  refine AWP_seq_k fun K6 hK6 => ?_
  refine AWP_seq_k fun K7 hK7 => ?_
  refine AWP_region (G := G) (T := T_mHp31) T_mHp31_ok ?_
  simp only [go_sem]
  refine hK7 _ ?_
  refine AWP_block ?_
  refine AWP_loop_k (ι := { k : Nat // k ≤ (ordL ns).length }) (fun k => ⟨(.c (.pt [] ((.prod (.int .i64) (.prod (.row 24 (.row 2 (.int .i64))) (.prod (.row 140 (.prod (.int .i64) (.prod (.int .i64) (.prod (.int .i64) (.row 2 (.int .i64)))))) (.row 2 (.int .i64)))))) (pi, ts, ns, os) 0) :: zz :: zz :: .c (.ow 9001) :: .c (.ow 9004) :: zz :: .c (.ow 9002) :: .c (.ow 9003) :: .c (.sc (.int .i64 (k.1))) :: zz :: zz :: zz :: zz :: zz :: zz :: zz :: zz :: zz :: zz :: zz :: zz :: zz :: zz :: zz :: zz :: zz :: zz :: zz :: zz :: zz :: zz :: zz :: zz :: zz :: zz :: zz :: zz :: zz :: zz :: zz :: zz :: zz :: zz :: zz :: zz :: zz :: zz :: zz :: zz :: zz :: zz :: zz :: zz :: zz :: zz :: zz :: zz :: zz :: zz :: zz :: zz :: zz :: zz :: zz :: zz :: zz :: zz :: zz :: zz :: zz :: zz :: zz :: zz :: zz :: zz :: zz :: zz :: zz :: zz :: zz :: zz :: zz :: zz :: zz :: zz :: zz :: zz :: zz :: zz :: zz :: zz :: zz :: zz :: zz :: zz :: zz :: zz :: zz :: zz :: zz :: zz :: zz :: zz :: zz :: zz :: zz :: zz :: zz :: zz :: zz :: zz :: zz :: zz :: zz :: zz :: zz :: zz :: zz :: zz :: zz :: zz :: zz :: zz :: zz :: zz :: zz :: zz :: zz :: zz :: zz :: zz :: []), [(9001, .tree 174 (.prod (.int .i64) (.prod (.int .i64) (.prod (.int .i64) (.prod (.int .i64) (.prod (.row 2 (.int .i64)) (.int .i64)))))) ((codeK ns (ordL ns) k.1).1) none), (9002, .row 2 (.int .i64) ((ordL ns).take k.1) []), (9003, .row 2 (.int .i64) ((codeK ns (ordL ns) k.1).2) []), (9004, .row 2 (.int .i64) (ordL ns) [])]⟩) (fun k => (ordL ns).length - k.1) ⟨0, by simp⟩ ?_ ?_
  ·
   refine Wk_to (by rfl) ?_
   simp (maxSteps := 2000000) only [go_sem]
   all_goals ((repeat' refine And.intro ?_ ?_) <;> first | rfl | (congr 1; done) | (simp; done))
  rintro ⟨k, hk⟩ K8 hL8
  have hor : k < (ordL ns).length → 0 ≤ (ordL ns).getD k 0 ∧ ((ordL ns).getD k 0).toNat < ns.length ∧ (ordL ns).getD k 0 < ns.length := fun h => ord_at h
  refine AWP_seq_k fun K9 hK9 => ?_
  refine AWP_seq_k fun K10 hK10 => ?_
  refine AWP_region (G := G) (T := T_mHp31) T_mHp31_ok ?_
  simp only [go_sem]
  refine hK10 _ ?_
  refine AWP_cond rfl ?_ ?_
  ·
   intro c0
   try simp only [decide_eq_true_eq, decide_eq_false_iff_not, Bool.not_eq_true', Bool.not_eq_false', ne_eq, Int.not_lt, Int.not_le] at c0
   obtain ⟨ho0, ho1, ho2⟩ := hor (by omega)
   have hko : CodeOk ns ((ordL ns).take k) (codeK ns (ordL ns) k) := codeK_ok hF k (by omega)
   have hkl := hko.len
   have hks := hko.small (p := (pi, ts, ns, os)) hF
   have hks : (codeK ns (ordL ns) k).2.length ≤ ns.length := hks
   have htl : ((ordL ns).take k).length = k := by rw [List.length_take]; omega
   obtain ⟨hi1, hi2, hi3, hi4, hi5⟩ := kind_at (p := (pi, ts, ns, os)) hF (i := ((ordL ns).getD k 0).toNat) ho1
   have hi4 : (ns.getD ((ordL ns).getD k 0).toNat ((0, 0, 0, []) : NodeD)).2.2.2.length ≤ 3 := hi4
   have hwl := waitsL_len (ns.getD ((ordL ns).getD k 0).toNat ((0, 0, 0, []) : NodeD))
   have hwl2 : (waitsL ((ns.getD ((ordL ns).getD k 0).toNat ((0, 0, 0, []) : NodeD)).1, (ns.getD ((ordL ns).getD k 0).toNat ((0, 0, 0, []) : NodeD)).2.1, (ns.getD ((ordL ns).getD k 0).toNat ((0, 0, 0, []) : NodeD)).2.2.1, (ns.getD ((ordL ns).getD k 0).toNat ((0, 0, 0, []) : NodeD)).2.2.2)).length ≤ 3 := Nat.le_trans (waitsL_len _) hi4
   have hoi : ((((ordL ns).getD k 0).toNat : Nat) : Int) = (ordL ns).getD k 0 := Int.toNat_of_nonneg ho0
   refine AWP_skip ?_
   simp only [go_sem]
   refine hK9 _ ?_
   refine AWP_seq_k fun K11 hK11 => ?_
   refine AWP_block ?_
   refine AWP_seq_k fun K12 hK12 => ?_
   refine AWP_region (G := G) (T := T_mHp31) T_mHp31_ok ?_
   simp (maxSteps := 2000000) only [go_sem]
   repeat (with_reducible refine And.intro (by first | omega | exact ⟨rfl, by omega, by omega, by omega⟩) ?_)
   refine hK12 _ ?_
   refine AWP_seq_k fun K13 hK13 => ?_
   refine AWP_region (G := G) (T := T_mHp31) T_mHp31_ok ?_
   simp (maxSteps := 2000000) only [go_sem]
   repeat (with_reducible refine And.intro (by first | omega | exact ⟨rfl, by omega, by omega, by omega⟩) ?_)
   refine hK13 _ ?_
   refine AWP_seq_k fun K14 hK14 => ?_
   refine AWP_draw (G := G) (T := T_mHp31) T_mHp31_ok mixed
     [[], [0], [0, 1], [0, 1, 2], [], [4], [4, 5], [4, 5, 6], [], [8], [8, 9], [8, 9, 10], [], [], [], [14], [14, 15], [14, 15, 16], [14, 15, 16, 17], [0, 1, 2, 3, 4, 5, 6, 7, 8, 9, 10, 11, 12, 13, 14, 15, 16, 17, 18], [], [0, 1, 2, 3, 4, 5, 6, 7, 8, 9, 10, 11, 12, 13, 14, 15, 16, 17, 18, 19, 20]]
     [[276, 996, 997, 998, 999, 1000, 1001, 1002, 1003, 1004, 1005, 1006, 1007, 1008, 1009, 1010, 1011], [276, 996, 997, 998, 999, 1000, 1001, 1002, 1003, 1004, 1005, 1006, 1007, 1008, 1009, 1010, 1011], [276, 996, 997, 998, 999, 1000, 1001, 1002, 1003, 1004, 1005, 1006, 1007, 1008, 1009, 1010, 1011], [276, 996, 997, 998, 999, 1000, 1001, 1002, 1003, 1004, 1005, 1006, 1007, 1008, 1009, 1010, 1011], [276, 996, 997, 998, 999, 1000, 1001, 1002, 1003, 1004, 1005, 1006, 1007, 1008, 1009, 1010, 1011], [276, 996, 997, 998, 999, 1000, 1001, 1002, 1003, 1004, 1005, 1006, 1007, 1008, 1009, 1010, 1011], [276, 996, 997, 998, 999, 1000, 1001, 1002, 1003, 1004, 1005, 1006, 1007, 1008, 1009, 1010, 1011], [276, 996, 997, 998, 999, 1000, 1001, 1002, 1003, 1004, 1005, 1006, 1007, 1008, 1009, 1010, 1011], [276, 996, 997, 998, 999, 1000, 1001, 1002, 1003, 1004, 1005, 1006, 1007, 1008, 1009, 1010, 1011], [276, 996, 997, 998, 999, 1000, 1001, 1002, 1003, 1004, 1005, 1006, 1007, 1008, 1009, 1010, 1011], [276, 996, 997, 998, 999, 1000, 1001, 1002, 1003, 1004, 1005, 1006, 1007, 1008, 1009, 1010, 1011], [276, 996, 997, 998, 999, 1000, 1001, 1002, 1003, 1004, 1005, 1006, 1007, 1008, 1009, 1010, 1011], [276, 996, 997, 998, 999, 1000, 1001, 1002, 1003, 1004, 1005, 1006, 1007, 1008, 1009, 1010, 1011], [276, 996, 997, 998, 999, 1000, 1001, 1002, 1003, 1004, 1005, 1006, 1007, 1008, 1009, 1010, 1011], [276], [276], [276], [276], [276], [276], [996, 997, 998, 999, 1000, 1001, 1002, 1003, 1004, 1005, 1006, 1007, 1008, 1009, 1010, 1011], []]
     [[], [], [], [], [], [], [], [], [], [], [], [], [], [], [], [], [], [], [996, 997, 998, 999, 1000, 1001, 1002, 1003, 1004, 1005, 1006, 1007, 1008, 1009, 1010, 1011], [], [276], []] (by kernel_rfl) (by kernel_rfl) (adrawR_ok (acc := []) ?_)
   simp (maxSteps := 2000000) only [go_sem]
   repeat (with_reducible refine And.intro (by first | exact chk_leaf (by kernel_rfl) | omega | exact ⟨rfl, by omega, by omega, by omega⟩ | exact Nat.le_trans hi4 (by decide)) ?_)
   refine hK14 _ ?_
   refine AWP_seq_j (True) ⟨(.c (.pt [] ((.prod (.int .i64) (.prod (.row 24 (.row 2 (.int .i64))) (.prod (.row 140 (.prod (.int .i64) (.prod (.int .i64) (.prod (.int .i64) (.row 2 (.int .i64)))))) (.row 2 (.int .i64)))))) (pi, ts, ns, os) 0) :: zz :: zz :: .c (.ow 9001) :: .c (.ow 9004) :: zz :: .c (.ow 9002) :: .c (.ow 9003) :: .c (.sc (.int .i64 (k))) :: .c (.sc (.int .i64 ((ordL ns).getD k 0))) :: zz :: .c (.po 276 0) :: zz :: zz :: zz :: zz :: zz :: zz :: zz :: zz :: zz :: zz :: zz :: zz :: zz :: zz :: zz :: zz :: zz :: zz :: zz :: zz :: zz :: zz :: zz :: zz :: zz :: zz :: zz :: zz :: zz :: zz :: zz :: zz :: zz :: zz :: zz :: zz :: zz :: zz :: zz :: zz :: zz :: zz :: zz :: zz :: zz :: zz :: zz :: zz :: zz :: zz :: zz :: zz :: zz :: zz :: zz :: zz :: zz :: zz :: zz :: zz :: zz :: zz :: zz :: zz :: zz :: zz :: zz :: zz :: zz :: zz :: zz :: zz :: zz :: zz :: zz :: zz :: zz :: zz :: zz :: zz :: zz :: zz :: zz :: zz :: zz :: zz :: zz :: zz :: zz :: zz :: zz :: zz :: zz :: zz :: zz :: zz :: zz :: zz :: zz :: zz :: zz :: zz :: zz :: zz :: zz :: zz :: zz :: zz :: zz :: zz :: zz :: zz :: zz :: zz :: zz :: zz :: zz :: zz :: zz :: []), [(9001, .tree 174 (.prod (.int .i64) (.prod (.int .i64) (.prod (.int .i64) (.prod (.int .i64) (.prod (.row 2 (.int .i64)) (.int .i64)))))) ((codeK ns (ordL ns) k).1) none), (9002, .row 2 (.int .i64) ((ordL ns).take k) []), (9003, .row 2 (.int .i64) ((codeK ns (ordL ns) k).2) []), (9004, .row 2 (.int .i64) (ordL ns) []), (276, .box [.sc (.int .i64 ((ns.getD ((ordL ns).getD k 0).toNat ((0, 0, 0, []) : NodeD)).1)), .sc (.int .i64 ((ns.getD ((ordL ns).getD k 0).toNat ((0, 0, 0, []) : NodeD)).2.1)), .sc (.int .i64 ((ns.getD ((ordL ns).getD k 0).toNat ((0, 0, 0, []) : NodeD)).2.2.1)), .sc (.int .i64 ((ordL ns).getD k 0)), .ow 9021, .sc (.int .i64 ((ordL ns).getD k 0))]), (9021, .row 2 (.int .i64) (waitsL (ns.getD ((ordL ns).getD k 0).toNat ((0, 0, 0, []) : NodeD))) [])]⟩ ?_ fun K15 hK15 => ?_
   ·
    intro hJ
    refine AWP_seq_k fun K16 hK16 => ?_
    refine AWP_region (G := G) (T := T_mHp31) T_mHp31_ok ?_
    simp (maxSteps := 2000000) only [List.nodup_cons, List.nodup_nil, List.not_mem_nil, not_false_eq_true, go_sem]
    repeat (with_reducible refine And.intro (by first | omega | exact ⟨rfl, by omega, by omega, by omega⟩) ?_)
    refine hK16 _ ?_
    refine AWP_seq_k fun K17 hK17 => ?_
    refine AWP_region (G := G) (T := T_mHp31) T_mHp31_ok ?_
    simp (maxSteps := 2000000) only [List.nodup_nil, go_sem]
    repeat (with_reducible refine And.intro (by first | omega | exact ⟨rfl, by omega, by omega, by omega⟩ | omega) ?_)
    refine hK17 _ ?_
    refine AWP_seq_k fun K18 hK18 => ?_
    refine AWP_region (G := G) (T := T_mHp31) T_mHp31_ok ?_
    simp only [go_sem]
    refine hK18 _ ?_
    refine AWP_block ?_
    refine AWP_loop_k (ι := { d : Nat // d ≤ ns.length }) (fun k' => ⟨(.c (.pt [] ((.prod (.int .i64) (.prod (.row 24 (.row 2 (.int .i64))) (.prod (.row 140 (.prod (.int .i64) (.prod (.int .i64) (.prod (.int .i64) (.row 2 (.int .i64)))))) (.row 2 (.int .i64)))))) (pi, ts, ns, os) 0) :: zz :: zz :: .c (.ow 9001) :: .c (.ow 9004) :: zz :: .c (.ow 9002) :: .c (.ow 9003) :: .c (.sc (.int .i64 (k))) :: zz :: zz :: zz :: .c (.sc (.int .i64 (k'.1))) :: zz :: zz :: zz :: zz :: zz :: zz :: zz :: zz :: zz :: zz :: zz :: zz :: zz :: zz :: zz :: zz :: zz :: zz :: zz :: zz :: zz :: zz :: zz :: zz :: zz :: zz :: zz :: zz :: zz :: zz :: zz :: zz :: zz :: zz :: zz :: zz :: zz :: zz :: zz :: zz :: zz :: zz :: zz :: zz :: zz :: zz :: zz :: zz :: zz :: zz :: zz :: zz :: zz :: zz :: zz :: zz :: zz :: zz :: zz :: zz :: zz :: zz :: zz :: zz :: zz :: zz :: zz :: zz :: zz :: zz :: zz :: zz :: zz :: zz :: zz :: zz :: zz :: zz :: zz :: zz :: zz :: zz :: zz :: zz :: zz :: zz :: zz :: zz :: zz :: zz :: zz :: zz :: zz :: zz :: zz :: zz :: zz :: zz :: zz :: zz :: zz :: zz :: zz :: zz :: zz :: zz :: zz :: zz :: zz :: zz :: zz :: zz :: zz :: zz :: zz :: zz :: zz :: zz :: []), [(9001, .tree 174 (.prod (.int .i64) (.prod (.int .i64) (.prod (.int .i64) (.prod (.int .i64) (.prod (.row 2 (.int .i64)) (.int .i64)))))) ((putAt ns k k'.1).1) none), (9002, .row 2 (.int .i64) ((doneAt ns k)) []), (9003, .row 2 (.int .i64) ((putAt ns k k'.1).2) []), (9004, .row 2 (.int .i64) (ordL ns) [])]⟩) (fun k' => ns.length - k'.1) ⟨0, by simp⟩ ?_ ?_
    ·
     refine Wk_to (by rfl) ?_
     simp (maxSteps := 2000000) only [go_sem]
     all_goals ((repeat' refine And.intro ?_ ?_) <;> first | rfl | exact (take_next (d := (0 : Int)) (by omega)).symm | (unfold doneAt; exact (take_next (d := (0 : Int)) (by omega)).symm) | (congr 1; done) | (simp; done))
    rintro ⟨d, hd⟩ K19 hL19
    have hco : CodeOk ns (doneAt ns k) (putAt ns k d) := putAt_ok (p := (pi, ts, ns, os)) hF (by show k < (ordL ns).length; omega) hd
    have hcl := hco.len
    have hcs := hco.small (p := (pi, ts, ns, os)) hF
    have hcs : (putAt ns k d).2.length ≤ ns.length := hcs
    have htl1 : (doneAt ns k).length = k + 1 := by unfold doneAt; rw [List.length_take]; omega
    have hkd : d < ns.length → (ns.getD d ((0, 0, 0, []) : NodeD)).2.2.2.length ≤ 3 ∧ ((ns.getD d ((0, 0, 0, []) : NodeD)).1 = 6 → (ns.getD d ((0, 0, 0, []) : NodeD)).2.2.2.length = 1) ∧ idxs ns.length (ns.getD d ((0, 0, 0, []) : NodeD)).2.2.2 = true := fun h => by obtain ⟨a1, a2, a3, a4, a5⟩ := kind_at (p := (pi, ts, ns, os)) hF (i := d) h; exact ⟨a4, a5, a3⟩
    have hfr0 : d < ns.length → 0 ≤ (ns.getD d ((0, 0, 0, []) : NodeD)).2.2.2.getD 0 0 ∧ (ns.getD d ((0, 0, 0, []) : NodeD)).2.2.2.getD 0 0 < ns.length := fun h => from0_at (p := (pi, ts, ns, os)) hF (i := d) h
    refine AWP_seq_k fun K20 hK20 => ?_
    refine AWP_seq_k fun K21 hK21 => ?_
    refine AWP_region (G := G) (T := T_mHp31) T_mHp31_ok ?_
    simp (maxSteps := 2000000) only [go_sem]
    repeat (with_reducible refine And.intro (by first | omega | exact ⟨rfl, by omega, by omega, by omega⟩) ?_)
    refine hK21 _ ?_
    refine AWP_cond rfl ?_ ?_
    ·
     intro c2
     try simp only [decide_eq_true_eq, decide_eq_false_iff_not, Bool.not_eq_true', Bool.not_eq_false', ne_eq, Int.not_lt, Int.not_le] at c2
     obtain ⟨hk4, hk5, hk6⟩ := hkd (by omega)
     obtain ⟨hfr1, hfr2⟩ := hfr0 (by omega)
     refine AWP_skip ?_
     simp only [go_sem]
     refine hK20 _ ?_
     refine AWP_seq_j (True) ⟨(.c (.pt [] ((.prod (.int .i64) (.prod (.row 24 (.row 2 (.int .i64))) (.prod (.row 140 (.prod (.int .i64) (.prod (.int .i64) (.prod (.int .i64) (.row 2 (.int .i64)))))) (.row 2 (.int .i64)))))) (pi, ts, ns, os) 0) :: zz :: zz :: .c (.ow 9001) :: .c (.ow 9004) :: zz :: .c (.ow 9002) :: .c (.ow 9003) :: .c (.sc (.int .i64 (k))) :: zz :: zz :: zz :: .c (.sc (.int .i64 (d))) :: zz :: zz :: zz :: zz :: zz :: zz :: zz :: zz :: zz :: zz :: zz :: zz :: zz :: zz :: zz :: zz :: zz :: zz :: zz :: zz :: zz :: zz :: zz :: zz :: zz :: zz :: zz :: zz :: zz :: zz :: zz :: zz :: zz :: zz :: zz :: zz :: zz :: zz :: zz :: zz :: zz :: zz :: zz :: zz :: zz :: zz :: zz :: zz :: zz :: zz :: zz :: zz :: zz :: zz :: zz :: zz :: zz :: zz :: zz :: zz :: zz :: zz :: zz :: zz :: zz :: zz :: zz :: zz :: zz :: zz :: zz :: zz :: zz :: zz :: zz :: zz :: zz :: zz :: zz :: zz :: zz :: zz :: zz :: zz :: zz :: zz :: zz :: zz :: zz :: zz :: zz :: zz :: zz :: zz :: zz :: zz :: zz :: zz :: zz :: zz :: zz :: zz :: zz :: zz :: zz :: zz :: zz :: zz :: zz :: zz :: zz :: zz :: zz :: zz :: zz :: zz :: zz :: zz :: []), [(9001, .tree 174 (.prod (.int .i64) (.prod (.int .i64) (.prod (.int .i64) (.prod (.int .i64) (.prod (.row 2 (.int .i64)) (.int .i64)))))) ((putAt ns k (d + 1)).1) none), (9002, .row 2 (.int .i64) ((doneAt ns k)) []), (9003, .row 2 (.int .i64) ((putAt ns k (d + 1)).2) []), (9004, .row 2 (.int .i64) (ordL ns) [])]⟩ ?_ fun K22 hK22 => ?_
     ·
      intro hJ
      refine AWP_region (G := G) (T := T_mHp31) T_mHp31_ok ?_
      simp only [go_sem]
      refine hL19 ⟨d + 1, by omega⟩ _ (Wk_to (by rfl) ?_) ?_
      ·
       simp (maxSteps := 2000000) only [go_sem]
       all_goals ((repeat' refine And.intro ?_ ?_) <;> first | rfl | exact wk (by omega) | (rw [putAt_f hB]; done) | exact (putAt_t hB).2.symm | (congr 1; rw [(putAt_t hB).1, hse]) | (congr 1; done))
      ·
       first | (simp only []; omega) | omega | (simp; omega)
     refine AWP_block ?_
     refine AWP_seq_k fun K23 hK23 => ?_
     refine AWP_region (G := G) (T := T_mHp31) T_mHp31_ok ?_
     simp (maxSteps := 2000000) only [go_sem]
     repeat (with_reducible refine And.intro (by first | omega | exact ⟨rfl, by omega, by omega, by omega⟩) ?_)
     refine hK23 _ ?_
     refine AWP_seq_j True ⟨(.c (.pt [] ((.prod (.int .i64) (.prod (.row 24 (.row 2 (.int .i64))) (.prod (.row 140 (.prod (.int .i64) (.prod (.int .i64) (.prod (.int .i64) (.row 2 (.int .i64)))))) (.row 2 (.int .i64)))))) (pi, ts, ns, os) 0) :: zz :: zz :: .c (.ow 9001) :: .c (.ow 9004) :: zz :: .c (.ow 9002) :: .c (.ow 9003) :: .c (.sc (.int .i64 (k))) :: zz :: zz :: zz :: .c (.sc (.int .i64 (d))) :: .c (.pt [] ((.prod (.int .i64) (.prod (.int .i64) (.prod (.int .i64) (.row 2 (.int .i64)))))) (ns.getD d ((0, 0, 0, []) : NodeD)) 0) :: zz :: zz :: zz :: zz :: zz :: zz :: zz :: zz :: zz :: zz :: zz :: zz :: zz :: zz :: zz :: zz :: zz :: zz :: zz :: zz :: zz :: zz :: zz :: zz :: zz :: zz :: zz :: zz :: zz :: zz :: zz :: zz :: zz :: zz :: zz :: zz :: zz :: zz :: zz :: zz :: zz :: zz :: zz :: zz :: zz :: zz :: zz :: zz :: zz :: zz :: zz :: zz :: zz :: zz :: zz :: zz :: zz :: zz :: zz :: zz :: zz :: zz :: zz :: zz :: zz :: zz :: zz :: zz :: zz :: zz :: zz :: zz :: zz :: zz :: zz :: zz :: zz :: zz :: zz :: zz :: zz :: zz :: zz :: zz :: zz :: zz :: zz :: zz :: zz :: zz :: zz :: zz :: zz :: zz :: zz :: zz :: zz :: zz :: zz :: .c (.sc (.bool ((putB ns (doneAt ns k) (putAt ns k d).2 d)))) :: zz :: zz :: zz :: zz :: zz :: zz :: zz :: zz :: zz :: zz :: zz :: zz :: zz :: zz :: zz :: zz :: zz :: []), [(9001, .tree 174 (.prod (.int .i64) (.prod (.int .i64) (.prod (.int .i64) (.prod (.int .i64) (.prod (.row 2 (.int .i64)) (.int .i64)))))) ((putAt ns k d).1) none), (9002, .row 2 (.int .i64) ((doneAt ns k)) []), (9003, .row 2 (.int .i64) ((putAt ns k d).2) []), (9004, .row 2 (.int .i64) (ordL ns) [])]⟩ ?_ fun K24 hK24 => ?_
     ·
      intro _
      refine AWP_cond rfl ?_ ?_
      ·
       intro c3
       try simp only [decide_eq_true_eq, decide_eq_false_iff_not, Bool.not_eq_true', Bool.not_eq_false', ne_eq, Int.not_lt, Int.not_le] at c3
       have hB : putB ns (doneAt ns k) (putAt ns k d).2 d = true := c3
       have h6 : (ns.getD d ((0, 0, 0, []) : NodeD)).1 = 6 := putB_k hB
       have hfe2 : [(ns.getD d ((0, 0, 0, []) : NodeD)).2.2.2.getD 0 0] = (ns.getD d ((0, 0, 0, []) : NodeD)).2.2.2 := one_of (hk5 h6)
       have hfe : True := trivial
       have hse : storeOf (ns.getD d n0) d = (18, 0, 0, (d : Int), [(ns.getD d ((0, 0, 0, []) : NodeD)).2.2.2.getD 0 0], 0) := by unfold storeOf; exact congrArg (fun z => ((18 : Int), (0 : Int), (0 : Int), (d : Int), z, (0 : Int))) hfe2.symm
       refine AWP_seq_k fun K25 hK25 => ?_
       refine AWP_region (G := G) (T := T_mHp31) T_mHp31_ok ?_
       simp (maxSteps := 2000000) only [List.nodup_cons, List.nodup_nil, List.not_mem_nil, not_false_eq_true, hfe, go_sem]
       repeat (with_reducible refine And.intro (by first | omega | exact ⟨rfl, by omega, by omega, by omega⟩ | omega) ?_)
       refine hK25 _ ?_
       refine AWP_region (G := G) (T := T_mHp31) T_mHp31_ok ?_
       simp (maxSteps := 2000000) only [List.nodup_nil, go_sem]
       repeat (with_reducible refine And.intro (by first | omega | exact ⟨rfl, by omega, by omega, by omega⟩ | omega) ?_)
       refine hK22 _ (Wk_to (by rfl) ?_) ?_
       ·
        simp (maxSteps := 2000000) only [go_sem]
        all_goals ((repeat' refine And.intro ?_ ?_) <;> first | rfl | exact wk (by omega) | (rw [putAt_f hB]; done) | exact (putAt_t hB).2.symm | (congr 1; rw [(putAt_t hB).1, hse]) | (congr 1; done))
       ·
        trivial
      ·
       intro c3
       try simp only [decide_eq_true_eq, decide_eq_false_iff_not, Bool.not_eq_true', Bool.not_eq_false', ne_eq, Int.not_lt, Int.not_le] at c3
       have hB : putB ns (doneAt ns k) (putAt ns k d).2 d = false := c3
       refine AWP_skip ?_
       simp only [go_sem]
       refine hK22 _ (Wk_to (by rfl) ?_) ?_
       ·
        simp (maxSteps := 2000000) only [go_sem]
        all_goals ((repeat' refine And.intro ?_ ?_) <;> first | rfl | exact wk (by omega) | (rw [putAt_f hB]; done) | exact (putAt_t hB).2.symm | (congr 1; rw [(putAt_t hB).1, hse]) | (congr 1; done))
       ·
        trivial
     refine AWP_wk (show Wk _ ⟨(.c (.pt [] ((.prod (.int .i64) (.prod (.row 24 (.row 2 (.int .i64))) (.prod (.row 140 (.prod (.int .i64) (.prod (.int .i64) (.prod (.int .i64) (.row 2 (.int .i64)))))) (.row 2 (.int .i64)))))) (pi, ts, ns, os) 0) :: zz :: zz :: .c (.ow 9001) :: .c (.ow 9004) :: zz :: .c (.ow 9002) :: .c (.ow 9003) :: .c (.sc (.int .i64 (k))) :: zz :: zz :: zz :: .c (.sc (.int .i64 (d))) :: .c (.pt [] ((.prod (.int .i64) (.prod (.int .i64) (.prod (.int .i64) (.row 2 (.int .i64)))))) (ns.getD d ((0, 0, 0, []) : NodeD)) 0) :: zz :: zz :: zz :: zz :: zz :: zz :: zz :: zz :: zz :: zz :: zz :: zz :: zz :: zz :: zz :: zz :: zz :: zz :: zz :: zz :: zz :: zz :: zz :: zz :: zz :: zz :: zz :: zz :: zz :: zz :: zz :: zz :: zz :: zz :: zz :: zz :: zz :: zz :: zz :: zz :: zz :: zz :: zz :: zz :: zz :: zz :: zz :: zz :: zz :: zz :: zz :: zz :: zz :: zz :: zz :: zz :: zz :: zz :: zz :: zz :: zz :: zz :: zz :: zz :: zz :: zz :: zz :: zz :: zz :: zz :: zz :: zz :: zz :: zz :: zz :: zz :: zz :: zz :: zz :: zz :: zz :: zz :: zz :: zz :: zz :: zz :: zz :: zz :: zz :: zz :: zz :: zz :: zz :: zz :: zz :: zz :: zz :: zz :: zz :: zz :: zz :: zz :: zz :: zz :: zz :: zz :: zz :: zz :: zz :: zz :: zz :: zz :: zz :: zz :: zz :: zz :: zz :: []), [(9001, .tree 174 (.prod (.int .i64) (.prod (.int .i64) (.prod (.int .i64) (.prod (.int .i64) (.prod (.row 2 (.int .i64)) (.int .i64)))))) ((putAt ns k d).1) none), (9002, .row 2 (.int .i64) ((doneAt ns k)) []), (9003, .row 2 (.int .i64) ((putAt ns k d).2) []), (9004, .row 2 (.int .i64) (ordL ns) [])]⟩ from Wk_to (by rfl) ?_) ?_
     ·
      simp (maxSteps := 2000000) only [go_sem]
      all_goals (first | rfl | ((repeat' refine And.intro ?_ ?_) <;> first | rfl | simp))
     exact l11Code_r19 pi ts ns os k d (by omega) hn24 htl1 (by omega) hcs hk5 (fun σ' h => hK24 σ' h trivial) _ rfl _ rfl
    ·
     intro c2
     try simp only [decide_eq_true_eq, decide_eq_false_iff_not, Bool.not_eq_true', Bool.not_eq_false', ne_eq, Int.not_lt, Int.not_le] at c2
     have hde : d = ns.length := by omega
     refine AWP_exit ?_
     simp only [go_sem]
     refine hK11 _ ?_
     refine AWP_region (G := G) (T := T_mHp31) T_mHp31_ok ?_
     simp only [go_sem]
     refine hL8 ⟨k + 1, by omega⟩ _ (Wk_to (by rfl) ?_) ?_
     ·
      simp (maxSteps := 2000000) only [go_sem]
      all_goals ((repeat' refine And.intro ?_ ?_) <;> first | rfl | exact wk (by omega) | (congr 1; done) | (rw [hde]; rfl))
     ·
      first | (simp only []; omega) | omega | (simp; omega)
   refine AWP_seq_k fun K26 hK26 => ?_
   refine AWP_region (G := G) (T := T_mHp31) T_mHp31_ok ?_
   simp (maxSteps := 2000000) only [go_sem]
   repeat (with_reducible refine And.intro (by first | omega | exact ⟨rfl, by omega, by omega, by omega⟩) ?_)
   refine hK26 _ ?_
   refine AWP_cond rfl ?_ ?_
   ·
    intro c1
    try simp only [decide_eq_true_eq, decide_eq_false_iff_not, Bool.not_eq_true', Bool.not_eq_false', ne_eq, Int.not_lt, Int.not_le] at c1
    refine AWP_region (G := G) (T := T_mHp31) T_mHp31_ok ?_
    simp only [List.nodup_nil, go_sem]
    repeat (with_reducible refine And.intro (by first | omega | exact ⟨rfl, by omega, by omega, by omega⟩) ?_)
    refine hK15 _ (Wk_to (by rfl) ?_) ?_
    ·
     simp (maxSteps := 2000000) only [go_sem]
     all_goals (first | rfl | ((repeat' refine And.intro ?_ ?_) <;> first | rfl | (unfold waitsL; rw [decide_eq_true c1]) | (unfold waitsL; rw [decide_eq_false c1]) | exact wk (by omega) | simp))
    ·
     trivial
   ·
    intro c1
    try simp only [decide_eq_true_eq, decide_eq_false_iff_not, Bool.not_eq_true', Bool.not_eq_false', ne_eq, Int.not_lt, Int.not_le] at c1
    refine AWP_skip ?_
    simp only [go_sem]
    refine hK15 _ (Wk_to (by rfl) ?_) ?_
    ·
     simp (maxSteps := 2000000) only [go_sem]
     all_goals (first | rfl | ((repeat' refine And.intro ?_ ?_) <;> first | rfl | (unfold waitsL; rw [decide_eq_true c1]) | (unfold waitsL; rw [decide_eq_false c1]) | exact wk (by omega) | simp))
    ·
     trivial
  ·
   intro c0
   try simp only [decide_eq_true_eq, decide_eq_false_iff_not, Bool.not_eq_true', Bool.not_eq_false', ne_eq, Int.not_lt, Int.not_le] at c0
   refine AWP_exit ?_
   simp only [go_sem]
   refine hK6 _ ?_
   refine AWP_seq_k fun K27 hK27 => ?_
   refine AWP_region (G := G) (T := T_mHp31) T_mHp31_ok ?_
   simp only [go_sem]
   refine hK27 _ ?_
   refine AWP_ret ?_
   simp only [hres, go_sem]
   first
     | exact finOk_mk (by rfl) (by decide)
     | refine ⟨?_, finOk_mk (by rfl) (by decide)⟩
       have hk3 : k = (ordL ns).length := by omega
       clear hK1 hK2 hK3 hK4 hK5 hK6 hK7 hL8 hK9 hK10 hK27
       subst hk3
       rfl

theorem l11Code_fn : FnOk Try.prog 145 := fnOk_of Try.func145 rfl (by decide)

def T_l11Code : Tab := fun f => if f = 145 then some (.p K_l11Code) else T_mHp31 f
theorem T_l11Code_ok : TabOk Try.prog T_l11Code := fun f k h => by
  unfold T_l11Code at h
  split at h
  · rename_i e; cases h; subst e; exact ⟨l11Code_ok, l11Code_fn⟩
  · exact T_mHp31_ok f k h
attribute [go_sem] T_l11Code K_l11Code


def K_l11Last : Con := ⟨[.ptr (.prod (.int .i64) (.prod (.row 24 (.row 2 (.int .i64))) (.prod (.row 140 (.prod (.int .i64) (.prod (.int .i64) (.prod (.int .i64) (.row 2 (.int .i64)))))) (.row 2 (.int .i64))))), .val ((.row 174 (.prod (.int .i64) (.prod (.int .i64) (.prod (.int .i64) (.prod (.int .i64) (.prod (.row 2 (.int .i64)) (.int .i64))))))))], [⟨(.row 2 (.int .i64)), true⟩], fun x => (∀ y ∈ x.2.1, InstrOk x.1.2.2.1.length y) ∧ idxs x.1.2.2.1.length x.1.2.2.2 = true ∧ x.1.2.2.1.length ≤ 1000 ∧ x.1.2.2.2.length ≤ 1000, fun x => lastP x.1.2.2.1.length x.2.1 x.1.2.2.2⟩
set_option maxRecDepth 100000 in
set_option maxHeartbeats 8000000 in
theorem l11Last_ok : PureT Try.prog 146 K_l11Last := by
  refine pure_of_body Try.func146 rfl ?_
  have hres : Try.f146.results.toList = [.tmp 4] := rfl
  rintro ⟨⟨(pi : Int), (ts : List (List Int)), (ns : List NodeD), (os : List Int)⟩, (xs : List InstrD), _⟩ hc hL
  simp only [K_l11Last, lensOk, PK.lenOk, glensOk, GP.lenOk, flensOk, GO.lenOk, olensOk, Ty.lenOk, Ty.flat, Bool.and_true, Bool.true_and, Bool.and_false, Bool.false_and, true_and, and_true, implies_true, forall_const] at hL
  obtain ⟨⟨⟨lts, lts2⟩, ⟨lns, lns2⟩, los⟩, lxs, lxs2⟩ := hL
  simp only [K_l11Last, St.init, St.initG, Try.ntmps146, go_sem] 
  obtain ⟨hX, hO, hnl, hol⟩ := (show (∀ y ∈ xs, InstrOk ns.length y) ∧ idxs ns.length os = true ∧ ns.length ≤ 1000 ∧ os.length ≤ 1000 from hc)
  have hzc : inR (ns.length : Int) 0 1099511627776 = true := inR_t (by omega) (by omega)
  refine AWP_seq_k fun K1 hK1 => ?_
  refine AWP_region (G := G) (T := T_l11Code) T_l11Code_ok ?_
  simp only [go_sem]
  refine hK1 _ ?_
  refine AWP_seq_k fun K2 hK2 => ?_
  refine AWP_region (G := G) (T := T_l11Code) T_l11Code_ok ?_
  simp only [List.nodup_nil, go_sem]
  repeat (with_reducible refine And.intro (by first | omega | exact ⟨rfl, by omega, by omega, by omega⟩) ?_)
  refine hK2 _ ?_
  refine AWP_seq_k fun K3 hK3 => ?_
  refine AWP_seq_k fun K4 hK4 => ?_
  refine AWP_region (G := G) (T := T_l11Code) T_l11Code_ok ?_
  simp only [go_sem]
  refine hK4 _ ?_
  refine AWP_block ?_
  refine AWP_loop_k (ι := { k : Nat // k ≤ ns.length }) (fun k => ⟨[.c (.pt [] ((.prod (.int .i64) (.prod (.row 24 (.row 2 (.int .i64))) (.prod (.row 140 (.prod (.int .i64) (.prod (.int .i64) (.prod (.int .i64) (.row 2 (.int .i64)))))) (.row 2 (.int .i64)))))) (pi, ts, ns, os) 0), .c (.rd [] 174 ((.prod (.int .i64) (.prod (.int .i64) (.prod (.int .i64) (.prod (.int .i64) (.prod (.row 2 (.int .i64)) (.int .i64))))))) (xs)), zz, zz, zz, .c (.ow 9001), .c (.sc (.int .i64 (k.1))), zz, zz, zz, zz, zz, zz, zz, zz, zz, zz, zz, zz, zz, zz, zz, zz, zz, zz, zz, zz, zz, zz, zz, zz, zz, zz, zz, zz, zz, zz, zz, zz, zz, zz, zz, zz, zz, zz, zz, zz, zz, zz, zz, zz, zz, zz, zz, zz, zz, zz, zz, zz, zz, zz, zz, zz, zz, zz, zz, zz, zz, zz, zz, zz], [(9001, .row 2 (.int .i64) (List.replicate k.1 (-1 : Int)) [])]⟩) (fun k => ns.length - k.1) ⟨0, by simp⟩ ?_ ?_
  ·
   refine Wk_to (by rfl) ?_
   simp (maxSteps := 2000000) only [go_sem]
   all_goals ((repeat' refine And.intro ?_ ?_) <;> first | rfl | (congr 1; done) | (simp; done))
  rintro ⟨k, hk⟩ K5 hL5
  have hrl : (List.replicate k (-1 : Int)).length = k := List.length_replicate
  refine AWP_seq_k fun K6 hK6 => ?_
  refine AWP_seq_k fun K7 hK7 => ?_
  refine AWP_region (G := G) (T := T_l11Code) T_l11Code_ok ?_
  simp (maxSteps := 2000000) only [go_sem]
  repeat (with_reducible refine And.intro (by first | omega | exact ⟨rfl, by omega, by omega, by omega⟩) ?_)
  refine hK7 _ ?_
  refine AWP_cond rfl ?_ ?_
  ·
   intro c0
   try simp only [decide_eq_true_eq, decide_eq_false_iff_not, Bool.not_eq_true', Bool.not_eq_false', ne_eq, Int.not_lt, Int.not_le] at c0
   refine AWP_skip ?_
   simp only [go_sem]
   refine hK6 _ ?_
   refine AWP_seq_k fun K8 hK8 => ?_
   refine AWP_block ?_
   refine AWP_region (G := G) (T := T_l11Code) T_l11Code_ok ?_
   simp only [List.nodup_nil, go_sem]
   repeat (with_reducible refine And.intro (by first | omega | exact ⟨rfl, by omega, by omega, by omega⟩ | omega) ?_)
   refine hK8 _ ?_
   refine AWP_region (G := G) (T := T_l11Code) T_l11Code_ok ?_
   simp only [go_sem]
   refine hL5 ⟨k + 1, by omega⟩ _ (Wk_to (by rfl) ?_) ?_
   ·
    simp (maxSteps := 2000000) only [go_sem]
    all_goals ((repeat' refine And.intro ?_ ?_) <;> first | rfl | exact wk (by omega) | exact List.replicate_succ'.symm)
   ·
    first | (simp only []; omega) | omega | (simp; omega)
  ·
   intro c0
   try simp only [decide_eq_true_eq, decide_eq_false_iff_not, Bool.not_eq_true', Bool.not_eq_false', ne_eq, Int.not_lt, Int.not_le] at c0
   refine AWP_exit ?_
   simp only [go_sem]
   refine hK3 _ ?_
   refine AWP_seq_k fun K9 hK9 => ?_
   refine AWP_seq_k fun K10 hK10 => ?_
   refine AWP_region (G := G) (T := T_l11Code) T_l11Code_ok ?_
   simp only [go_sem]
   refine hK10 _ ?_
   refine AWP_block ?_
   refine AWP_loop_k (ι := { t : Nat // t ≤ xs.length }) (fun k => ⟨[.c (.pt [] ((.prod (.int .i64) (.prod (.row 24 (.row 2 (.int .i64))) (.prod (.row 140 (.prod (.int .i64) (.prod (.int .i64) (.prod (.int .i64) (.row 2 (.int .i64)))))) (.row 2 (.int .i64)))))) (pi, ts, ns, os) 0), .c (.rd [] 174 ((.prod (.int .i64) (.prod (.int .i64) (.prod (.int .i64) (.prod (.int .i64) (.prod (.row 2 (.int .i64)) (.int .i64))))))) (xs)), zz, zz, zz, .c (.ow 9001), zz, .c (.sc (.int .i64 (k.1))), zz, zz, zz, zz, zz, zz, zz, zz, zz, zz, zz, zz, zz, zz, zz, zz, zz, zz, zz, zz, zz, zz, zz, zz, zz, zz, zz, zz, zz, zz, zz, zz, zz, zz, zz, zz, zz, zz, zz, zz, zz, zz, zz, zz, zz, zz, zz, zz, zz, zz, zz, zz, zz, zz, zz, zz, zz, zz, zz, zz, zz, zz, zz], [(9001, .row 2 (.int .i64) ((lastK ns.length xs k.1)) [])]⟩) (fun k => xs.length - k.1) ⟨0, by simp⟩ ?_ ?_
   ·
    refine Wk_to (by rfl) ?_
    simp (maxSteps := 2000000) only [go_sem]
    all_goals ((repeat' refine And.intro ?_ ?_) <;> first | rfl | (congr 1; done) | (rw [show k = ns.length by omega]; first | rfl | exact blend_all (by simp) (by simp)) | (simp; done))
   rintro ⟨t, ht⟩ K11 hL11
   have hlk : (lastK ns.length xs t).length = ns.length := lastK_len t
   have hxo : t < xs.length → InstrOk ns.length (xs.getD t ((0, 0, 0, 0, [], 0) : InstrD)) := fun h => hX _ (getD_mem h)
   refine AWP_seq_k fun K12 hK12 => ?_
   refine AWP_seq_k fun K13 hK13 => ?_
   refine AWP_region (G := G) (T := T_l11Code) T_l11Code_ok ?_
   simp only [go_sem]
   refine hK13 _ ?_
   refine AWP_cond rfl ?_ ?_
   ·
    intro c1
    try simp only [decide_eq_true_eq, decide_eq_false_iff_not, Bool.not_eq_true', Bool.not_eq_false', ne_eq, Int.not_lt, Int.not_le] at c1
    have hxt := hxo (by omega)
    have hx3 : (xs.getD t ((0, 0, 0, 0, [], 0) : InstrD)).2.2.2.2.1.length ≤ 3 := hxt.2.2
    refine AWP_skip ?_
    simp only [go_sem]
    refine hK12 _ ?_
    refine AWP_seq_k fun K14 hK14 => ?_
    refine AWP_block ?_
    refine AWP_seq_k fun K15 hK15 => ?_
    refine AWP_region (G := G) (T := T_l11Code) T_l11Code_ok ?_
    simp only [go_sem]
    refine hK15 _ ?_
    refine AWP_block ?_
    refine AWP_loop_k (ι := { m : Nat // m ≤ (xs.getD t ((0, 0, 0, 0, [], 0) : InstrD)).2.2.2.2.1.length }) (fun k' => ⟨[.c (.pt [] ((.prod (.int .i64) (.prod (.row 24 (.row 2 (.int .i64))) (.prod (.row 140 (.prod (.int .i64) (.prod (.int .i64) (.prod (.int .i64) (.row 2 (.int .i64)))))) (.row 2 (.int .i64)))))) (pi, ts, ns, os) 0), .c (.rd [] 174 ((.prod (.int .i64) (.prod (.int .i64) (.prod (.int .i64) (.prod (.int .i64) (.prod (.row 2 (.int .i64)) (.int .i64))))))) (xs)), zz, zz, zz, .c (.ow 9001), zz, .c (.sc (.int .i64 (t))), .c (.sc (.int .i64 (k'.1))), zz, zz, zz, zz, zz, zz, zz, zz, zz, zz, zz, zz, zz, zz, zz, zz, zz, zz, zz, zz, zz, zz, zz, zz, zz, zz, zz, zz, zz, zz, zz, zz, zz, zz, zz, zz, zz, zz, zz, zz, zz, zz, zz, zz, zz, zz, zz, zz, zz, zz, zz, zz, zz, zz, zz, zz, zz, zz, zz, zz, zz, zz], [(9001, .row 2 (.int .i64) (setAll (lastK ns.length xs t) ((xs.getD t ((0, 0, 0, 0, [], 0) : InstrD)).2.2.2.2.1.take k'.1) (t : Int)) [])]⟩) (fun k' => (xs.getD t ((0, 0, 0, 0, [], 0) : InstrD)).2.2.2.2.1.length - k'.1) ⟨0, by simp⟩ ?_ ?_
    ·
     refine Wk_to (by rfl) ?_
     simp (maxSteps := 2000000) only [go_sem]
     all_goals ((repeat' refine And.intro ?_ ?_) <;> first | rfl | (congr 1; done) | (simp; done))
    rintro ⟨m, hm⟩ K16 hL16
    have hsl : (setAll (lastK ns.length xs t) ((xs.getD t ((0, 0, 0, 0, [], 0) : InstrD)).2.2.2.2.1.take m) (t : Int)).length = ns.length := by rw [setAll_len]; exact hlk
    have hix : m < (xs.getD t ((0, 0, 0, 0, [], 0) : InstrD)).2.2.2.2.1.length → 0 ≤ (xs.getD t ((0, 0, 0, 0, [], 0) : InstrD)).2.2.2.2.1.getD m 0 ∧ (xs.getD t ((0, 0, 0, 0, [], 0) : InstrD)).2.2.2.2.1.getD m 0 ≤ ns.length - 1 := fun h => idxs_at hxt.2.1 (getD_mem h)
    have hnx : m < (xs.getD t ((0, 0, 0, 0, [], 0) : InstrD)).2.2.2.2.1.length → setAll (lastK ns.length xs t) ((xs.getD t ((0, 0, 0, 0, [], 0) : InstrD)).2.2.2.2.1.take (m + 1)) (t : Int) = (setAll (lastK ns.length xs t) ((xs.getD t ((0, 0, 0, 0, [], 0) : InstrD)).2.2.2.2.1.take m) (t : Int)).set ((xs.getD t ((0, 0, 0, 0, [], 0) : InstrD)).2.2.2.2.1.getD m 0).toNat (t : Int) := fun h => setAll_next h
    refine AWP_seq_k fun K17 hK17 => ?_
    refine AWP_seq_k fun K18 hK18 => ?_
    refine AWP_region (G := G) (T := T_l11Code) T_l11Code_ok ?_
    simp (maxSteps := 2000000) only [go_sem]
    repeat (with_reducible refine And.intro (by first | omega | exact ⟨rfl, by omega, by omega, by omega⟩) ?_)
    refine hK18 _ ?_
    refine AWP_cond rfl ?_ ?_
    ·
     intro c2
     try simp only [decide_eq_true_eq, decide_eq_false_iff_not, Bool.not_eq_true', Bool.not_eq_false', ne_eq, Int.not_lt, Int.not_le] at c2
     obtain ⟨hi1, hi2⟩ := hix (by omega)
     refine AWP_skip ?_
     simp only [go_sem]
     refine hK17 _ ?_
     refine AWP_seq_k fun K19 hK19 => ?_
     refine AWP_block ?_
     refine AWP_region (G := G) (T := T_l11Code) T_l11Code_ok ?_
     simp (maxSteps := 2000000) only [List.nodup_nil, go_sem]
     repeat (with_reducible refine And.intro (by first | omega | exact ⟨rfl, by omega, by omega, by omega⟩) ?_)
     refine hK19 _ ?_
     refine AWP_region (G := G) (T := T_l11Code) T_l11Code_ok ?_
     simp only [go_sem]
     refine hL16 ⟨m + 1, by omega⟩ _ (Wk_to (by rfl) ?_) ?_
     ·
      simp (maxSteps := 2000000) only [go_sem]
      all_goals ((repeat' refine And.intro ?_ ?_) <;> first | rfl | exact wk (by omega) | exact (hnx (by omega)).symm)
     ·
      first | (simp only []; omega) | omega | (simp; omega)
    ·
     intro c2
     try simp only [decide_eq_true_eq, decide_eq_false_iff_not, Bool.not_eq_true', Bool.not_eq_false', ne_eq, Int.not_lt, Int.not_le] at c2
     have hms : (xs.getD t ((0, 0, 0, 0, [], 0) : InstrD)).2.2.2.2.1.take m = (xs.getD t ((0, 0, 0, 0, [], 0) : InstrD)).2.2.2.2.1 := List.take_of_length_le (by omega)
     refine AWP_exit ?_
     simp only [go_sem]
     refine hK14 _ ?_
     refine AWP_region (G := G) (T := T_l11Code) T_l11Code_ok ?_
     simp only [go_sem]
     refine hL11 ⟨t + 1, by omega⟩ _ (Wk_to (by rfl) ?_) ?_
     ·
      simp (maxSteps := 2000000) only [go_sem]
      all_goals ((repeat' refine And.intro ?_ ?_) <;> first | rfl | exact wk (by omega) | (rw [hms]; rfl))
     ·
      first | (simp only []; omega) | omega | (simp; omega)
   ·
    intro c1
    try simp only [decide_eq_true_eq, decide_eq_false_iff_not, Bool.not_eq_true', Bool.not_eq_false', ne_eq, Int.not_lt, Int.not_le] at c1
    refine AWP_exit ?_
    simp only [go_sem]
    refine hK9 _ ?_
    refine AWP_seq_k fun K20 hK20 => ?_
    refine AWP_seq_k fun K21 hK21 => ?_
    refine AWP_region (G := G) (T := T_l11Code) T_l11Code_ok ?_
    simp only [go_sem]
    refine hK21 _ ?_
    refine AWP_block ?_
    refine AWP_loop_k (ι := { m : Nat // m ≤ os.length }) (fun k' => ⟨[.c (.pt [] ((.prod (.int .i64) (.prod (.row 24 (.row 2 (.int .i64))) (.prod (.row 140 (.prod (.int .i64) (.prod (.int .i64) (.prod (.int .i64) (.row 2 (.int .i64)))))) (.row 2 (.int .i64)))))) (pi, ts, ns, os) 0), .c (.rd [] 174 ((.prod (.int .i64) (.prod (.int .i64) (.prod (.int .i64) (.prod (.int .i64) (.prod (.row 2 (.int .i64)) (.int .i64))))))) (xs)), zz, zz, zz, .c (.ow 9001), zz, zz, zz, .c (.sc (.int .i64 (k'.1))), zz, zz, zz, zz, zz, zz, zz, zz, zz, zz, zz, zz, zz, zz, zz, zz, zz, zz, zz, zz, zz, zz, zz, zz, zz, zz, zz, zz, zz, zz, zz, zz, zz, zz, zz, zz, zz, zz, zz, zz, zz, zz, zz, zz, zz, zz, zz, zz, zz, zz, zz, zz, zz, zz, zz, zz, zz, zz, zz, zz, zz], [(9001, .row 2 (.int .i64) (setAll (lastK ns.length xs xs.length) (os.take k'.1) (xs.length : Int)) [])]⟩) (fun k' => os.length - k'.1) ⟨0, by simp⟩ ?_ ?_
    ·
     refine Wk_to (by rfl) ?_
     simp (maxSteps := 2000000) only [go_sem]
     all_goals ((repeat' refine And.intro ?_ ?_) <;> first | rfl | (rw [show t = xs.length by omega]; rfl) | (congr 1; done) | (simp; done))
    rintro ⟨m, hm⟩ K22 hL22
    have hlk9 : (lastK ns.length xs xs.length).length = ns.length := lastK_len _
    have hsl : (setAll (lastK ns.length xs xs.length) (os.take m) (xs.length : Int)).length = ns.length := by rw [setAll_len]; exact hlk9
    have hix : m < os.length → 0 ≤ os.getD m 0 ∧ os.getD m 0 ≤ ns.length - 1 := fun h => idxs_at hO (getD_mem h)
    have hnx : m < os.length → setAll (lastK ns.length xs xs.length) (os.take (m + 1)) (xs.length : Int) = (setAll (lastK ns.length xs xs.length) (os.take m) (xs.length : Int)).set (os.getD m 0).toNat (xs.length : Int) := fun h => setAll_next h
    refine AWP_seq_k fun K23 hK23 => ?_
    refine AWP_seq_k fun K24 hK24 => ?_
    refine AWP_region (G := G) (T := T_l11Code) T_l11Code_ok ?_
    simp (maxSteps := 2000000) only [go_sem]
    repeat (with_reducible refine And.intro (by first | omega | exact ⟨rfl, by omega, by omega, by omega⟩) ?_)
    refine hK24 _ ?_
    refine AWP_cond rfl ?_ ?_
    ·
     intro c3
     try simp only [decide_eq_true_eq, decide_eq_false_iff_not, Bool.not_eq_true', Bool.not_eq_false', ne_eq, Int.not_lt, Int.not_le] at c3
     obtain ⟨hi1, hi2⟩ := hix (by omega)
     refine AWP_skip ?_
     simp only [go_sem]
     refine hK23 _ ?_
     refine AWP_seq_k fun K25 hK25 => ?_
     refine AWP_block ?_
     refine AWP_region (G := G) (T := T_l11Code) T_l11Code_ok ?_
     simp (maxSteps := 2000000) only [List.nodup_nil, go_sem]
     repeat (with_reducible refine And.intro (by first | omega | exact ⟨rfl, by omega, by omega, by omega⟩) ?_)
     refine hK25 _ ?_
     refine AWP_region (G := G) (T := T_l11Code) T_l11Code_ok ?_
     simp only [go_sem]
     refine hL22 ⟨m + 1, by omega⟩ _ (Wk_to (by rfl) ?_) ?_
     ·
      simp (maxSteps := 2000000) only [go_sem]
      all_goals ((repeat' refine And.intro ?_ ?_) <;> first | rfl | exact wk (by omega) | exact (hnx (by omega)).symm)
     ·
      first | (simp only []; omega) | omega | (simp; omega)
    ·
     intro c3
     try simp only [decide_eq_true_eq, decide_eq_false_iff_not, Bool.not_eq_true', Bool.not_eq_false', ne_eq, Int.not_lt, Int.not_le] at c3
     refine AWP_exit ?_
     simp only [go_sem]
     refine hK20 _ ?_
     refine AWP_seq_k fun K26 hK26 => ?_
     refine AWP_region (G := G) (T := T_l11Code) T_l11Code_ok ?_
     simp only [go_sem]
     refine hK26 _ ?_
     refine AWP_ret ?_
     simp only [hres, go_sem]
     first
       | exact finOk_mk (by rfl) (by decide)
       | refine ⟨?_, finOk_mk (by rfl) (by decide)⟩
         have hm3 : m = os.length := by omega
         clear hK1 hK2 hK3 hK4 hL5 hK6 hK7 hK9 hK10 hL11 hK12 hK13 hK20 hK21 hL22 hK23 hK24 hK26
         subst hm3
         unfold lastP
         rw [List.take_of_length_le (by omega)]

theorem l11Last_fn : FnOk Try.prog 146 := fnOk_of Try.func146 rfl (by decide)

def T_l11Last : Tab := fun f => if f = 146 then some (.p K_l11Last) else T_l11Code f
theorem T_l11Last_ok : TabOk Try.prog T_l11Last := fun f k h => by
  unfold T_l11Last at h
  split at h
  · rename_i e; cases h; subst e; exact ⟨l11Last_ok, l11Last_fn⟩
  · exact T_l11Code_ok f k h
attribute [go_sem] T_l11Last K_l11Last

end Go.Proofs.Ythglggjgjlmhlaa
