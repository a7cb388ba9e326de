/-
  Contracts of functions: classes$2, divide$1@2, IndexFunc[[]int,int]@2, divide@2.
-/
import Derived.Test.YtflaacndokbddaaGreatHc1
namespace Go.Proofs.YtflaacndokbddaaGreat
open Go.RowKit
set_option linter.unusedSimpArgs false
set_option linter.unusedVariables false

set_option maxRecDepth 100000
set_option maxHeartbeats 8000000
def K_cls2 : GCon where
  ps := [.val (.int .i64), .val (.int .i64), .po 0, .po 1]
  os := [.box [.ow 2], .box [.rd ((.prod (.row 26 (.row 2 (.int .i64))) (.prod (.row 90 (.prod (.int .i64) (.prod (.int .i64) (.prod (.int .i64) (.row 2 (.int .i64)))))) (.row 2 (.int .i64)))))], .row 2 (.int .i64)]
  c := fun x => uOk x.2.2.1.1.1 x.2.2.1.1.2.1 ∧ x.2.2.2.1.length = x.2.2.1.1.2.1.length ∧ 0 ≤ x.1.1 ∧ x.1.1 < x.2.2.1.1.2.1.length ∧ 0 ≤ x.1.2.1 ∧ x.1.2.1 < x.2.2.1.1.2.1.length
  r := fun x => .c (.sc (.bool (byKey (phi x.2.2.1.1.1 x.2.2.1.1.2.1 x.2.2.2.1) (Int.toNat x.1.1) (Int.toNat x.1.2.1))))
  o := fun x => [(30, .box [.ow 32]), (31, .box [.rd [] 26 ((.row 2 (.int .i64))) (x.2.2.1.1.1), .rd [] 90 ((.prod (.int .i64) (.prod (.int .i64) (.prod (.int .i64) (.row 2 (.int .i64)))))) (x.2.2.1.1.2.1), .rd [] 2 (.int .i64) (x.2.2.1.1.2.2)]), (32, .row 2 (.int .i64) (x.2.2.2.1) [])]
  ok := by
    rintro ⟨⟨(i : Int), (k : Int), _⟩, ⟨_, ⟨⟨(ts : List (List Int)), (ns : List NodeD), (os : List Int)⟩, _⟩, (cl : List Int), _⟩⟩
    exact ⟨rfl, rfl, by decide⟩
theorem cls2_ok : GenT Tryz.prog 109 K_cls2 := by
  refine gen_of_body Tryz.func109 rfl ?_
  have hres : Tryz.f109.results.toList = [.tmp 6] := rfl
  rintro ⟨⟨(i : Int), (k : Int), _⟩, ⟨_, ⟨⟨(ts : List (List Int)), (ns : List NodeD), (os : List Int)⟩, _⟩, (cl : List Int), _⟩⟩ hc hL hO
  simp only [K_cls2, go_sem] at hL
  simp only [K_cls2, go_sem] at hO
  simp only [K_cls2, St.init, St.initG, Tryz.ntmps109, go_sem] 
  obtain ⟨hU, hcl, hi0, hi1, hk0, hk1⟩ := (show uOk ts ns ∧ cl.length = ns.length ∧ 0 ≤ i ∧ i < ns.length ∧ 0 ≤ k ∧ k < ns.length from hc)
  obtain ⟨hul, hun⟩ := hU
  have hx1 : i.toNat < ns.length := by omega
  have hx2 : k.toNat < ns.length := by omega
  obtain ⟨ht1, hn1⟩ := hun _ (getD_mem (d := ((0, 0, 0, []) : NodeD)) hx1)
  obtain ⟨ht2, hn2⟩ := hun _ (getD_mem (d := ((0, 0, 0, []) : NodeD)) hx2)
  have ht1 : tabIx ts ((ns.getD i.toNat ((0, 0, 0, []) : NodeD)).1, (ns.getD i.toNat ((0, 0, 0, []) : NodeD)).2.1, (ns.getD i.toNat ((0, 0, 0, []) : NodeD)).2.2.1, (ns.getD i.toNat ((0, 0, 0, []) : NodeD)).2.2.2) := ht1
  have ht2 : tabIx ts ((ns.getD k.toNat ((0, 0, 0, []) : NodeD)).1, (ns.getD k.toNat ((0, 0, 0, []) : NodeD)).2.1, (ns.getD k.toNat ((0, 0, 0, []) : NodeD)).2.2.1, (ns.getD k.toNat ((0, 0, 0, []) : NodeD)).2.2.2) := ht2
  have hn1 : insIx ns.length ((ns.getD i.toNat ((0, 0, 0, []) : NodeD)).1, (ns.getD i.toNat ((0, 0, 0, []) : NodeD)).2.1, (ns.getD i.toNat ((0, 0, 0, []) : NodeD)).2.2.1, (ns.getD i.toNat ((0, 0, 0, []) : NodeD)).2.2.2) := hn1
  have hn2 : insIx ns.length ((ns.getD k.toNat ((0, 0, 0, []) : NodeD)).1, (ns.getD k.toNat ((0, 0, 0, []) : NodeD)).2.1, (ns.getD k.toNat ((0, 0, 0, []) : NodeD)).2.2.1, (ns.getD k.toNat ((0, 0, 0, []) : NodeD)).2.2.2) := hn2
  rw [← hcl] at hn1 hn2
  refine oS fun K1 hK1 => ?_
  refine oW T_l12Alike_ok ?_
  simp only [go_sem]
  repeat (with_reducible first | refine oA ?_ | refine And.intro (by first | exact ⟨hi0, hi1⟩ | exact ⟨hk0, hk1⟩ | exact ⟨hi0, by rw [hcl]; exact hi1⟩ | exact ⟨hk0, by rw [hcl]; exact hk1⟩ | exact ⟨ht1, ht2, hn1, hn2⟩ | exact ⟨by omega, by omega⟩) ?_)
  refine hK1 _ ?_
  refine oS fun K2 hK2 => ?_
  refine oR T_l12Alike_ok
    [[], [], [0, 1], [0, 1, 2], [], [], [4, 5], [4, 5, 6], [0, 1, 2, 3, 4, 5, 6, 7], [0, 1, 2, 3, 4, 5, 6, 7, 8], [0, 1, 2, 3, 4, 5, 6, 7, 8, 9], [0, 1, 2, 3, 4, 5, 6, 7, 8, 9], [0, 1, 2, 3, 4, 5, 6, 7, 8, 9, 11], [0, 1, 2, 3, 4, 5, 6, 7, 8, 9], [0, 1, 2, 3, 4, 5, 6, 7, 8, 9, 11, 12, 13], [0, 1, 2, 3, 4, 5, 6, 7, 8, 9, 11, 12, 13, 14], [0, 1, 2, 3, 4, 5, 6, 7, 8, 9], [0, 1, 2, 3, 4, 5, 6, 7, 8, 9, 16], [0, 1, 2, 3, 4, 5, 6, 7, 8, 9], [0, 1, 2, 3, 4, 5, 6, 7, 8, 9, 16, 17, 18], [0, 1, 2, 3, 4, 5, 6, 7, 8, 9, 16, 17, 18, 19], [0, 1, 2, 3, 4, 5, 6, 7, 8, 9], [0, 1, 2, 3, 4, 5, 6, 7, 8, 9, 10, 11, 12, 13, 14, 15, 16, 17, 18, 19, 20, 21], [0, 1, 2, 3, 4, 5, 6, 7, 8, 9, 10, 11, 12, 13, 14, 15, 16, 17, 18, 19, 20, 21, 22], [0, 1, 2, 3, 4, 5, 6, 7, 8, 9, 10, 11, 12, 13, 14, 15, 16, 17, 18, 19, 20, 21, 22, 23]]
    [[], [], [], [], [], [], [], [], [], [], [], [], [], [], [], [], [], [], [], [], [], [], [], [], []]
    [[], [], [], [], [], [], [], [], [], [], [], [], [], [], [], [], [], [], [], [], [], [], [], [], []] (by kernel_rfl) (by kernel_rfl) (adrawR_ok (acc := []) ?_)
  simp (maxSteps := 2000000) only [go_sem]
  repeat' (with_reducible first | refine oD ?_ | refine And.intro (by first | exact ⟨hi0, hi1⟩ | exact ⟨hk0, hk1⟩ | exact ⟨hi0, by rw [hcl]; exact hi1⟩ | exact ⟨hk0, by rw [hcl]; exact hk1⟩ | exact ⟨ht1, ht2, hn1, hn2⟩ | exact ⟨by omega, by omega⟩) ?_ | refine oT (fun g1 => ?_) (fun g1 => ?_) | refine oE (fun g1 => ?_) (fun g1 => ?_))
  all_goals
   refine hK2 _ ?_
   refine AWP_ret ?_
   simp only [hres, go_sem]
   first
    | exact oG
    | refine ⟨oG, ?_⟩
      rw [byKeyP]
      (repeat' refine And.intro ?_ ?_) <;> first | rfl | (congr 1; done) | (clear hK1 hK2; simp_all [n0]; done)
def T_cls2 : Tab := fun f => if f = 109 then some (.g K_cls2) else T_l12Alike f
theorem T_cls2_ok : TabOk Tryz.prog T_cls2 := tabG cls2_ok (fnOk_of Tryz.func109 rfl (by decide)) T_l12Alike_ok
attribute [go_sem] T_cls2 K_cls2

def K_div12 : GCon where
  ps := [.val (.int .i64), .po 0, .po 1]
  os := [.box [.fn 109 [2, 3]], .box [.rd (.int .i64)], .box [.ow 4], .box [.rd ((.prod (.row 26 (.row 2 (.int .i64))) (.prod (.row 90 (.prod (.int .i64) (.prod (.int .i64) (.prod (.int .i64) (.row 2 (.int .i64)))))) (.row 2 (.int .i64)))))], .row 2 (.int .i64)]
  c := fun x => uOk x.2.2.2.2.1.1.1 x.2.2.2.2.1.1.2.1 ∧ x.2.2.2.2.2.1.length = x.2.2.2.2.1.1.2.1.length ∧ 0 ≤ x.1.1 ∧ x.1.1 < x.2.2.2.2.1.1.2.1.length ∧ 0 ≤ x.2.2.1.1 ∧ x.2.2.1.1 < x.2.2.2.2.1.1.2.1.length
  r := fun x => .c (.sc (.bool (byKey (phi x.2.2.2.2.1.1.1 x.2.2.2.2.1.1.2.1 x.2.2.2.2.2.1) (Int.toNat x.1.1) (Int.toNat x.2.2.1.1))))
  o := fun x => [(30, .box [.fn 109 [32, 33]]), (31, .box [.sc (.int .i64 (x.2.2.1.1))]), (32, .box [.ow 34]), (33, .box [.rd [] 26 ((.row 2 (.int .i64))) (x.2.2.2.2.1.1.1), .rd [] 90 ((.prod (.int .i64) (.prod (.int .i64) (.prod (.int .i64) (.row 2 (.int .i64)))))) (x.2.2.2.2.1.1.2.1), .rd [] 2 (.int .i64) (x.2.2.2.2.1.1.2.2)]), (34, .row 2 (.int .i64) (x.2.2.2.2.2.1) [])]
  ok := by
    rintro ⟨⟨(k : Int), _⟩, ⟨_, ⟨(i : Int), _⟩, _, ⟨⟨(ts : List (List Int)), (ns : List NodeD), (os : List Int)⟩, _⟩, (cl : List Int), _⟩⟩
    exact ⟨rfl, rfl, by decide⟩
theorem div12_ok : GenT Tryz.prog 171 K_div12 := by
  refine gen_of_body Tryz.func171 rfl ?_
  have hres : Tryz.f171.results.toList = [.tmp 4] := rfl
  rintro ⟨⟨(k : Int), _⟩, ⟨_, ⟨(i : Int), _⟩, _, ⟨⟨(ts : List (List Int)), (ns : List NodeD), (os : List Int)⟩, _⟩, (cl : List Int), _⟩⟩ hc hL hO
  simp only [K_div12, go_sem] at hL
  simp only [K_div12, go_sem] at hO
  simp only [K_div12, St.init, St.initG, Tryz.ntmps171, go_sem] 
  have hcc : uOk ts ns ∧ cl.length = ns.length ∧ 0 ≤ k ∧ k < ns.length ∧ 0 ≤ i ∧ i < ns.length := hc
  refine oS fun K1 hK1 => ?_
  refine oW T_cls2_ok ?_
  simp only [go_sem]
  repeat (with_reducible first | refine oA ?_ | refine And.intro (by first | exact hcc) ?_)
  refine hK1 _ ?_
  refine oS fun K2 hK2 => ?_
  refine oW T_cls2_ok ?_
  simp (maxSteps := 2000000) only [Tryz.underlying137, go_sem]
  repeat (with_reducible first | refine oA ?_ | refine And.intro (by first | exact hcc) ?_)
  refine hK2 _ ?_
  refine AWP_ret ?_
  simp only [hres, go_sem]
  first | exact oG | (refine ⟨oG, ?_⟩; (repeat' refine And.intro ?_ ?_) <;> first | rfl | (congr 1; done))
def T_div12 : Tab := fun f => if f = 171 then some (.g K_div12) else T_cls2 f
theorem T_div12_ok : TabOk Tryz.prog T_div12 := tabG div12_ok (fnOk_of Tryz.func171 rfl (by decide)) T_cls2_ok
attribute [go_sem] T_div12 K_div12

def K_idxFn2 : GCon where
  ps := [.ow 5, .fn 171 [0, 1]]
  os := [.box [.fn 109 [2, 3]], .box [.rd (.int .i64)], .box [.ow 4], .box [.rd ((.prod (.row 26 (.row 2 (.int .i64))) (.prod (.row 90 (.prod (.int .i64) (.prod (.int .i64) (.prod (.int .i64) (.row 2 (.int .i64)))))) (.row 2 (.int .i64)))))], .row 2 (.int .i64), .row 3 (.int .i64)]
  c := fun x => uOk x.2.2.2.2.1.1.1 x.2.2.2.2.1.1.2.1 ∧ x.2.2.2.2.2.1.length = x.2.2.2.2.1.1.2.1.length ∧ 0 ≤ x.2.2.1.1 ∧ x.2.2.1.1 < x.2.2.2.2.1.1.2.1.length ∧ ∀ k ∈ (x.2.2.2.2.2.2.1 : List Int), 0 ≤ k ∧ k < x.2.2.2.2.1.1.2.1.length
  r := fun x => .c (.sc (.int .i64 (idxR (fun k => byKey (phi x.2.2.2.2.1.1.1 x.2.2.2.2.1.1.2.1 x.2.2.2.2.2.1) (Int.toNat k) (Int.toNat x.2.2.1.1)) x.2.2.2.2.2.2.1)))
  o := fun x => [(30, .box [.fn 109 [32, 33]]), (31, .box [.sc (.int .i64 (x.2.2.1.1))]), (32, .box [.ow 34]), (33, .box [.rd [] 26 ((.row 2 (.int .i64))) (x.2.2.2.2.1.1.1), .rd [] 90 ((.prod (.int .i64) (.prod (.int .i64) (.prod (.int .i64) (.row 2 (.int .i64)))))) (x.2.2.2.2.1.1.2.1), .rd [] 2 (.int .i64) (x.2.2.2.2.1.1.2.2)]), (34, .row 2 (.int .i64) (x.2.2.2.2.2.1) []), (35, .row 3 (.int .i64) (x.2.2.2.2.2.2.1) [])]
  ok := by
    rintro ⟨_, ⟨_, ⟨(i : Int), _⟩, _, ⟨⟨(ts : List (List Int)), (ns : List NodeD), (os : List Int)⟩, _⟩, (cl : List Int), (fs : List Int), _⟩⟩
    exact ⟨rfl, rfl, by decide⟩
theorem idxFn2_ok : GenT Tryz.prog 170 K_idxFn2 := by
  refine gen_of_body Tryz.func170 rfl ?_
  have hres : Tryz.f170.results.toList = [.tmp 4] := rfl
  rintro ⟨_, ⟨_, ⟨(i : Int), _⟩, _, ⟨⟨(ts : List (List Int)), (ns : List NodeD), (os : List Int)⟩, _⟩, (cl : List Int), (fs : List Int), _⟩⟩ hc hL hO
  simp only [K_idxFn2, go_sem] at hL
  simp only [K_idxFn2, go_sem] at hO
  simp only [K_idxFn2, St.init, St.initG, Tryz.ntmps170, go_sem] 
  obtain ⟨hU, hcl, hi0, hi1, hfk⟩ := (show uOk ts ns ∧ cl.length = ns.length ∧ 0 ≤ i ∧ i < ns.length ∧ ∀ k ∈ (fs : List Int), 0 ≤ k ∧ k < ns.length from hc)
  refine oS fun K1 hK1 => ?_
  refine oW T_div12_ok ?_
  simp only [go_sem]
  refine hK1 _ ?_
  refine oS fun K2 hK2 => ?_
  refine oS fun K3 hK3 => ?_
  refine oW T_div12_ok ?_
  simp only [go_sem]
  refine hK3 _ ?_
  refine AWP_block ?_
  refine AWP_loop_k (ι := { j : Nat // j ≤ fs.length ∧ ∀ q, q < j → (fun k => byKey (phi ts ns cl) (Int.toNat k) (Int.toNat i)) (fs.getD q 0) = false }) (fun k => ⟨[.c (.ow 35), .c (.fn 171 [30, 31]), zz, zz, zz, zz, zz, .c (.sc (.int .i64 (fs.length))), .c (.sc (.int .i64 (k.1))), zz, zz, zz, zz, zz, zz, zz, zz, zz, zz], [(30, .box [.fn 109 [32, 33]]), (31, .box [.sc (.int .i64 (i))]), (32, .box [.ow 34]), (33, .box [.rd [] 26 ((.row 2 (.int .i64))) (ts), .rd [] 90 ((.prod (.int .i64) (.prod (.int .i64) (.prod (.int .i64) (.row 2 (.int .i64)))))) (ns), .rd [] 2 (.int .i64) (os)]), (34, .row 2 (.int .i64) (cl) []), (35, .row 3 (.int .i64) (fs) [])]⟩) (fun k => fs.length - k.1) ⟨0, by simp, fun q hq => absurd hq (Nat.not_lt_zero _)⟩ ?_ ?_
  ·
   refine oK ?_
   simp (maxSteps := 2000000) only [go_sem]
   all_goals ((repeat' refine And.intro ?_ ?_) <;> first | rfl | (congr 1; done) | simp)
  rintro ⟨j, hj, hjp⟩ K4 hL4
  have hfx : j < fs.length → 0 ≤ fs.getD j 0 ∧ fs.getD j 0 < ns.length := fun h => hfk _ (getD_mem h)
  refine oS fun K5 hK5 => ?_
  refine oW T_div12_ok ?_
  simp only [go_sem]
  refine hK5 _ ?_
  refine oS fun K6 hK6 => ?_
  refine oC rfl ?_ ?_
  ·
   intro c0
   obtain ⟨hf1, hf2⟩ := hfx (by omega)
   refine AWP_skip ?_
   simp only [go_sem]
   refine hK6 _ ?_
   refine oS fun K7 hK7 => ?_
   refine AWP_block ?_
   refine oS fun K8 hK8 => ?_
   refine oW T_div12_ok ?_
   simp only [go_sem]
   refine hK8 _ ?_
   refine oS fun K9 hK9 => ?_
   refine oW T_div12_ok ?_
   simp (maxSteps := 2000000) only [go_sem]
   repeat (with_reducible first | refine oA ?_ | refine And.intro (by first | exact ⟨hU, hcl, hf1, hf2, hi0, hi1⟩ | omega) ?_)
   refine hK9 _ ?_
   refine oC rfl ?_ ?_
   ·
    intro c1
    refine oS fun K10 hK10 => ?_
    refine oW T_div12_ok ?_
    simp only [go_sem]
    refine hK10 _ ?_
    refine AWP_ret ?_
    simp only [hres, go_sem]
    first | exact oG | (refine ⟨oG, ?_⟩; (repeat' refine And.intro ?_ ?_) <;> first | rfl | (rw [idxR_hit (by omega) hjp (by assumption)]) | (congr 1; exact (idxR_hit (by omega) hjp (by assumption)).symm) | (congr 1; done))
   intro c1
   refine AWP_skip ?_
   simp only [go_sem]
   refine hK7 _ ?_
   refine oW T_div12_ok ?_
   simp only [go_sem]
   refine hL4 ⟨j + 1, by omega, fun q hq => by rcases Nat.lt_succ_iff_lt_or_eq.1 hq with h | h; exact hjp q h; subst h; assumption⟩ _ (oK ?_) ?_
   ·
    simp (maxSteps := 2000000) only [go_sem]
    all_goals ((repeat' refine And.intro ?_ ?_) <;> first | rfl | exact wk (by omega) | (congr 1; done))
   ·
    first | (simp only []; omega) | omega | (simp; omega)
  intro c0
  refine AWP_exit ?_
  simp only [go_sem]
  refine hK2 _ ?_
  refine oS fun K11 hK11 => ?_
  refine oW T_div12_ok ?_
  simp only [go_sem]
  refine hK11 _ ?_
  refine AWP_ret ?_
  simp only [hres, go_sem]
  first | exact oG | (refine ⟨oG, ?_⟩; (repeat' refine And.intro ?_ ?_) <;> first | rfl | (rw [idxR_none (by omega) hjp]) | (congr 1; exact (idxR_none (by omega) hjp).symm) | (congr 1; done))
def T_idxFn2 : Tab := fun f => if f = 170 then some (.g K_idxFn2) else T_div12 f
theorem T_idxFn2_ok : TabOk Tryz.prog T_idxFn2 := tabG idxFn2_ok (fnOk_of Tryz.func170 rfl (by decide)) T_div12_ok
attribute [go_sem] T_idxFn2 K_idxFn2

def K_divide2 : GCon where
  ps := [.val ((.prod (.row 26 (.row 2 (.int .i64))) (.prod (.row 90 (.prod (.int .i64) (.prod (.int .i64) (.prod (.int .i64) (.row 2 (.int .i64)))))) (.row 2 (.int .i64))))), .fn 109 [0, 1]]
  os := [.box [.ow 2], .box [.rd ((.prod (.row 26 (.row 2 (.int .i64))) (.prod (.row 90 (.prod (.int .i64) (.prod (.int .i64) (.prod (.int .i64) (.row 2 (.int .i64)))))) (.row 2 (.int .i64)))))], .row 2 (.int .i64)]
  c := fun x => uOk x.2.2.1.1.1 x.2.2.1.1.2.1 ∧ x.2.2.2.1.length = x.2.2.1.1.2.1.length ∧ x.1.1.2.1.length = x.2.2.1.1.2.1.length
  r := fun _ => .c (.ow 10)
  o := fun x => [(30, .box [.ow 32]), (31, .box [.rd [] 26 ((.row 2 (.int .i64))) (x.2.2.1.1.1), .rd [] 90 ((.prod (.int .i64) (.prod (.int .i64) (.prod (.int .i64) (.row 2 (.int .i64)))))) (x.2.2.1.1.2.1), .rd [] 2 (.int .i64) (x.2.2.1.1.2.2)]), (32, .row 2 (.int .i64) (x.2.2.2.1) []), (10, .row 2 (.int .i64) ((divC (byKey (phi x.2.2.1.1.1 x.2.2.1.1.2.1 x.2.2.2.1)) (List.length x.2.2.1.1.2.1)).1) [])]
  ok := by
    rintro ⟨⟨⟨(ts2 : List (List Int)), (ns2 : List NodeD), (os2 : List Int)⟩, _⟩, ⟨_, ⟨⟨(ts : List (List Int)), (ns : List NodeD), (os : List Int)⟩, _⟩, (cl : List Int), _⟩⟩
    exact ⟨rfl, rfl, by decide⟩
theorem divide2_ok : GenT Tryz.prog 106 K_divide2 := by
  refine gen_of_body Tryz.func106 rfl ?_
  have hres : Tryz.f106.results.toList = [.tmp 4] := rfl
  rintro ⟨⟨⟨(ts2 : List (List Int)), (ns2 : List NodeD), (os2 : List Int)⟩, _⟩, ⟨_, ⟨⟨(ts : List (List Int)), (ns : List NodeD), (os : List Int)⟩, _⟩, (cl : List Int), _⟩⟩ hc hL hO
  simp only [K_divide2, go_sem] at hL
  simp only [K_divide2, go_sem] at hO
  simp only [K_divide2, St.init, St.initG, Tryz.ntmps106, go_sem] 
  obtain ⟨hU, hcl, hlen⟩ := (show uOk ts ns ∧ cl.length = ns.length ∧ ns2.length = ns.length from hc)
  have hul : ns.length ≤ 48 := hU.1
  have hzc : inR (ns2.length : Int) 0 1099511627776 = true := inR_t (by omega) (by omega)
  refine oS fun K1 hK1 => ?_
  refine oW T_idxFn2_ok ?_
  simp only [go_sem]
  refine hK1 _ ?_
  refine oS fun K2 hK2 => ?_
  refine oW T_idxFn2_ok ?_
  simp (maxSteps := 2000000) only [List.nodup_nil, go_sem]
  repeat (with_reducible first | refine oA ?_ | refine And.intro (by first | exact hzc) ?_)
  refine hK2 _ ?_
  refine oS fun K3 hK3 => ?_
  refine oS fun K4 hK4 => ?_
  refine oW T_idxFn2_ok ?_
  simp only [go_sem]
  repeat (with_reducible refine oA ?_)
  refine hK4 _ ?_
  refine AWP_block ?_
  refine AWP_loop_k (ι := { m : Nat // m ≤ ns.length }) (fun k => ⟨[zz, zz, zz, .c (.po 148 0), zz, .c (.ow 9001), .c (.ow 9002), zz, zz, zz, zz, zz, zz, zz, zz, zz, .c (.sc (.int .i64 (ns.length))), .c (.sc (.int .i64 (k.1))), zz, zz, zz, zz, zz, zz, zz, zz, zz, zz, zz, zz, zz, zz, zz, zz, zz, zz, zz], [(30, .box [.ow 32]), (31, .box [.rd [] 26 ((.row 2 (.int .i64))) (ts), .rd [] 90 ((.prod (.int .i64) (.prod (.int .i64) (.prod (.int .i64) (.row 2 (.int .i64)))))) (ns), .rd [] 2 (.int .i64) (os)]), (32, .row 2 (.int .i64) (cl) []), (148, .box [.fn 109 [30, 31]]), (9001, .row 2 (.int .i64) (outZ (byKey (phi ts ns cl)) ns.length k.1) []), (9002, .row 3 (.int .i64) (firstZ (byKey (phi ts ns cl)) k.1) [])]⟩) (fun k => ns.length - k.1) ⟨0, by simp⟩ ?_ ?_
  ·
   refine oK ?_
   simp (maxSteps := 2000000) only [go_sem]
   all_goals ((repeat' refine And.intro ?_ ?_) <;> first | rfl | (rw [hlen]; done) | (rw [hlen]; simp [outZ, divC, firstZ]; done) | (simp [outZ, divC, firstZ, hlen]; done) | (congr 1; done))
  rintro ⟨m, hm⟩ K5 hL5
  have hok : DivOk (byKey (phi ts ns cl)) m (divC (byKey (phi ts ns cl)) m) := canon_ok _ m
  have hol : (outZ (byKey (phi ts ns cl)) ns.length m).length = ns.length := outZ_len hok.len hm
  have hfl := hok.lt
  have hfz : ∀ k ∈ firstZ (byKey (phi ts ns cl)) m, 0 ≤ k ∧ k < (ns.length : Int) := fun k hk => by
    obtain ⟨q, hq, rfl⟩ := List.mem_map.1 hk
    obtain ⟨c, hc9, rfl⟩ := List.mem_iff_getElem.1 hq
    have := hfl c hc9
    rw [List.getD_eq_getElem?_getD, List.getElem?_eq_getElem hc9] at this
    simp only [Option.getD_some] at this
    omega
  have hfml : (firstZ (byKey (phi ts ns cl)) m).length ≤ m := by rw [firstZ_len]; exact canonN_le _ m
  obtain ⟨FZ, hFZ⟩ : ∃ FZ, idxR (fun k => (byKey (phi ts ns cl)) (Int.toNat k) m) (firstZ (byKey (phi ts ns cl)) m) = FZ := ⟨_, rfl⟩
  have hFE : foundZ (byKey (phi ts ns cl)) m = FZ := hFZ
  have hsetH : 0 ≤ FZ → m < ns.length → (outZ (byKey (phi ts ns cl)) ns.length m).set m FZ = outZ (byKey (phi ts ns cl)) ns.length (m + 1) := fun h hm => outZ_set hok.len hm (by rw [← hFE] at h ⊢; exact (div_hit h).1)
  have hsetN : FZ < 0 → m < ns.length → (outZ (byKey (phi ts ns cl)) ns.length m).set m ((firstZ (byKey (phi ts ns cl)) m).length : Int) = outZ (byKey (phi ts ns cl)) ns.length (m + 1) := fun h hm => outZ_set hok.len hm (by rw [← hFE] at h; exact (div_new h).1)
  have hfsH : 0 ≤ FZ → firstZ (byKey (phi ts ns cl)) (m + 1) = firstZ (byKey (phi ts ns cl)) m := fun h => by rw [← hFE] at h; exact (div_hit h).2
  have hfsN : FZ < 0 → firstZ (byKey (phi ts ns cl)) (m + 1) = firstZ (byKey (phi ts ns cl)) m ++ [(m : Int)] := fun h => by rw [← hFE] at h; exact (div_new h).2
  refine oS fun K6 hK6 => ?_
  refine oW T_idxFn2_ok ?_
  simp only [go_sem]
  refine hK6 _ ?_
  refine oS fun K7 hK7 => ?_
  refine oC rfl ?_ ?_
  ·
   intro c0
   have hm0 : (0 : Int) ≤ (m : Int) := by omega
   have hm1 : (m : Int) < (ns.length : Int) := by omega
   refine AWP_skip ?_
   simp only [go_sem]
   refine hK7 _ ?_
   refine oS fun K8 hK8 => ?_
   refine AWP_block ?_
   refine oS fun K9 hK9 => ?_
   refine oW T_idxFn2_ok ?_
   simp only [go_sem]
   repeat (with_reducible refine oA ?_)
   refine hK9 _ ?_
   refine oS fun K10 hK10 => ?_
   refine oW T_idxFn2_ok ?_
   simp only [hFZ, go_sem]
   repeat (with_reducible first | refine oA ?_ | refine And.intro (by first | exact ⟨hU, hcl, hm0, hm1, hfz⟩) ?_)
   refine hK10 _ ?_
   refine oS fun K11 hK11 => ?_
   refine oS fun K12 hK12 => ?_
   refine oW T_idxFn2_ok ?_
   simp only [go_sem]
   refine hK12 _ ?_
   refine oC rfl ?_ ?_
   ·
    intro c1
    refine oS fun K13 hK13 => ?_
    refine oW T_idxFn2_ok ?_
    simp only [go_sem]
    refine hK13 _ ?_
    refine oW T_idxFn2_ok ?_
    simp (maxSteps := 2000000) only [List.nodup_nil, go_sem]
    repeat (with_reducible first | refine oA ?_ | refine And.intro (by first | omega) ?_)
    refine hK11 _ ?_
    refine oW T_idxFn2_ok ?_
    simp (maxSteps := 2000000) only [List.nodup_nil, go_sem]
    repeat (with_reducible first | refine oA ?_ | refine And.intro (by first | exact ⟨by omega, by omega⟩ | omega) ?_)
    refine hK8 _ ?_
    refine oW T_idxFn2_ok ?_
    simp only [go_sem]
    refine hL5 ⟨m + 1, by omega⟩ _ (oK ?_) ?_
    ·
     simp (maxSteps := 2000000) only [go_sem]
     all_goals ((repeat' refine And.intro ?_ ?_) <;> first | rfl | exact wk (by omega) | exact hsetH (by omega) (by omega) | exact hsetN (by omega) (by omega) | exact (hfsH (by omega)).symm | exact (hfsN (by omega)).symm | (congr 1; done))
    ·
     first | (simp only []; omega) | omega | (simp; omega)
   intro c1
   refine AWP_skip ?_
   simp only [go_sem]
   refine hK11 _ ?_
   refine oW T_idxFn2_ok ?_
   simp (maxSteps := 2000000) only [List.nodup_nil, go_sem]
   repeat (with_reducible first | refine oA ?_ | refine And.intro (by first | exact ⟨by omega, by omega⟩ | omega) ?_)
   refine hK8 _ ?_
   refine oW T_idxFn2_ok ?_
   simp only [go_sem]
   refine hL5 ⟨m + 1, by omega⟩ _ (oK ?_) ?_
   ·
    simp (maxSteps := 2000000) only [go_sem]
    all_goals ((repeat' refine And.intro ?_ ?_) <;> first | rfl | exact wk (by omega) | exact hsetH (by omega) (by omega) | exact hsetN (by omega) (by omega) | exact (hfsH (by omega)).symm | exact (hfsN (by omega)).symm | (congr 1; done))
   ·
    first | (simp only []; omega) | omega | (simp; omega)
  intro c0
  refine AWP_exit ?_
  simp only [go_sem]
  refine hK3 _ ?_
  refine oS fun K14 hK14 => ?_
  refine oW T_idxFn2_ok ?_
  simp only [go_sem]
  refine hK14 _ ?_
  refine AWP_ret ?_
  simp only [hres, go_sem]
  first | exact oG | (refine ⟨oG, ?_⟩; (repeat' refine And.intro ?_ ?_) <;> first | rfl | (rw [outZ_all (by omega), show m = ns.length by omega]) | (congr 1; done))
def T_divide2 : Tab := fun f => if f = 106 then some (.g K_divide2) else T_idxFn2 f
theorem T_divide2_ok : TabOk Tryz.prog T_divide2 := tabG divide2_ok (fnOk_of Tryz.func106 rfl (by decide)) T_idxFn2_ok
attribute [go_sem] T_divide2 K_divide2

end Go.Proofs.YtflaacndokbddaaGreat
