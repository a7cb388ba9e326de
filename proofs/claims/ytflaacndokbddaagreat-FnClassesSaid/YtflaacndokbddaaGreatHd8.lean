/-
  Contracts of functions: l12Copy, l12Draw, DrawClassesOf.
-/
import Derived.Test.YtflaacndokbddaaGreatHd5
import Derived.Test.YtflaacndokbddaaGreatGb6
import Derived.Test.YtflaacndokbddaaGreatHb1
import Derived.Test.YtflaacndokbddaaGreatGree
import Derived.Test.YtflaacndokbddaaGreatGx
import Derived.Test.YtflaacndokbddaaGreatQe
namespace Go.Proofs.YtflaacndokbddaaGreat
open Go.RowKit
set_option linter.unusedSimpArgs false
set_option linter.unusedVariables false

set_option maxRecDepth 100000
set_option maxHeartbeats 16000000
def T_mHd80 : Tab := fun f => match T_l07Bent f with
 | some k => some k
 | none => T_l12Ask f
theorem T_mHd80_ok : TabOk Tryz.prog T_mHd80 := tabM T_l07Bent_ok T_l12Ask_ok
attribute [go_sem] T_mHd80 T0

def T_mHd81 : Tab := fun f => match T_mHd80 f with
 | some k => some k
 | none => T_l07Own f
theorem T_mHd81_ok : TabOk Tryz.prog T_mHd81 := tabM T_mHd80_ok T_l07Own_ok
attribute [go_sem] T_mHd81 T0

def K_l12Copy : GCon where
  ps := [.po 0, .ptr ((.prod (.int .i64) (.prod (.row 26 (.row 2 (.int .i64))) (.prod (.row 90 (.prod (.int .i64) (.prod (.int .i64) (.prod (.int .i64) (.row 2 (.int .i64)))))) (.row 2 (.int .i64))))))]
  os := [.box [.rd ((.row 5 (.int .u8))), .rd (.int .i64), .rd (.int .u64)]]
  c := fun x => srcOk 250 (x.2.1.1, x.2.1.2.1, x.2.1.2.2.1) ∧ patchB x.1.2.1 = true
  r := fun x => .agg [.sc (.int .i64 (copyD x.1.2.1 (x.2.1.1, x.2.1.2.1, x.2.1.2.2.1)).1.1), .ow 10, .ow 11, .ow 12]
  o := fun x => [(30, .box [.rd [] 5 (.int .u8) ((copyD x.1.2.1 (x.2.1.1, x.2.1.2.1, x.2.1.2.2.1)).2.1), .sc (.int .i64 ((copyD x.1.2.1 (x.2.1.1, x.2.1.2.1, x.2.1.2.2.1)).2.2.1)), .sc (.int .u64 ((copyD x.1.2.1 (x.2.1.1, x.2.1.2.1, x.2.1.2.2.1)).2.2.2))]), (10, .tree 26 (.row 2 (.int .i64)) ((copyD x.1.2.1 (x.2.1.1, x.2.1.2.1, x.2.1.2.2.1)).1.2.1) none), (11, .tree 90 ((.prod (.int .i64) (.prod (.int .i64) (.prod (.int .i64) (.row 2 (.int .i64)))))) ((copyD x.1.2.1 (x.2.1.1, x.2.1.2.1, x.2.1.2.2.1)).1.2.2.1) none), (12, .row 2 (.int .i64) ((copyD x.1.2.1 (x.2.1.1, x.2.1.2.1, x.2.1.2.2.1)).1.2.2.2) [])]
  ok := by
    rintro ⟨⟨_, ⟨(pi : Int), (ts : List (List Int)), (ns : List NodeD), (os : List Int)⟩, _⟩, ⟨⟨(cd : List Int), (pt : Int), (sd : Int), _⟩, _⟩⟩
    exact ⟨rfl, rfl, by decide⟩
theorem l12Copy_ok : GenT Tryz.prog 101 K_l12Copy := by
  refine gen_of_body Tryz.func101 rfl ?_
  have hres : Tryz.f101.results.toList = [.cell 4 28] := rfl
  rintro ⟨⟨_, ⟨(pi : Int), (ts : List (List Int)), (ns : List NodeD), (os : List Int)⟩, _⟩, ⟨⟨(cd : List Int), (pt : Int), (sd : Int), _⟩, _⟩⟩ hc hL hO
  simp only [K_l12Copy, go_sem] at hL
  simp only [K_l12Copy, go_sem] at hO
  simp only [K_l12Copy, St.init, St.initG, Tryz.ntmps101, go_sem] 
  obtain ⟨hs0, hP⟩ := (show srcOk 250 (cd, pt, sd) ∧ patchB (pi, ts, ns, os) = true from hc)
  have hF := (patchB_parts hP).1
  have hU := uOk_patch hF
  have hfp := smallP_fitsP (smallP_of (p := (pi, ts, ns, os)) hP)
  have hn24 : ns.length ≤ 24 := (formedB_parts hF).1
  have ho4 : os.length ≤ 4 := (formedB_parts hF).2.1
  have hos : idxs ns.length os = true := (formedB_parts hF).2.2.2.2.2.1
  have hl3 : ∀ nd ∈ ns, nd.2.2.2.length ≤ 3 := fun nd hd => (hU.2 nd hd).2.1
  refine oS fun K1 hK1 => ?_
  refine oW T_mHd81_ok ?_
  simp only [go_sem]
  repeat (with_reducible first | refine oA ?_ | refine And.intro (by first | exact hfp | exact sLe) ?_)
  refine hK1 _ ?_
  refine oS fun K2 hK2 => ?_
  refine oW T_mHd81_ok ?_
  simp only [List.nodup_cons, List.nodup_nil, List.not_mem_nil, not_false_eq_true, go_sem]
  repeat (with_reducible first | refine oA ?_ | refine And.intro (by first | exact hfp | exact sLe) ?_)
  refine hK2 _ ?_
  refine oS fun K3 hK3 => ?_
  refine oW T_mHd81_ok ?_
  simp (maxSteps := 2000000) only [go_sem]
  repeat (with_reducible first | refine oA ?_ | refine And.intro (by first | exact hfp | exact sLe) ?_)
  refine hK3 _ ?_
  refine oS fun K4 hK4 => ?_
  refine oS fun K5 hK5 => ?_
  refine oW T_mHd81_ok ?_
  simp only [go_sem]
  repeat (with_reducible first | refine oA ?_ | refine And.intro (by first | exact hfp | exact sLe) ?_)
  refine hK5 _ ?_
  refine AWP_block ?_
  refine AWP_loop_k (ι := { k : Nat // k ≤ ns.length }) (fun k => ⟨(.c (.po 30 0) :: .c (.pt [] ((.prod (.int .i64) (.prod (.row 26 (.row 2 (.int .i64))) (.prod (.row 90 (.prod (.int .i64) (.prod (.int .i64) (.prod (.int .i64) (.row 2 (.int .i64)))))) (.row 2 (.int .i64)))))) (pi, ts, ns, os) 0) :: zz :: zz :: .c (.po 164 0) :: .c (.po 180 0) :: .c (.sc (.int .i64 (ns.length))) :: .c (.sc (.int .i64 (k.1))) :: zz :: zz :: zz :: zz :: zz :: zz :: zz :: zz :: zz :: zz :: zz :: zz :: zz :: zz :: zz :: zz :: zz :: zz :: zz :: zz :: zz :: zz :: zz :: zz :: zz :: zz :: zz :: zz :: zz :: zz :: zz :: zz :: zz :: zz :: zz :: zz :: zz :: zz :: zz :: zz :: zz :: zz :: zz :: zz :: zz :: zz :: zz :: zz :: zz :: zz :: zz :: zz :: zz :: zz :: zz :: zz :: zz :: zz :: zz :: zz :: zz :: zz :: zz :: zz :: zz :: zz :: zz :: zz :: zz :: zz :: zz :: zz :: zz :: zz :: zz :: zz :: zz :: zz :: zz :: zz :: zz :: zz :: zz :: zz :: zz :: zz :: zz :: zz :: zz :: zz :: zz :: zz :: zz :: zz :: zz :: zz :: zz :: zz :: zz :: zz :: zz :: zz :: zz :: zz :: zz :: zz :: zz :: zz :: zz :: zz :: zz :: zz :: zz :: zz :: zz :: zz :: zz :: zz :: zz :: zz :: zz :: zz :: zz :: zz :: zz :: zz :: zz :: zz :: zz :: zz :: []), [(30, .box [.rd [] 5 (.int .u8) ((itI (cpStep ns) k.1 ns (cd, pt, sd)).2.1), .sc (.int .i64 ((itI (cpStep ns) k.1 ns (cd, pt, sd)).2.2.1)), .sc (.int .u64 ((itI (cpStep ns) k.1 ns (cd, pt, sd)).2.2.2))]), (164, .box [.sc (.int .i64 (0)), .sc (.slice none 0 0), .sc (.slice none 0 0), .sc (.slice none 0 0)]), (180, .box [.sc (.int .i64 (pi)), .ow 9001, .ow 9002, .ow 9003]), (9001, .tree 26 (.row 2 (.int .i64)) (ts) none), (9002, .tree 90 (.prod (.int .i64) (.prod (.int .i64) (.prod (.int .i64) (.row 2 (.int .i64))))) ((itI (cpStep ns) k.1 ns (cd, pt, sd)).1) none), (9003, .row 2 (.int .i64) (os) [])]⟩) (fun k => ns.length - k.1) ⟨0, by simp⟩ ?_ ?_
  ·
   refine oK ?_
   simp (maxSteps := 2000000) only [go_sem]
   all_goals ((repeat' refine And.intro ?_ ?_) <;> first | rfl | trivial | exact wk (by omega) | omega | (simp; done) | (congr 1; done))
  rintro ⟨k, hk⟩ K6 hL6
  rcases hit : itI (cpStep ns) k ns (cd, pt, sd) with ⟨v1, u1, p1, q1⟩
  have hs1 := (Cost.itI (cpStep_cost hl3) k ns).at hs0 (by omega) hit
  have hvl : v1.length ≤ 24 := cpSteps_len hn24 hit
  refine oS fun K7 hK7 => ?_
  refine oS fun K8 hK8 => ?_
  refine oW T_mHd81_ok ?_
  simp (maxSteps := 2000000) only [go_sem]
  repeat' (with_reducible first | refine oA ?_ | refine And.intro (by first | exact hfp | exact sLe) ?_ | refine oT (fun g4 => ?_) (fun g4 => ?_) | refine oE (fun g4 => ?_) (fun g4 => ?_))
  all_goals
   refine hK8 _ ?_
   refine AWP_cond rfl ?_ ?_
   ·
    intro c0
    try simp only [zA, zB, zC, zD, zE, zF, zG, zH, zI] at c0
    all_goals
     have hk1 : k < ns.length := by omega
     have hlt24 : v1.length < 24 := by omega
     obtain ⟨hx1, hx2, hx3⟩ := (hU.2 _ (getD_mem (d := ((0, 0, 0, []) : NodeD)) hk1)).2
     have hx1 : (ns.getD k ((0, 0, 0, []) : NodeD)).2.2.2.length ≤ 3 := hx1
     have hx2 : idxs ns.length (ns.getD k ((0, 0, 0, []) : NodeD)).2.2.2 = true := hx2
     rcases hfa : itI (cpIx (ns.length : Int) (v1.length : Int)) (ns.getD k ((0, 0, 0, []) : NodeD)).2.2.2.length (ns.getD k ((0, 0, 0, []) : NodeD)).2.2.2 (u1, p1, q1) with ⟨v8, u8, p8, q8⟩
     have hs8 := (Cost.itI (cpIx_cost (ns.length : Int) (v1.length : Int)) (ns.getD k ((0, 0, 0, []) : NodeD)).2.2.2.length (ns.getD k ((0, 0, 0, []) : NodeD)).2.2.2).at hs1 (by omega) hfa
     rcases hsw : cpSwap v8 (u8, p8, q8) with ⟨v5, u5, p5, q5⟩
     have hs5 := (cpSwap_cost v8).at hs8 (by omega) hsw
     rcases hr9 : oneD 9 (u5, p5, q5) with ⟨v9, u9, p9, q9⟩
     have hs9 := oneD_at hs5 (by omega) hr9
     have hnx : (itI (cpStep ns) (k + 1) ns (cd, pt, sd)) = (v1 ++ [((ns.getD k ((0, 0, 0, []) : NodeD)).1, (match v9 && decide ((ns.getD k ((0, 0, 0, []) : NodeD)).1 = 5) with | true => 7 | false => (ns.getD k ((0, 0, 0, []) : NodeD)).2.1), (ns.getD k ((0, 0, 0, []) : NodeD)).2.2.1, v5)], u9, p9, q9) := (itI_succ hit).trans (by simp only [cpStep, decide_eq_true hlt24, bnd, cpNode, show n0 = ((0, 0, 0, []) : NodeD) from rfl, hfa, hsw, cpA, hr9]; first | done | rfl)
     refine AWP_skip ?_
     simp only [go_sem]
     refine hK7 _ ?_
     refine oS fun K9 hK9 => ?_
     refine AWP_block ?_
     refine oS fun K10 hK10 => ?_
     refine oW T_mHd81_ok ?_
     simp (maxSteps := 2000000) only [go_sem]
     repeat (with_reducible first | refine oA ?_ | refine And.intro (by first | exact hfp | exact sLe) ?_)
     refine hK10 _ ?_
     refine oS fun K11 hK11 => ?_
     refine oW T_mHd81_ok ?_
     simp (maxSteps := 2000000) only [List.nodup_nil, go_sem]
     repeat (with_reducible first | refine oA ?_ | refine And.intro (by first | exact hfp | exact sLe) ?_)
     refine hK11 _ ?_
     refine oS fun K12 hK12 => ?_
     refine oS fun K13 hK13 => ?_
     refine oW T_mHd81_ok ?_
     simp only [go_sem]
     repeat (with_reducible first | refine oA ?_ | refine And.intro (by first | exact hfp | exact sLe) ?_)
     refine hK13 _ ?_
     refine AWP_block ?_
     refine AWP_loop_k (ι := { m : Nat // m ≤ (ns.getD k ((0, 0, 0, []) : NodeD)).2.2.2.length }) (fun k' => ⟨(.c (.po 30 0) :: .c (.pt [] ((.prod (.int .i64) (.prod (.row 26 (.row 2 (.int .i64))) (.prod (.row 90 (.prod (.int .i64) (.prod (.int .i64) (.prod (.int .i64) (.row 2 (.int .i64)))))) (.row 2 (.int .i64)))))) (pi, ts, ns, os) 0) :: zz :: zz :: .c (.po 164 0) :: .c (.po 180 0) :: .c (.sc (.int .i64 (ns.length))) :: .c (.sc (.int .i64 (k))) :: .c (.po 228 0) :: .c (.sc (.int .i64 (k'.1))) :: zz :: zz :: zz :: zz :: zz :: zz :: zz :: zz :: zz :: zz :: zz :: zz :: zz :: zz :: zz :: zz :: zz :: zz :: zz :: zz :: zz :: zz :: zz :: zz :: zz :: zz :: zz :: zz :: zz :: zz :: zz :: zz :: zz :: zz :: zz :: zz :: zz :: zz :: zz :: zz :: zz :: zz :: zz :: zz :: zz :: zz :: zz :: zz :: zz :: zz :: zz :: zz :: zz :: zz :: zz :: zz :: zz :: zz :: zz :: zz :: zz :: zz :: zz :: zz :: zz :: zz :: zz :: zz :: zz :: zz :: zz :: zz :: zz :: zz :: zz :: zz :: zz :: zz :: zz :: zz :: zz :: zz :: zz :: zz :: zz :: zz :: zz :: zz :: zz :: zz :: zz :: zz :: zz :: zz :: zz :: zz :: zz :: zz :: zz :: zz :: zz :: zz :: zz :: zz :: zz :: zz :: zz :: zz :: zz :: zz :: zz :: zz :: zz :: zz :: zz :: zz :: zz :: zz :: zz :: zz :: zz :: zz :: zz :: zz :: zz :: zz :: zz :: zz :: []), [(30, .box [.rd [] 5 (.int .u8) ((itI (cpIx (ns.length : Int) (v1.length : Int)) k'.1 (ns.getD k ((0, 0, 0, []) : NodeD)).2.2.2 (u1, p1, q1)).2.1), .sc (.int .i64 ((itI (cpIx (ns.length : Int) (v1.length : Int)) k'.1 (ns.getD k ((0, 0, 0, []) : NodeD)).2.2.2 (u1, p1, q1)).2.2.1)), .sc (.int .u64 ((itI (cpIx (ns.length : Int) (v1.length : Int)) k'.1 (ns.getD k ((0, 0, 0, []) : NodeD)).2.2.2 (u1, p1, q1)).2.2.2))]), (164, .box [.sc (.int .i64 (0)), .sc (.slice none 0 0), .sc (.slice none 0 0), .sc (.slice none 0 0)]), (180, .box [.sc (.int .i64 (pi)), .ow 9001, .ow 9002, .ow 9003]), (9001, .tree 26 (.row 2 (.int .i64)) (ts) none), (9002, .tree 90 (.prod (.int .i64) (.prod (.int .i64) (.prod (.int .i64) (.row 2 (.int .i64))))) (v1) none), (9003, .row 2 (.int .i64) (os) []), (228, .box [.sc (.int .i64 ((ns.getD k ((0, 0, 0, []) : NodeD)).1)), .sc (.int .i64 ((ns.getD k ((0, 0, 0, []) : NodeD)).2.1)), .sc (.int .i64 ((ns.getD k ((0, 0, 0, []) : NodeD)).2.2.1)), .ow 9004]), (9004, .row 2 (.int .i64) ((itI (cpIx (ns.length : Int) (v1.length : Int)) k'.1 (ns.getD k ((0, 0, 0, []) : NodeD)).2.2.2 (u1, p1, q1)).1) [])]⟩) (fun k' => (ns.getD k ((0, 0, 0, []) : NodeD)).2.2.2.length - k'.1) ⟨0, by simp⟩ ?_ ?_
     ·
      refine oK ?_
      simp (maxSteps := 2000000) only [go_sem]
      all_goals ((repeat' refine And.intro ?_ ?_) <;> first | rfl | trivial | exact wk (by omega) | omega | (simp; done) | (congr 1; done))
     rintro ⟨m, hm⟩ K14 hL14
     rcases hif : itI (cpIx (ns.length : Int) (v1.length : Int)) m (ns.getD k ((0, 0, 0, []) : NodeD)).2.2.2 (u1, p1, q1) with ⟨v2, u2, p2, q2⟩
     have hs2 := (Cost.itI (cpIx_cost (ns.length : Int) (v1.length : Int)) m (ns.getD k ((0, 0, 0, []) : NodeD)).2.2.2).at hs1 (by omega) hif
     have hl2 : v2.length = (ns.getD k ((0, 0, 0, []) : NodeD)).2.2.2.length := cpIx_lens hif
     refine oS fun K15 hK15 => ?_
     refine oS fun K16 hK16 => ?_
     refine oW T_mHd81_ok ?_
     simp (maxSteps := 2000000) only [go_sem]
     repeat (with_reducible first | refine oA ?_ | refine And.intro (by first | exact hfp | exact sLe) ?_)
     refine hK16 _ ?_
     refine AWP_cond rfl ?_ ?_
     ·
      intro c1
      try simp only [zA, zB, zC, zD, zE, zF, zG, zH, zI] at c1
      all_goals
       have hm1 : m < (ns.getD k ((0, 0, 0, []) : NodeD)).2.2.2.length := by omega
       have hix := idxs_at hx2 (getD_mem (d := (0 : Int)) hm1)
       have hvm : v2.getD m 0 = (ns.getD k ((0, 0, 0, []) : NodeD)).2.2.2.getD m 0 := cpIx_rest hif m (Nat.le_refl _)
       have hw : IntKind.i64.wrap (v2.getD m 0 + (ns.length : Int)) = v2.getD m 0 + (ns.length : Int) := wrapI (by omega)
       rcases hr3 : oneD 2 (u2, p2, q2) with ⟨v3, u3, p3, q3⟩
       have hs3 := oneD_at hs2 (by omega) hr3
       refine AWP_skip ?_
       simp only [go_sem]
       refine hK15 _ ?_
       refine oS fun K17 hK17 => ?_
       refine AWP_block ?_
       refine oS fun K18 hK18 => ?_
       refine oW T_mHd81_ok ?_
       simp (maxSteps := 2000000) only [hl2, hw, go_sem]
       repeat (with_reducible first | refine oA ?_ | refine And.intro (by first | exact hfp | exact sLe) ?_)
       refine hK18 _ ?_
       refine oS fun K19 hK19 => ?_
       refine oW T_mHd81_ok ?_
       simp (maxSteps := 2000000) only [hr3, go_sem]
       repeat' (with_reducible first | refine oA ?_ | refine And.intro (by first | exact hfp | exact sLe) ?_ | refine oT (fun g12 => ?_) (fun g12 => ?_) | refine oE (fun g12 => ?_) (fun g12 => ?_))
       all_goals
        refine hK19 _ ?_
        refine AWP_cond rfl ?_ ?_
        ·
         intro c2
         try simp only [zA, zB, zC, zD, zE, zF, zG, zH, zI] at c2
         all_goals
          have hnf : (itI (cpIx (ns.length : Int) (v1.length : Int)) (m + 1) (ns.getD k ((0, 0, 0, []) : NodeD)).2.2.2 (u1, p1, q1)) = (v2.set m (v2.getD m 0 + (ns.length : Int)), u3, p3, q3) := (itI_succ hif).trans (by simp only [cpIx, bnd, hr3, show v3 = true by assumption, decide_eq_true (show v2.getD m 0 + (ns.length : Int) < (v1.length : Int) by omega), Bool.and_self])
          refine oW T_mHd81_ok ?_
          simp (maxSteps := 2000000) only [hl2, go_sem]
          repeat (with_reducible first | refine oA ?_ | refine And.intro (by first | exact hfp | exact sLe) ?_)
          refine hK17 _ ?_
          refine oW T_mHd81_ok ?_
          simp only [go_sem]
          repeat (with_reducible first | refine oA ?_ | refine And.intro (by first | exact hfp | exact sLe) ?_)
          refine hL14 ⟨m + 1, by omega⟩ _ (oK ?_) ?_
          ·
           simp (maxSteps := 2000000) only [go_sem]
           all_goals (try simp only [hnf])
           all_goals ((repeat' refine And.intro ?_ ?_) <;> first | rfl | trivial | exact wk (by omega) | omega | (simp; done) | (congr 1; done))
          ·
           first | (simp only []; omega) | omega | (simp; omega)
        ·
         intro c2
         try simp only [zA, zB, zC, zD, zE, zF, zG, zH, zI] at c2
         all_goals
          have hnf : (itI (cpIx (ns.length : Int) (v1.length : Int)) (m + 1) (ns.getD k ((0, 0, 0, []) : NodeD)).2.2.2 (u1, p1, q1)) = (v2, u3, p3, q3) := (itI_succ hif).trans (by simp only [cpIx, bnd, hr3]; first | (rw [show v3 = false by assumption]; rfl) | (rw [decide_eq_false (show ¬ v2.getD m 0 + (ns.length : Int) < (v1.length : Int) by omega), Bool.and_false]))
          refine AWP_skip ?_
          simp only [go_sem]
          refine hK17 _ ?_
          refine oW T_mHd81_ok ?_
          simp only [go_sem]
          repeat (with_reducible first | refine oA ?_ | refine And.intro (by first | exact hfp | exact sLe) ?_)
          refine hL14 ⟨m + 1, by omega⟩ _ (oK ?_) ?_
          ·
           simp (maxSteps := 2000000) only [go_sem]
           all_goals (try simp only [hnf])
           all_goals ((repeat' refine And.intro ?_ ?_) <;> first | rfl | trivial | exact wk (by omega) | omega | (simp; done) | (congr 1; done))
          ·
           first | (simp only []; omega) | omega | (simp; omega)
     ·
      intro c1
      try simp only [zA, zB, zC, zD, zE, zF, zG, zH, zI] at c1
      all_goals
       obtain rfl : m = (ns.getD k ((0, 0, 0, []) : NodeD)).2.2.2.length := by omega
       have hq : (v2, u2, p2, q2) = (v8, u8, p8, q8) := hif.symm.trans hfa
       simp only [Prod.mk.injEq] at hq
       obtain ⟨hq1, hq2, hq3, hq4⟩ := hq
       subst hq1 hq2 hq3 hq4
       refine AWP_exit ?_
       simp only [go_sem]
       refine hK12 _ ?_
       refine AWP_seq_j (True) ⟨(.c (.po 30 0) :: .c (.pt [] ((.prod (.int .i64) (.prod (.row 26 (.row 2 (.int .i64))) (.prod (.row 90 (.prod (.int .i64) (.prod (.int .i64) (.prod (.int .i64) (.row 2 (.int .i64)))))) (.row 2 (.int .i64)))))) (pi, ts, ns, os) 0) :: zz :: zz :: .c (.po 164 0) :: .c (.po 180 0) :: .c (.sc (.int .i64 (ns.length))) :: .c (.sc (.int .i64 (k))) :: .c (.po 228 0) :: zz :: zz :: zz :: zz :: zz :: zz :: zz :: zz :: zz :: zz :: zz :: zz :: zz :: zz :: zz :: zz :: zz :: zz :: zz :: zz :: zz :: zz :: zz :: zz :: zz :: zz :: zz :: zz :: zz :: zz :: zz :: zz :: zz :: zz :: zz :: zz :: zz :: zz :: zz :: zz :: zz :: zz :: zz :: zz :: zz :: zz :: zz :: zz :: zz :: zz :: zz :: zz :: zz :: zz :: zz :: zz :: zz :: zz :: zz :: zz :: zz :: zz :: zz :: zz :: zz :: zz :: zz :: zz :: zz :: zz :: zz :: zz :: zz :: zz :: zz :: zz :: zz :: zz :: zz :: zz :: zz :: zz :: zz :: zz :: zz :: zz :: zz :: zz :: zz :: zz :: zz :: zz :: zz :: zz :: zz :: zz :: zz :: zz :: zz :: zz :: zz :: zz :: zz :: zz :: zz :: zz :: zz :: zz :: zz :: zz :: zz :: zz :: zz :: zz :: zz :: zz :: zz :: zz :: zz :: zz :: zz :: zz :: zz :: zz :: zz :: zz :: zz :: zz :: zz :: []), [(30, .box [.rd [] 5 (.int .u8) (u5), .sc (.int .i64 (p5)), .sc (.int .u64 (q5))]), (164, .box [.sc (.int .i64 (0)), .sc (.slice none 0 0), .sc (.slice none 0 0), .sc (.slice none 0 0)]), (180, .box [.sc (.int .i64 (pi)), .ow 9001, .ow 9002, .ow 9003]), (9001, .tree 26 (.row 2 (.int .i64)) (ts) none), (9002, .tree 90 (.prod (.int .i64) (.prod (.int .i64) (.prod (.int .i64) (.row 2 (.int .i64))))) (v1) none), (9003, .row 2 (.int .i64) (os) []), (228, .box [.sc (.int .i64 ((ns.getD k ((0, 0, 0, []) : NodeD)).1)), .sc (.int .i64 ((ns.getD k ((0, 0, 0, []) : NodeD)).2.1)), .sc (.int .i64 ((ns.getD k ((0, 0, 0, []) : NodeD)).2.2.1)), .ow 9004]), (9004, .row 2 (.int .i64) (v5) [])]⟩ ?_ fun K20 hK20 => ?_
       ·
        intro hJ
        refine oS fun K21 hK21 => ?_
        refine oS fun K22 hK22 => ?_
        refine oW T_mHd81_ok ?_
        simp (maxSteps := 2000000) only [hr9, go_sem]
        repeat' (with_reducible first | refine oA ?_ | refine And.intro (by first | exact hfp | exact sLe) ?_ | refine oT (fun g18 => ?_) (fun g18 => ?_) | refine oE (fun g18 => ?_) (fun g18 => ?_))
        all_goals
         refine hK22 _ ?_
         refine AWP_cond rfl ?_ ?_
         ·
          intro c4
          try simp only [zA, zB, zC, zD, zE, zF, zG, zH, zI] at c4
          all_goals
           have hnx2 : (itI (cpStep ns) (k + 1) ns (cd, pt, sd)) = (v1 ++ [((ns.getD k ((0, 0, 0, []) : NodeD)).1, 7, (ns.getD k ((0, 0, 0, []) : NodeD)).2.2.1, v5)], u9, p9, q9) := by rw [hnx, show v9 = true by assumption, decide_eq_true (show (ns.getD k ((0, 0, 0, []) : NodeD)).1 = 5 by assumption)]; rfl
           refine oW T_mHd81_ok ?_
           simp only [go_sem]
           repeat (with_reducible first | refine oA ?_ | refine And.intro (by first | exact hfp | exact sLe) ?_)
           refine hK21 _ ?_
           refine oW T_mHd81_ok ?_
           simp (maxSteps := 2000000) only [List.nodup_cons, List.nodup_nil, List.not_mem_nil, not_false_eq_true, hvl, go_sem]
           repeat (with_reducible first | refine oA ?_ | refine And.intro (by first | exact hfp | exact sLe) ?_)
           refine hK9 _ ?_
           refine oW T_mHd81_ok ?_
           simp only [go_sem]
           repeat (with_reducible first | refine oA ?_ | refine And.intro (by first | exact hfp | exact sLe) ?_)
           refine hL6 ⟨k + 1, by omega⟩ _ (oK ?_) ?_
           ·
            simp (maxSteps := 2000000) only [go_sem]
            all_goals (try simp only [hnx2])
            all_goals ((repeat' refine And.intro ?_ ?_) <;> first | rfl | trivial | exact wk (by omega) | omega | (simp; done) | (congr 1; done))
           ·
            first | (simp only []; omega) | omega | (simp; omega)
         ·
          intro c4
          try simp only [zA, zB, zC, zD, zE, zF, zG, zH, zI] at c4
          all_goals
           have hnx2 : (itI (cpStep ns) (k + 1) ns (cd, pt, sd)) = (v1 ++ [((ns.getD k ((0, 0, 0, []) : NodeD)).1, (ns.getD k ((0, 0, 0, []) : NodeD)).2.1, (ns.getD k ((0, 0, 0, []) : NodeD)).2.2.1, v5)], u9, p9, q9) := by
             rw [hnx]
             first | (rw [show v9 = false by assumption]; rfl) | (rw [decide_eq_false (show ¬ (ns.getD k ((0, 0, 0, []) : NodeD)).1 = 5 by assumption), Bool.and_false])
           refine AWP_skip ?_
           simp only [go_sem]
           refine hK21 _ ?_
           refine oW T_mHd81_ok ?_
           simp (maxSteps := 2000000) only [List.nodup_cons, List.nodup_nil, List.not_mem_nil, not_false_eq_true, hvl, go_sem]
           repeat (with_reducible first | refine oA ?_ | refine And.intro (by first | exact hfp | exact sLe) ?_)
           refine hK9 _ ?_
           refine oW T_mHd81_ok ?_
           simp only [go_sem]
           repeat (with_reducible first | refine oA ?_ | refine And.intro (by first | exact hfp | exact sLe) ?_)
           refine hL6 ⟨k + 1, by omega⟩ _ (oK ?_) ?_
           ·
            simp (maxSteps := 2000000) only [go_sem]
            all_goals (try simp only [hnx2])
            all_goals ((repeat' refine And.intro ?_ ?_) <;> first | rfl | trivial | exact wk (by omega) | omega | (simp; done) | (congr 1; done))
           ·
            first | (simp only []; omega) | omega | (simp; omega)
       refine oS fun K23 hK23 => ?_
       rcases hr4 : oneD 2 (u2, p2, q2) with ⟨v4, u4, p4, q4⟩
       have hs4 := oneD_at hs2 (by omega) hr4
       refine oW T_mHd81_ok ?_
       simp (maxSteps := 2000000) only [hr4, go_sem]
       repeat' (with_reducible first | refine oA ?_ | refine And.intro (by first | exact hfp | exact sLe) ?_ | refine oT (fun g14 => ?_) (fun g14 => ?_) | refine oE (fun g14 => ?_) (fun g14 => ?_))
       all_goals
        refine hK23 _ ?_
        refine AWP_cond rfl ?_ ?_
        ·
         intro c3
         try simp only [zA, zB, zC, zD, zE, zF, zG, zH, zI] at c3
         all_goals
          have hl22 : v2.length = 2 := by omega
          have hv4 : v4 = true := by assumption
          have hq : ((v2.set 0 (v2.getD 1 0)).set 1 (v2.getD 0 0), u4, p4, q4) = (v5, u5, p5, q5) := by rw [← hsw]; simp only [cpSwap, decide_eq_true hl22, bnd, hr4, hv4]
          simp only [Prod.mk.injEq] at hq
          obtain ⟨hq1, hq2, hq3, hq4⟩ := hq
          subst hq1 hq2 hq3 hq4
          refine oS fun K24 hK24 => ?_
          refine oW T_mHd81_ok ?_
          simp (maxSteps := 2000000) only [hl2, go_sem]
          repeat (with_reducible first | refine oA ?_ | refine And.intro (by first | exact hfp | exact sLe) ?_)
          refine hK24 _ ?_
          refine oS fun K25 hK25 => ?_
          refine oR T_mHd81_ok
            [[], [0], [], [2], [2, 3], [2, 3, 4], [0, 1, 2, 3, 4, 5], [0, 1, 2, 3, 4, 5, 6]]
            [[], [], [], [], [], [], [], []]
            [[], [], [], [], [], [], [], []] (by kernel_rfl) (by kernel_rfl) (adrawR_ok (acc := []) ?_)
          simp (maxSteps := 2000000) only [hl2, go_sem]
          repeat (with_reducible first | refine oD ?_ | refine And.intro (by first | exact hfp | exact sLe) ?_)
          refine hK25 _ ?_
          refine oW T_mHd81_ok ?_
          simp (maxSteps := 2000000) only [hl2, List.length_set, go_sem]
          repeat (with_reducible first | refine oA ?_ | refine And.intro (by first | exact hfp | exact sLe) ?_)
          refine hK20 _ (oK ?_) ?_
          ·
           simp (maxSteps := 2000000) only [go_sem]
           all_goals ((repeat' refine And.intro ?_ ?_) <;> first | rfl | trivial | exact wk (by omega) | omega | (simp; done) | (congr 1; done))
          ·
           trivial
        ·
         intro c3
         try simp only [zA, zB, zC, zD, zE, zF, zG, zH, zI] at c3
         all_goals
          first | (have hq : (v2, u4, p4, q4) = (v5, u5, p5, q5) := by (rw [← hsw]; simp only [cpSwap, decide_eq_true (show v2.length = 2 by omega), bnd, hr4, show v4 = false by assumption])) | (have hq : (v2, u2, p2, q2) = (v5, u5, p5, q5) := by (rw [← hsw]; simp only [cpSwap, decide_eq_false (show ¬ v2.length = 2 by omega)]))
          simp only [Prod.mk.injEq] at hq
          obtain ⟨hq1, hq2, hq3, hq4⟩ := hq
          subst hq1 hq2 hq3 hq4
          refine AWP_skip ?_
          simp only [go_sem]
          refine hK20 _ (oK ?_) ?_
          ·
           simp (maxSteps := 2000000) only [go_sem]
           all_goals ((repeat' refine And.intro ?_ ?_) <;> first | rfl | trivial | exact wk (by omega) | omega | (simp; done) | (congr 1; done))
          ·
           trivial
   ·
    intro c0
    try simp only [zA, zB, zC, zD, zE, zF, zG, zH, zI] at c0
    all_goals
     have hfin : (itI (cpStep ns) ns.length ns (cd, pt, sd)) = (v1, u1, p1, q1) := by
       rcases Nat.lt_or_ge k ns.length with h | h
       · have := cpSteps_full hit (show 24 ≤ v1.length by omega) (ns.length - k)
         rwa [show k + (ns.length - k) = ns.length by omega] at this
       · rwa [show k = ns.length by omega] at hit
     refine AWP_exit ?_
     simp only [go_sem]
     refine hK4 _ ?_
     refine oS fun K26 hK26 => ?_
     refine oS fun K27 hK27 => ?_
     refine oW T_mHd81_ok ?_
     simp only [go_sem]
     repeat (with_reducible first | refine oA ?_ | refine And.intro (by first | exact hfp | exact sLe) ?_)
     refine hK27 _ ?_
     refine AWP_block ?_
     refine AWP_loop_k (ι := { j : Nat // j ≤ os.length }) (fun k' => ⟨(.c (.po 30 0) :: zz :: zz :: zz :: .c (.po 164 0) :: .c (.po 180 0) :: .c (.sc (.int .i64 (ns.length))) :: zz :: zz :: zz :: zz :: zz :: .c (.sc (.int .i64 (k'.1))) :: zz :: zz :: zz :: zz :: zz :: zz :: zz :: zz :: zz :: zz :: zz :: zz :: zz :: zz :: zz :: zz :: zz :: zz :: zz :: zz :: zz :: zz :: zz :: zz :: zz :: zz :: zz :: zz :: zz :: zz :: zz :: zz :: zz :: zz :: zz :: zz :: zz :: zz :: zz :: zz :: zz :: zz :: zz :: zz :: zz :: zz :: zz :: zz :: zz :: zz :: zz :: zz :: zz :: zz :: zz :: zz :: zz :: zz :: zz :: zz :: zz :: zz :: zz :: zz :: zz :: zz :: zz :: zz :: zz :: zz :: zz :: zz :: zz :: zz :: zz :: zz :: zz :: zz :: zz :: zz :: zz :: zz :: zz :: zz :: zz :: zz :: zz :: zz :: zz :: zz :: zz :: zz :: zz :: zz :: zz :: zz :: zz :: zz :: zz :: zz :: zz :: zz :: zz :: zz :: zz :: zz :: zz :: zz :: zz :: zz :: zz :: zz :: zz :: zz :: zz :: zz :: zz :: zz :: zz :: zz :: zz :: zz :: zz :: zz :: zz :: []), [(30, .box [.rd [] 5 (.int .u8) ((itI (cpIx (ns.length : Int) (v1.length : Int)) k'.1 os (u1, p1, q1)).2.1), .sc (.int .i64 ((itI (cpIx (ns.length : Int) (v1.length : Int)) k'.1 os (u1, p1, q1)).2.2.1)), .sc (.int .u64 ((itI (cpIx (ns.length : Int) (v1.length : Int)) k'.1 os (u1, p1, q1)).2.2.2))]), (164, .box [.sc (.int .i64 (0)), .sc (.slice none 0 0), .sc (.slice none 0 0), .sc (.slice none 0 0)]), (180, .box [.sc (.int .i64 (pi)), .ow 9001, .ow 9002, .ow 9003]), (9001, .tree 26 (.row 2 (.int .i64)) (ts) none), (9002, .tree 90 (.prod (.int .i64) (.prod (.int .i64) (.prod (.int .i64) (.row 2 (.int .i64))))) (v1) none), (9003, .row 2 (.int .i64) ((itI (cpIx (ns.length : Int) (v1.length : Int)) k'.1 os (u1, p1, q1)).1) [])]⟩) (fun k' => os.length - k'.1) ⟨0, by simp⟩ ?_ ?_
     ·
      refine oK ?_
      simp (maxSteps := 2000000) only [go_sem]
      all_goals ((repeat' refine And.intro ?_ ?_) <;> first | rfl | trivial | exact wk (by omega) | omega | (simp; done) | (congr 1; done))
     rintro ⟨j, hj⟩ K28 hL28
     rcases hio : itI (cpIx (ns.length : Int) (v1.length : Int)) j os (u1, p1, q1) with ⟨v6, u6, p6, q6⟩
     have hs6 := (Cost.itI (cpIx_cost (ns.length : Int) (v1.length : Int)) j os).at hs1 (by omega) hio
     have hl6 : v6.length = os.length := cpIx_lens hio
     refine oS fun K29 hK29 => ?_
     refine oS fun K30 hK30 => ?_
     refine oW T_mHd81_ok ?_
     simp (maxSteps := 2000000) only [go_sem]
     repeat (with_reducible first | refine oA ?_ | refine And.intro (by first | exact hfp | exact sLe) ?_)
     refine hK30 _ ?_
     refine AWP_cond rfl ?_ ?_
     ·
      intro c5
      try simp only [zA, zB, zC, zD, zE, zF, zG, zH, zI] at c5
      all_goals
       have hj1 : j < os.length := by omega
       have hix := idxs_at hos (getD_mem (d := (0 : Int)) hj1)
       have hvm : v6.getD j 0 = os.getD j 0 := cpIx_rest hio j (Nat.le_refl _)
       have hw : IntKind.i64.wrap (v6.getD j 0 + (ns.length : Int)) = v6.getD j 0 + (ns.length : Int) := wrapI (by omega)
       refine AWP_skip ?_
       simp only [go_sem]
       refine hK29 _ ?_
       refine oS fun K31 hK31 => ?_
       refine AWP_block ?_
       refine oS fun K32 hK32 => ?_
       rcases hr7 : oneD 2 (u6, p6, q6) with ⟨v7, u7, p7, q7⟩
       have hs7 := oneD_at hs6 (by omega) hr7
       refine oR T_mHd81_ok
         [[], [0], [0, 1], [0, 1, 2], [0, 1, 2, 3], [0, 1, 2], [0, 1, 2, 3, 4, 5], [0, 1, 2, 3, 4, 5, 6], [0, 1, 2], [0, 1, 2, 3, 4, 5, 6, 7, 8], [0, 1, 2], [0, 1, 2, 10], [0, 1, 2, 10, 11], [0, 1, 2, 3, 4, 5, 6, 7, 8, 9, 10, 11, 12], [0, 1, 2, 3, 4, 5, 6, 7, 8, 9, 10, 11, 12, 13]]
         [[], [], [], [], [], [], [], [], [], [], [], [], [], [], []]
         [[], [], [], [], [], [], [], [], [], [], [], [], [], [], []] (by kernel_rfl) (by kernel_rfl) (adrawR_ok (acc := []) ?_)
       simp (maxSteps := 2000000) only [hr7, hl6, hw, go_sem]
       repeat' (with_reducible first | refine oD ?_ | refine And.intro (by first | exact hfp | exact sLe) ?_ | refine oT (fun g24 => ?_) (fun g24 => ?_) | refine oE (fun g24 => ?_) (fun g24 => ?_))
       all_goals
        refine hK32 _ ?_
        refine AWP_cond rfl ?_ ?_
        ·
         intro c6
         try simp only [zA, zB, zC, zD, zE, zF, zG, zH, zI] at c6
         all_goals
          have hno : (itI (cpIx (ns.length : Int) (v1.length : Int)) (j + 1) os (u1, p1, q1)) = (v6.set j (v6.getD j 0 + (ns.length : Int)), u7, p7, q7) := (itI_succ hio).trans (by simp only [cpIx, bnd, hr7, show v7 = true by assumption, decide_eq_true (show v6.getD j 0 + (ns.length : Int) < (v1.length : Int) by omega), Bool.and_self])
          refine oW T_mHd81_ok ?_
          simp (maxSteps := 2000000) only [hl6, hw, go_sem]
          repeat (with_reducible first | refine oA ?_ | refine And.intro (by first | exact hfp | exact sLe) ?_)
          refine hK31 _ ?_
          refine oW T_mHd81_ok ?_
          simp only [go_sem]
          repeat (with_reducible first | refine oA ?_ | refine And.intro (by first | exact hfp | exact sLe) ?_)
          refine hL28 ⟨j + 1, by omega⟩ _ (oK ?_) ?_
          ·
           simp (maxSteps := 2000000) only [go_sem]
           all_goals (try simp only [hno])
           all_goals ((repeat' refine And.intro ?_ ?_) <;> first | rfl | trivial | exact wk (by omega) | omega | (simp; done) | (congr 1; done))
          ·
           first | (simp only []; omega) | omega | (simp; omega)
        ·
         intro c6
         try simp only [zA, zB, zC, zD, zE, zF, zG, zH, zI] at c6
         all_goals
          have hno : (itI (cpIx (ns.length : Int) (v1.length : Int)) (j + 1) os (u1, p1, q1)) = (v6, u7, p7, q7) := (itI_succ hio).trans (by simp only [cpIx, bnd, hr7]; first | (rw [show v7 = false by assumption]; rfl) | (rw [decide_eq_false (show ¬ v6.getD j 0 + (ns.length : Int) < (v1.length : Int) by omega), Bool.and_false]))
          refine AWP_skip ?_
          simp only [go_sem]
          refine hK31 _ ?_
          refine oW T_mHd81_ok ?_
          simp only [go_sem]
          repeat (with_reducible first | refine oA ?_ | refine And.intro (by first | exact hfp | exact sLe) ?_)
          refine hL28 ⟨j + 1, by omega⟩ _ (oK ?_) ?_
          ·
           simp (maxSteps := 2000000) only [go_sem]
           all_goals (try simp only [hno])
           all_goals ((repeat' refine And.intro ?_ ?_) <;> first | rfl | trivial | exact wk (by omega) | omega | (simp; done) | (congr 1; done))
          ·
           first | (simp only []; omega) | omega | (simp; omega)
     ·
      intro c5
      try simp only [zA, zB, zC, zD, zE, zF, zG, zH, zI] at c5
      all_goals
       obtain rfl : j = os.length := by omega
       refine AWP_exit ?_
       simp only [go_sem]
       refine hK26 _ ?_
       refine oS fun K33 hK33 => ?_
       refine oW T_mHd81_ok ?_
       simp only [List.nodup_cons, List.nodup_nil, List.not_mem_nil, not_false_eq_true, go_sem]
       repeat (with_reducible first | refine oA ?_ | refine And.intro (by first | exact hfp | exact sLe) ?_)
       refine hK33 _ ?_
       refine AWP_ret ?_
       simp only [hres, go_sem]
       first
        | exact oG
        | refine ⟨oG, ?_⟩
          simp only [copyD, bnd, hfin, hio]
          try ((repeat' refine And.intro ?_ ?_) <;> first | rfl | trivial | (congr 1; done))
def T_l12Copy : Tab := fun f => if f = 101 then some (.g K_l12Copy) else T_mHd81 f
theorem T_l12Copy_ok : TabOk Tryz.prog T_l12Copy := tabG l12Copy_ok (fnOk_of Tryz.func101 rfl (by decide)) T_mHd81_ok
attribute [go_sem] T_l12Copy K_l12Copy

def K_l12Draw : GCon where
  ps := [.po 0]
  os := [.box [.rd ((.row 5 (.int .u8))), .rd (.int .i64), .rd (.int .u64)]]
  c := fun x => srcOk 1700 (x.2.1.1, x.2.1.2.1, x.2.1.2.2.1)
  r := fun x => .agg [.sc (.int .i64 (clsD (x.2.1.1, x.2.1.2.1, x.2.1.2.2.1)).1.1), .rd [] 26 ((.row 2 (.int .i64))) ((clsD (x.2.1.1, x.2.1.2.1, x.2.1.2.2.1)).1.2.1), .rd [] 90 ((.prod (.int .i64) (.prod (.int .i64) (.prod (.int .i64) (.row 2 (.int .i64)))))) ((clsD (x.2.1.1, x.2.1.2.1, x.2.1.2.2.1)).1.2.2.1), .rd [] 2 (.int .i64) ((clsD (x.2.1.1, x.2.1.2.1, x.2.1.2.2.1)).1.2.2.2)]
  o := fun x => [(30, .box [.rd [] 5 (.int .u8) ((clsD (x.2.1.1, x.2.1.2.1, x.2.1.2.2.1)).2.1), .sc (.int .i64 ((clsD (x.2.1.1, x.2.1.2.1, x.2.1.2.2.1)).2.2.1)), .sc (.int .u64 ((clsD (x.2.1.1, x.2.1.2.1, x.2.1.2.2.1)).2.2.2))])]
  ok := by
    rintro ⟨⟨_, _⟩, ⟨⟨(cd : List Int), (pt : Int), (sd : Int), _⟩, _⟩⟩
    exact ⟨rfl, rfl, by decide⟩
theorem l12Draw_ok : GenT Tryz.prog 46 K_l12Draw := by
  refine gen_of_body Tryz.func46 rfl ?_
  have hres : Tryz.f46.results.toList = [.cell 2 28] := rfl
  rintro ⟨⟨_, _⟩, ⟨⟨(cd : List Int), (pt : Int), (sd : Int), _⟩, _⟩⟩ hc hL hO
  simp only [K_l12Draw, go_sem] at hL
  simp only [K_l12Draw, go_sem] at hO
  simp only [K_l12Draw, St.init, St.initG, Tryz.ntmps46, go_sem] 
  have hs0 : srcOk 1700 (cd, pt, sd) := hc
  rcases hr1 : l07B (cd, pt, sd) with ⟨⟨pi, ts, ns, os⟩, u1, p1, q1⟩
  have hs1 := l07B_cost.at hs0 (by omega) hr1
  rcases hr2 : oneD 4 (u1, p1, q1) with ⟨v2, u2, p2, q2⟩
  have hs2 := oneD_at hs1 (by omega) hr2
  refine oS fun K1 hK1 => ?_
  refine oW T_l12Copy_ok ?_
  simp only [go_sem]
  repeat (with_reducible first | refine oA ?_ | refine And.intro (by first | exact sLe | exact ⟨hs2.le (by omega), by assumption⟩) ?_)
  refine hK1 _ ?_
  refine oS fun K2 hK2 => ?_
  refine oW T_l12Copy_ok ?_
  simp only [List.nodup_cons, List.nodup_nil, List.not_mem_nil, not_false_eq_true, hr1, go_sem]
  repeat (with_reducible first | refine oA ?_ | refine And.intro (by first | exact sLe | exact ⟨hs2.le (by omega), by assumption⟩) ?_)
  refine hK2 _ ?_
  refine oS fun K3 hK3 => ?_
  refine oS fun K4 hK4 => ?_
  refine AWP_wk (Wk_freeB _ 180 (by decide)) ?_
  simp (maxSteps := 2000000) only [go_sem]
  refine AWP_wk (Wk_freeB _ 181 (by decide)) ?_
  simp (maxSteps := 2000000) only [go_sem]
  refine AWP_wk (Wk_freeR _ 182 (by decide)) ?_
  simp (maxSteps := 2000000) only [go_sem]
  refine oW T_l12Copy_ok ?_
  simp (maxSteps := 2000000) only [hr2, go_sem]
  repeat' (with_reducible first | refine oA ?_ | refine And.intro (by first | exact sLe | exact ⟨hs2.le (by omega), by assumption⟩) ?_ | refine oT (fun g2 => ?_) (fun g2 => ?_) | refine oE (fun g2 => ?_) (fun g2 => ?_))
  all_goals
   refine hK4 _ ?_
   refine AWP_cond rfl ?_ ?_
   ·
    intro c0
    try simp only [zA, zB, zC, zD, zE, zF, zG, zH, zI] at c0
    all_goals
     refine oS fun K5 hK5 => ?_
     refine oW T_l12Copy_ok ?_
     simp only [go_sem]
     repeat (with_reducible first | refine oA ?_ | refine And.intro (by first | exact sLe | exact ⟨hs2.le (by omega), by assumption⟩) ?_)
     refine hK5 _ ?_
     refine AWP_ret ?_
     simp only [hres, go_sem]
     first | exact oG | (refine ⟨oG, ?_⟩; first | (rw [clsD_f hr1 (by assumption)]; done) | (rw [clsD_1 hr1 (by assumption) (show oneD 4 _ = (true, u2, p2, q2) by rw [hr2, show v2 = true by assumption])]; done) | (rw [clsD_f hr1 (by assumption)]; exact ⟨rfl, rfl⟩) | (rw [clsD_1 hr1 (by assumption) (show oneD 4 _ = (true, u2, p2, q2) by rw [hr2, show v2 = true by assumption])]; exact ⟨rfl, rfl⟩) | (simp only [clsD_f hr1 (by assumption)]; ((repeat' refine And.intro ?_ ?_) <;> first | rfl | trivial | (congr 1; done))) | (simp only [clsD_1 hr1 (by assumption) (show oneD 4 _ = (true, u2, p2, q2) by rw [hr2, show v2 = true by assumption])]; ((repeat' refine And.intro ?_ ?_) <;> first | rfl | trivial | (congr 1; done))))
   ·
    intro c0
    try simp only [zA, zB, zC, zD, zE, zF, zG, zH, zI] at c0
    all_goals
     refine AWP_skip ?_
     simp only [go_sem]
     refine hK3 _ ?_
     refine oS fun K6 hK6 => ?_
     refine oW T_l12Copy_ok ?_
     simp only [List.nodup_cons, List.nodup_nil, List.not_mem_nil, not_false_eq_true, go_sem]
     repeat (with_reducible first | refine oA ?_ | refine And.intro (by first | exact sLe | exact ⟨hs2.le (by omega), by assumption⟩) ?_)
     refine hK6 _ ?_
     refine AWP_wk (Wk_freeB _ 324 (by decide)) ?_
     simp (maxSteps := 2000000) only [go_sem]
     refine AWP_wk (Wk_freeB _ 325 (by decide)) ?_
     simp (maxSteps := 2000000) only [go_sem]
     refine AWP_wk (Wk_freeR _ 326 (by decide)) ?_
     simp (maxSteps := 2000000) only [go_sem]
     refine AWP_ret ?_
     simp only [hres, go_sem]
     first
      | exact oG
      | refine ⟨oG, ?_⟩
        simp only [clsD_2 hr1 (by assumption) (show oneD 4 _ = (false, u2, p2, q2) by rw [hr2, show v2 = false by assumption])]
        try ((repeat' refine And.intro ?_ ?_) <;> first | rfl | trivial | (congr 1; done))
def T_l12Draw : Tab := fun f => if f = 46 then some (.g K_l12Draw) else T_l12Copy f
theorem T_l12Draw_ok : TabOk Tryz.prog T_l12Draw := tabG l12Draw_ok (fnOk_of Tryz.func46 rfl (by decide)) T_l12Copy_ok
attribute [go_sem] T_l12Draw K_l12Draw

def K_drawCls : Con := ⟨[.val ((.row 5 (.int .u8)))], [⟨(.prod (.int .i64) (.prod (.row 26 (.row 2 (.int .i64))) (.prod (.row 90 (.prod (.int .i64) (.prod (.int .i64) (.prod (.int .i64) (.row 2 (.int .i64)))))) (.row 2 (.int .i64))))), false⟩], fun x => ∀ b ∈ (x.1 : List Int), 0 ≤ b ∧ b ≤ 255, fun x => clsC x.1⟩
theorem drawCls_ok : PureT Tryz.prog 9 K_drawCls := by
  refine pure_of_body Tryz.func9 rfl ?_
  have hres : Tryz.f9.results.toList = [.cell 2 28] := rfl
  rintro ⟨(cd : List Int), _⟩ hc hL
  simp only [K_drawCls, go_sem] at hL
  simp only [K_drawCls, St.init, St.initG, Tryz.ntmps9, go_sem] 
  have hcd : ∀ b ∈ cd, 0 ≤ b ∧ b ≤ 255 := hc
  have hs0 : srcOk 3000 (cd, 0, 0) := ⟨hcd, by simp, by simp⟩
  refine oS fun K1 hK1 => ?_
  refine oW T_l12Draw_ok ?_
  simp only [go_sem]
  repeat (with_reducible first | refine oA ?_ | refine And.intro (by first | exact sLe) ?_)
  refine hK1 _ ?_
  refine oS fun K2 hK2 => ?_
  refine oW T_l12Draw_ok ?_
  simp only [go_sem]
  repeat (with_reducible first | refine oA ?_ | refine And.intro (by first | exact sLe) ?_)
  refine hK2 _ ?_
  refine oS fun K3 hK3 => ?_
  refine oW T_l12Draw_ok ?_
  simp only [List.nodup_cons, List.nodup_nil, List.not_mem_nil, not_false_eq_true, go_sem]
  repeat (with_reducible first | refine oA ?_ | refine And.intro (by first | exact sLe) ?_)
  refine hK3 _ ?_
  refine AWP_ret ?_
  simp only [hres, go_sem]
  first | exact oF | exact oFr
def T_drawCls : Tab := fun f => if f = 9 then some (.p K_drawCls) else T_l12Draw f
theorem T_drawCls_ok : TabOk Tryz.prog T_drawCls := tabP drawCls_ok (fnOk_of Tryz.func9 rfl (by decide)) T_l12Draw_ok
attribute [go_sem] T_drawCls K_drawCls

end Go.Proofs.YtflaacndokbddaaGreat
