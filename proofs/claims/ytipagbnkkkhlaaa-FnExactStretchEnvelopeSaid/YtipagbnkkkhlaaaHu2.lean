/-
  Contracts of functions: StretchEnvelope$1, StretchEnvelope.
-/
import Derived.Test.YtipagbnkkkhlaaaHu1
namespace Go.Proofs.Ytipagbnkkkhlaaa
open Go.RowKit
set_option linter.unusedSimpArgs false
set_option linter.unusedVariables false

def K_stretch : GCon where
  ps := [.val (.int .i64), .po 0]
  os := [.box [.rd (.int .i64), .rd (.int .i64)]]
  c := fun x => 0 < x.2.1.2.1
  r := fun x => .c (.sc (.int .i64 (strV (x.2.1.1, x.2.1.2.1) x.1.1)))
  o := fun x => [(30, .box [.sc (.int .i64 x.2.1.1), .sc (.int .i64 x.2.1.2.1)])]
  ok := by
    rintro ⟨⟨(x : Int), _⟩, ⟨⟨(fn : Int), (fd : Int), _⟩, _⟩⟩
    exact ⟨rfl, rfl, by decide⟩
set_option maxRecDepth 100000 in
set_option maxHeartbeats 1000000 in
theorem stretch_ok : GenT Try.prog 19 K_stretch := by
  refine gen_of_body Try.func19 rfl ?_
  have hres : Try.f19.results.toList = [.tmp 3] := rfl
  rintro ⟨⟨(x : Int), _⟩, ⟨⟨(fn : Int), (fd : Int), _⟩, _⟩⟩ hc hL hO
  simp only [K_stretch, lensOk, PK.lenOk, glensOk, GP.lenOk, flensOk, GO.lenOk, olensOk, Ty.lenOk, Ty.flat, Bool.and_true, Bool.true_and, Bool.and_false, Bool.false_and, true_and, and_true, implies_true, forall_const] at hL
  simp only [K_stretch, lensOk, PK.lenOk, glensOk, GP.lenOk, flensOk, GO.lenOk, olensOk, Ty.lenOk, Ty.flat, Bool.and_true, Bool.true_and, Bool.and_false, Bool.false_and, true_and, and_true, implies_true, forall_const] at hO
  simp only [K_stretch, St.init, St.initG, Try.ntmps19, go_sem] 
  have hd : 0 < fd := hc
  obtain ⟨hq1, hq2⟩ := wrap_rng (x * fn)
  refine AWP_seq_k fun K1 hK1 => ?_
  refine AWP_region (G := G) (T := T_l14Ok) T_l14Ok_ok ?_
  simp only [go_sem]
  repeat (with_reducible refine And.intro (by first | omega | exact ⟨rfl, by omega, by omega, by omega⟩ | exact ⟨hd, hq1, hq2⟩) ?_)
  refine hK1 _ ?_
  refine AWP_seq_k fun K2 hK2 => ?_
  refine AWP_region (G := G) (T := T_l14Ok) T_l14Ok_ok ?_
  simp (maxSteps := 2000000) only [go_sem]
  repeat (with_reducible refine And.intro (by first | omega | exact ⟨rfl, by omega, by omega, by omega⟩ | exact ⟨hd, hq1, hq2⟩) ?_)
  refine hK2 _ ?_
  refine AWP_ret ?_
  simp only [hres, go_sem]
  first
    | exact finOkG_mk (by rfl)
    | refine ⟨finOkG_mk (by rfl), ?_⟩
      (repeat' refine And.intro ?_ ?_) <;> first | rfl | (congr 1; done)

theorem stretch_fn : FnOk Try.prog 19 := fnOk_of Try.func19 rfl (by decide)

def T_stretch : Tab := fun f => if f = 19 then some (.g K_stretch) else T_l14Ok f
theorem T_stretch_ok : TabOk Try.prog T_stretch := fun f k h => by
  unfold T_stretch at h
  split at h
  · rename_i e; cases h; subst e; exact ⟨stretch_ok, stretch_fn⟩
  · exact T_l14Ok_ok f k h
attribute [go_sem] T_stretch K_stretch


def K_implStr : Con := ⟨[.val ((.prod (.int .i64) (.prod (.row 45 (.prod (.int .i64) (.int .i64))) (.int .i64)))), .val ((.prod (.int .i64) (.int .i64)))], [⟨(.prod (.int .i64) (.prod (.row 45 (.prod (.int .i64) (.int .i64))) (.int .i64))), true⟩, ⟨.int .i64, true⟩], fun _ => True, fun x => strR x.1 x.2.1⟩
set_option maxRecDepth 100000 in
set_option maxHeartbeats 8000000 in
theorem implStr_ok : PureT Try.prog 8 K_implStr := by
  refine pure_of_body Try.func8 rfl ?_
  have hres : Try.f8.results.toList = [.cell 4 30, .tmp 5] := rfl
  rintro ⟨⟨(st : Int), (sg : List (Int × Int)), (rl : Int)⟩, ⟨(fn : Int), (fd : Int)⟩, _⟩ hc hL
  simp only [K_implStr, lensOk, PK.lenOk, glensOk, GP.lenOk, flensOk, GO.lenOk, olensOk, Ty.lenOk, Ty.flat, Bool.and_true, Bool.true_and, Bool.and_false, Bool.false_and, true_and, and_true, implies_true, forall_const] at hL
  simp only [K_implStr, St.init, St.initG, Try.ntmps8, go_sem] 
  refine AWP_seq_k fun K1 hK1 => ?_
  refine AWP_region (G := G) (T := T_stretch) T_stretch_ok ?_
  simp only [go_sem]
  refine hK1 _ ?_
  refine AWP_seq_k fun K2 hK2 => ?_
  refine AWP_seq_k fun K3 hK3 => ?_
  refine AWP_region (G := G) (T := T_stretch) T_stretch_ok ?_
  simp (maxSteps := 2000000) only [go_sem]
  repeat' (first | (with_reducible refine And.intro (by first | omega | exact ⟨rfl, by omega, by omega, by omega⟩) ?_) | (with_reducible refine gcase_dt (fun g1 => ?_) (fun g1 => ?_)) | (with_reducible refine gcase_df (fun g1 => ?_) (fun g1 => ?_)) | (with_reducible refine gcase_ndt (fun g1 => ?_) (fun g1 => ?_)) | (with_reducible refine gcase_ndf (fun g1 => ?_) (fun g1 => ?_)) | (with_reducible refine gcase_nt (fun g1 => ?_) (fun g1 => ?_)) | (with_reducible refine gcase_nf (fun g1 => ?_) (fun g1 => ?_)) | (with_reducible refine gcase_mk (fun g1 => ?_) (fun g1 => ?_)))
  all_goals
   refine hK3 _ ?_
   refine AWP_cond rfl ?_ ?_
   ·
    intro c0
    try simp only [decide_eq_true_eq, decide_eq_false_iff_not, Bool.not_eq_true', Bool.not_eq_false', ne_eq, Int.not_lt, Int.not_le, Bool.true_eq_false, Bool.false_eq_true] at c0
    all_goals
     refine AWP_seq_k fun K4 hK4 => ?_
     refine AWP_region (G := G) (T := T_stretch) T_stretch_ok ?_
     simp only [go_sem]
     repeat (with_reducible refine And.intro (by first | omega | exact ⟨rfl, by omega, by omega, by omega⟩) ?_)
     refine hK4 _ ?_
     refine AWP_ret ?_
     simp only [hres, go_sem]
     first
       | exact finOk_mk (by rfl) (by decide)
       | refine ⟨?_, finOk_mk (by rfl) (by decide)⟩
         have hq : (envB (st, sg, rl) && frB fn fd) = false := by first | (rw [show envB (st, sg, rl) = false by assumption]; rfl) | (rw [show frB fn fd = false by assumption, Bool.and_false])
         exact (strR_1 (e := (st, sg, rl)) (f := (fn, fd)) hq).symm
   ·
    intro c0
    try simp only [decide_eq_true_eq, decide_eq_false_iff_not, Bool.not_eq_true', Bool.not_eq_false', ne_eq, Int.not_lt, Int.not_le, Bool.true_eq_false, Bool.false_eq_true] at c0
    all_goals
     have he : envB (st, sg, rl) = true := by assumption
     have hf : frB fn fd = true := by assumption
     have hq : (envB (st, sg, rl) && frB fn fd) = true := by rw [he, hf]; rfl
     obtain ⟨hd1, hd2, _⟩ := frB_bd hf
     have hd : 0 < fd := by omega
     have hsl : sg.length ≤ 8 := (envB_parts he).2.2.2
     obtain ⟨hr1, hr2⟩ := wrap_rng (rl * fn)
     refine AWP_skip ?_
     simp only [go_sem]
     refine hK2 _ ?_
     refine AWP_seq_k fun K5 hK5 => ?_
     refine AWP_region (G := G) (T := T_stretch) T_stretch_ok ?_
     simp only [go_sem]
     repeat (with_reducible refine And.intro (by first | omega | exact ⟨rfl, by omega, by omega, by omega⟩) ?_)
     refine hK5 _ ?_
     refine AWP_seq_k fun K6 hK6 => ?_
     refine AWP_draw (G := G) (T := T_stretch) T_stretch_ok mixed
       [[], [0], [], [], [3], [2, 3, 4], [0, 1, 2, 3, 4, 5], [], [0, 1, 2, 3, 4, 5, 6, 7]]
       [[148, 212, 500, 501, 502, 503, 504, 505, 506, 507, 508, 509, 510, 511, 512, 513, 514, 515], [148, 212, 500, 501, 502, 503, 504, 505, 506, 507, 508, 509, 510, 511, 512, 513, 514, 515], [212], [212], [212], [212], [212], [148, 500, 501, 502, 503, 504, 505, 506, 507, 508, 509, 510, 511, 512, 513, 514, 515], []]
       [[], [], [], [], [], [148, 500, 501, 502, 503, 504, 505, 506, 507, 508, 509, 510, 511, 512, 513, 514, 515], [], [212], []] (by kernel_rfl) (by kernel_rfl) (adrawR_ok (acc := []) ?_)
     simp (maxSteps := 2000000) only [Try.underlying48, go_sem]
     repeat (with_reducible refine And.intro (by first | exact chk_leaf (by kernel_rfl) | omega | exact ⟨rfl, by omega, by omega, by omega⟩ | exact hd) ?_)
     refine hK6 _ ?_
     refine AWP_seq_k fun K7 hK7 => ?_
     refine AWP_seq_k fun K8 hK8 => ?_
     refine AWP_region (G := G) (T := T_stretch) T_stretch_ok ?_
     simp only [go_sem]
     repeat (with_reducible refine And.intro (by first | omega | exact ⟨rfl, by omega, by omega, by omega⟩) ?_)
     refine hK8 _ ?_
     refine AWP_block ?_
     refine AWP_wk (Wk_nilBox _ 212 1 9001 45 ((.prod (.int .i64) (.int .i64))) (by decide)) ?_
     simp (maxSteps := 2000000) only [go_sem]
     refine AWP_loop_k (ι := { k : Nat // k ≤ sg.length }) (fun k => ⟨[zz, zz, .c (.po 132 0), .c (.po 148 0), .c (.po 164 0), zz, .c (.fn 19 [148]), .c (.po 212 0), zz, zz, zz, zz, zz, zz, zz, zz, zz, zz, zz, zz, zz, zz, zz, zz, zz, zz, zz, zz, .c (.rd [] 45 ((.prod (.int .i64) (.int .i64))) (sg)), .c (.sc (.int .i64 (sg.length))), .c (.sc (.int .i64 (k.1))), zz, zz, zz, zz, zz, zz, zz, zz, zz, zz, zz, zz, zz, zz, zz, zz, zz, zz, zz, zz, zz], [(132, .box [.sc (.int .i64 (st)), .rd [] 45 ((.prod (.int .i64) (.int .i64))) (sg), .sc (.int .i64 (rl))]), (148, .box [.sc (.int .i64 (fn)), .sc (.int .i64 (fd))]), (164, .box [.sc (.int .i64 (0)), .sc (.slice none 0 0), .sc (.int .i64 (0))]), (212, .box [.sc (.int .i64 (st)), .ow 9001, .sc (.int .i64 (strV (fn, fd) rl))]), (9001, .row 45 ((.prod (.int .i64) (.int .i64))) ((sg.take k.1).map (strS (fn, fd))) [])]⟩) (fun k => sg.length - k.1) ⟨0, by simp⟩ ?_ ?_
     ·
      refine Wk_to (by rfl) ?_
      simp (maxSteps := 2000000) only [go_sem]
      all_goals ((repeat' refine And.intro ?_ ?_) <;> first | rfl | (congr 1; done) | (simp; done))
     rintro ⟨k, hk⟩ K9 hL9
     have hml : ((sg.take k).map (strS (fn, fd))).length ≤ 8 := by rw [List.length_map, List.length_take]; omega
     have hnx : k < sg.length → (sg.take k).map (strS (fn, fd)) ++ [(strS (fn, fd)) (sg.getD k ((0, 0) : Int × Int))] = (sg.take (k + 1)).map (strS (fn, fd)) := fun h => map_next3 _ h
     obtain ⟨hs1, hs2⟩ := wrap_rng ((sg.getD k ((0, 0) : Int × Int)).1 * fn)
     refine AWP_seq_k fun K10 hK10 => ?_
     refine AWP_region (G := G) (T := T_stretch) T_stretch_ok ?_
     simp only [go_sem]
     refine hK10 _ ?_
     refine AWP_seq_k fun K11 hK11 => ?_
     refine AWP_cond rfl ?_ ?_
     ·
      intro c1
      try simp only [decide_eq_true_eq, decide_eq_false_iff_not, Bool.not_eq_true', Bool.not_eq_false', ne_eq, Int.not_lt, Int.not_le, Bool.true_eq_false, Bool.false_eq_true] at c1
      all_goals
       refine AWP_skip ?_
       simp only [go_sem]
       refine hK11 _ ?_
       refine AWP_seq_k fun K12 hK12 => ?_
       refine AWP_block ?_
       refine AWP_seq_k fun K13 hK13 => ?_
       refine AWP_region (G := G) (T := T_stretch) T_stretch_ok ?_
       simp only [go_sem]
       repeat (with_reducible refine And.intro (by first | omega | exact ⟨rfl, by omega, by omega, by omega⟩) ?_)
       refine hK13 _ ?_
       refine AWP_draw (G := G) (T := T_stretch) T_stretch_ok mixed
         [[], [0], [], [], [3], [2, 3, 4], [], [6], [2, 3, 4, 5, 6, 7], [2, 3, 4, 5, 6, 7, 8], [0, 1, 2, 3, 4, 5, 6, 7, 8, 9], [0, 1, 2, 3, 4, 5, 6, 7, 8, 9, 10], [0, 1, 2, 3, 4, 5, 6, 7, 8, 9, 10, 11]]
         [[148, 724, 725, 726, 727, 728, 729, 730, 731, 732, 733, 734, 735, 736, 737, 738, 739, 788], [148, 724, 725, 726, 727, 728, 729, 730, 731, 732, 733, 734, 735, 736, 737, 738, 739, 788], [], [], [], [], [148, 724, 725, 726, 727, 728, 729, 730, 731, 732, 733, 734, 735, 736, 737, 738, 739], [148, 724, 725, 726, 727, 728, 729, 730, 731, 732, 733, 734, 735, 736, 737, 738, 739], [], [], [], [], []]
         [[], [], [], [], [], [148, 724, 725, 726, 727, 728, 729, 730, 731, 732, 733, 734, 735, 736, 737, 738, 739], [], [], [], [788], [], [], []] (by kernel_rfl) (by kernel_rfl) (adrawR_ok (acc := []) ?_)
       simp (maxSteps := 2000000) only [Try.underlying48, go_sem]
       repeat (with_reducible refine And.intro (by first | exact chk_leaf (by kernel_rfl) | omega | exact ⟨rfl, by omega, by omega, by omega⟩ | exact hd) ?_)
       refine hK12 _ ?_
       refine AWP_region (G := G) (T := T_stretch) T_stretch_ok ?_
       simp only [go_sem]
       refine hL9 ⟨k + 1, by omega⟩ _ (Wk_to (by rfl) ?_) ?_
       ·
        simp (maxSteps := 2000000) only [go_sem]
        all_goals ((repeat' refine And.intro ?_ ?_) <;> first | rfl | exact wk (by omega) | (congr 1; exact hnx (by omega)) | exact hnx (by omega))
       ·
        first | (simp only []; omega) | omega | (simp; omega)
     ·
      intro c1
      try simp only [decide_eq_true_eq, decide_eq_false_iff_not, Bool.not_eq_true', Bool.not_eq_false', ne_eq, Int.not_lt, Int.not_le, Bool.true_eq_false, Bool.false_eq_true] at c1
      all_goals
       refine AWP_exit ?_
       simp only [go_sem]
       refine hK7 _ ?_
       refine AWP_seq_k fun K14 hK14 => ?_
       refine AWP_seq_k fun K15 hK15 => ?_
       refine AWP_region (G := G) (T := T_stretch) T_stretch_ok ?_
       simp only [go_sem]
       repeat (with_reducible refine And.intro (by first | omega | exact ⟨rfl, by omega, by omega, by omega⟩) ?_)
       refine hK15 _ ?_
       refine AWP_cond rfl ?_ ?_
       ·
        intro c2
        try simp only [decide_eq_true_eq, decide_eq_false_iff_not, Bool.not_eq_true', Bool.not_eq_false', ne_eq, Int.not_lt, Int.not_le, Bool.true_eq_false, Bool.false_eq_true] at c2
        all_goals
         refine AWP_seq_k fun K16 hK16 => ?_
         refine AWP_region (G := G) (T := T_stretch) T_stretch_ok ?_
         simp only [go_sem]
         repeat (with_reducible refine And.intro (by first | omega | exact ⟨rfl, by omega, by omega, by omega⟩) ?_)
         refine hK16 _ ?_
         refine AWP_ret ?_
         simp only [hres, go_sem]
         first
           | exact finOk_mk (by rfl) (by decide)
           | refine ⟨?_, finOk_mk (by rfl) (by decide)⟩
             have hk3 : sg.take k = sg := List.take_of_length_le (by omega)
             rw [hk3] at c2
             exact (strR_2 (e := (st, sg, rl)) (f := (fn, fd)) hq c2).symm
       ·
        intro c2
        try simp only [decide_eq_true_eq, decide_eq_false_iff_not, Bool.not_eq_true', Bool.not_eq_false', ne_eq, Int.not_lt, Int.not_le, Bool.true_eq_false, Bool.false_eq_true] at c2
        all_goals
         refine AWP_skip ?_
         simp only [go_sem]
         refine hK14 _ ?_
         refine AWP_seq_k fun K17 hK17 => ?_
         refine AWP_region (G := G) (T := T_stretch) T_stretch_ok ?_
         simp only [go_sem]
         repeat (with_reducible refine And.intro (by first | omega | exact ⟨rfl, by omega, by omega, by omega⟩) ?_)
         refine hK17 _ ?_
         refine AWP_ret ?_
         simp only [hres, go_sem]
         first
           | exact finOk_mk (by rfl) (by decide)
           | refine ⟨?_, finOk_mk (by rfl) (by decide)⟩
             have hk3 : sg.take k = sg := List.take_of_length_le (by omega)
             rw [hk3] at c2 ⊢
             exact (strR_0 (e := (st, sg, rl)) (f := (fn, fd)) hq c2).symm

theorem implStr_fn : FnOk Try.prog 8 := fnOk_of Try.func8 rfl (by decide)

def T_implStr : Tab := fun f => if f = 8 then some (.p K_implStr) else T_stretch f
theorem T_implStr_ok : TabOk Try.prog T_implStr := fun f k h => by
  unfold T_implStr at h
  split at h
  · rename_i e; cases h; subst e; exact ⟨implStr_ok, implStr_fn⟩
  · exact T_stretch_ok f k h
attribute [go_sem] T_implStr K_implStr

end Go.Proofs.Ytipagbnkkkhlaaa
