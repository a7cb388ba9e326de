/-
  Contracts of functions: within, l00In, floorDiv, l02Div, isFrac, l02Ok, isLevel, isCount, l14Level, l14Length, isEnvelope, l14Ok.
-/
import Derived.Test.YtipagbnkkkhlaaaGs
import Derived.Test.YtipagbnkkkhlaaaFrac
import Derived.Test.YtipagbnkkkhlaaaPv
import Derived.Test.YtipagbnkkkhlaaaGp
namespace Go.Proofs.Ytipagbnkkkhlaaa
open Go.RowKit
set_option linter.unusedSimpArgs false
set_option linter.unusedVariables false

def K_within : Con := ⟨[.val (.int .i64), .val (.int .i64), .val (.int .i64)], [⟨.bool, true⟩], fun _ => True, fun x => inR x.1 x.2.1 x.2.2.1⟩
set_option maxRecDepth 100000 in
set_option maxHeartbeats 1000000 in
theorem within_ok : PureT Try.prog 32 K_within := by
  refine pure_of_body Try.func32 rfl ?_
  have hres : Try.f32.results.toList = [.tmp 6] := rfl
  rintro ⟨(x : Int), (lo : Int), (hi : Int), _⟩ hc hL
  simp only [K_within, lensOk, PK.lenOk, glensOk, GP.lenOk, flensOk, GO.lenOk, olensOk, Ty.lenOk, Ty.flat, Bool.and_true, Bool.true_and, Bool.and_false, Bool.false_and, true_and, and_true, implies_true, forall_const] at hL
  simp only [K_within, St.init, St.initG, Try.ntmps32, go_sem] 
  refine AWP_seq_k fun K1 hK1 => ?_
  refine AWP_region (G := G) (T := T0) T0_ok ?_
  simp only [go_sem]
  refine hK1 _ ?_
  refine AWP_seq_k fun K2 hK2 => ?_
  refine AWP_region (G := G) (T := T0) T0_ok ?_
  simp (maxSteps := 2000000) only [go_sem]
  repeat' (first | (with_reducible refine And.intro (by first | omega | exact ⟨rfl, by omega, by omega, by omega⟩) ?_) | (with_reducible refine gcase_dt (fun g1 => ?_) (fun g1 => ?_)) | (with_reducible refine gcase_df (fun g1 => ?_) (fun g1 => ?_)) | (with_reducible refine gcase_ndt (fun g1 => ?_) (fun g1 => ?_)) | (with_reducible refine gcase_ndf (fun g1 => ?_) (fun g1 => ?_)) | (with_reducible refine gcase_nt (fun g1 => ?_) (fun g1 => ?_)) | (with_reducible refine gcase_nf (fun g1 => ?_) (fun g1 => ?_)) | (with_reducible refine gcase_mk (fun g1 => ?_) (fun g1 => ?_)))
  all_goals
   refine hK2 _ ?_
   refine AWP_ret ?_
   simp only [hres, go_sem]
   first
     | exact finOk_mk (by rfl) (by decide)
     | refine ⟨?_, finOk_mk (by rfl) (by decide)⟩
       first | rw [inR, decide_eq_true (show lo ≤ x from g1), Bool.true_and] | rw [inR, decide_eq_false (show ¬ lo ≤ x from g1), Bool.false_and]

theorem within_fn : FnOk Try.prog 32 := fnOk_of Try.func32 rfl (by decide)

def T_within : Tab := fun f => if f = 32 then some (.p K_within) else T0 f
theorem T_within_ok : TabOk Try.prog T_within := fun f k h => by
  unfold T_within at h
  split at h
  · rename_i e; cases h; subst e; exact ⟨within_ok, within_fn⟩
  · exact T0_ok f k h
attribute [go_sem] T_within K_within


def K_l00In : Con := ⟨[.val (.int .i64), .val (.int .i64), .val (.int .i64)], [⟨.bool, true⟩], fun _ => True, fun x => inR x.1 x.2.1 x.2.2.1⟩
set_option maxRecDepth 100000 in
set_option maxHeartbeats 1000000 in
theorem l00In_ok : PureT Try.prog 26 K_l00In := by
  refine pure_of_body Try.func26 rfl ?_
  have hres : Try.f26.results.toList = [.tmp 6] := rfl
  rintro ⟨(x : Int), (lo : Int), (hi : Int), _⟩ hc hL
  simp only [K_l00In, lensOk, PK.lenOk, glensOk, GP.lenOk, flensOk, GO.lenOk, olensOk, Ty.lenOk, Ty.flat, Bool.and_true, Bool.true_and, Bool.and_false, Bool.false_and, true_and, and_true, implies_true, forall_const] at hL
  simp only [K_l00In, St.init, St.initG, Try.ntmps26, go_sem] 
  refine AWP_seq_k fun K1 hK1 => ?_
  refine AWP_region (G := G) (T := T_within) T_within_ok ?_
  simp only [go_sem]
  refine hK1 _ ?_
  refine AWP_seq_k fun K2 hK2 => ?_
  refine AWP_region (G := G) (T := T_within) T_within_ok ?_
  simp (maxSteps := 2000000) only [go_sem]
  repeat' (first | (with_reducible refine And.intro (by first | omega | exact ⟨rfl, by omega, by omega, by omega⟩) ?_) | (with_reducible refine gcase_dt (fun g1 => ?_) (fun g1 => ?_)) | (with_reducible refine gcase_df (fun g1 => ?_) (fun g1 => ?_)) | (with_reducible refine gcase_ndt (fun g1 => ?_) (fun g1 => ?_)) | (with_reducible refine gcase_ndf (fun g1 => ?_) (fun g1 => ?_)) | (with_reducible refine gcase_nt (fun g1 => ?_) (fun g1 => ?_)) | (with_reducible refine gcase_nf (fun g1 => ?_) (fun g1 => ?_)) | (with_reducible refine gcase_mk (fun g1 => ?_) (fun g1 => ?_)))
  all_goals
   refine hK2 _ ?_
   refine AWP_ret ?_
   simp only [hres, go_sem]
   first
     | exact finOk_mk (by rfl) (by decide)
     | refine ⟨?_, finOk_mk (by rfl) (by decide)⟩
       first | rw [inR, decide_eq_true (show lo ≤ x from g1), Bool.true_and] | rw [inR, decide_eq_false (show ¬ lo ≤ x from g1), Bool.false_and]

theorem l00In_fn : FnOk Try.prog 26 := fnOk_of Try.func26 rfl (by decide)

def T_l00In : Tab := fun f => if f = 26 then some (.p K_l00In) else T_within f
theorem T_l00In_ok : TabOk Try.prog T_l00In := fun f k h => by
  unfold T_l00In at h
  split at h
  · rename_i e; cases h; subst e; exact ⟨l00In_ok, l00In_fn⟩
  · exact T_within_ok f k h
attribute [go_sem] T_l00In K_l00In


def K_floorDiv : Con := ⟨[.val (.int .i64), .val (.int .i64)], [⟨.int .i64, true⟩], fun x => 0 < x.2.1 ∧ -9223372036854775808 ≤ x.1 ∧ x.1 ≤ 9223372036854775807, fun x => divF2 x.1 x.2.1⟩
set_option maxRecDepth 100000 in
set_option maxHeartbeats 1000000 in
theorem floorDiv_ok : PureT Try.prog 20 K_floorDiv := by
  refine pure_of_body Try.func20 rfl ?_
  have hres : Try.f20.results.toList = [.tmp 4] := rfl
  rintro ⟨(x : Int), (y : Int), _⟩ hc hL
  simp only [K_floorDiv, lensOk, PK.lenOk, glensOk, GP.lenOk, flensOk, GO.lenOk, olensOk, Ty.lenOk, Ty.flat, Bool.and_true, Bool.true_and, Bool.and_false, Bool.false_and, true_and, and_true, implies_true, forall_const] at hL
  simp only [K_floorDiv, St.init, St.initG, Try.ntmps20, go_sem] 
  obtain ⟨hy, hx1, hx2⟩ := (show 0 < y ∧ -9223372036854775808 ≤ x ∧ x ≤ 9223372036854775807 from hc)
  obtain ⟨hr1, hr2, hr3⟩ := tdiv_rng hy hx1 hx2
  have hw : IntKind.i64.wrap (x.tdiv y) = x.tdiv y := wrapI ⟨hr1, hr2⟩
  refine AWP_seq_k fun K1 hK1 => ?_
  refine AWP_region (G := G) (T := T_l00In) T_l00In_ok ?_
  simp only [go_sem]
  refine hK1 _ ?_
  refine AWP_seq_k fun K2 hK2 => ?_
  refine AWP_region (G := G) (T := T_l00In) T_l00In_ok ?_
  simp only [hw, go_sem]
  repeat (with_reducible refine And.intro (by first | omega | exact ⟨rfl, by omega, by omega, by omega⟩) ?_)
  refine hK2 _ ?_
  refine AWP_seq_k fun K3 hK3 => ?_
  refine AWP_seq_k fun K4 hK4 => ?_
  refine AWP_region (G := G) (T := T_l00In) T_l00In_ok ?_
  simp only [go_sem]
  repeat (with_reducible refine And.intro (by first | omega | exact ⟨rfl, by omega, by omega, by omega⟩) ?_)
  refine hK4 _ ?_
  refine AWP_cond rfl ?_ ?_
  ·
   intro c0
   try simp only [decide_eq_true_eq, decide_eq_false_iff_not, Bool.not_eq_true', Bool.not_eq_false', ne_eq, Int.not_lt, Int.not_le] at c0
   have hw2 : IntKind.i64.wrap (x.tdiv y - 1) = x.tdiv y - 1 := wrapI ⟨hr3 c0, by omega⟩
   refine AWP_region (G := G) (T := T_l00In) T_l00In_ok ?_
   simp only [hw2, go_sem]
   refine hK3 _ ?_
   refine AWP_seq_k fun K5 hK5 => ?_
   refine AWP_region (G := G) (T := T_l00In) T_l00In_ok ?_
   simp only [go_sem]
   refine hK5 _ ?_
   refine AWP_ret ?_
   simp only [hres, go_sem]
   first
     | exact finOk_mk (by rfl) (by decide)
     | refine ⟨?_, finOk_mk (by rfl) (by decide)⟩
       first | exact divF2_lo hy c0 | exact divF2_hi hy c0
  ·
   intro c0
   try simp only [decide_eq_true_eq, decide_eq_false_iff_not, Bool.not_eq_true', Bool.not_eq_false', ne_eq, Int.not_lt, Int.not_le] at c0
   refine AWP_skip ?_
   simp only [go_sem]
   refine hK3 _ ?_
   refine AWP_seq_k fun K6 hK6 => ?_
   refine AWP_region (G := G) (T := T_l00In) T_l00In_ok ?_
   simp only [go_sem]
   refine hK6 _ ?_
   refine AWP_ret ?_
   simp only [hres, go_sem]
   first
     | exact finOk_mk (by rfl) (by decide)
     | refine ⟨?_, finOk_mk (by rfl) (by decide)⟩
       first | exact divF2_lo hy c0 | exact divF2_hi hy c0

theorem floorDiv_fn : FnOk Try.prog 20 := fnOk_of Try.func20 rfl (by decide)

def T_floorDiv : Tab := fun f => if f = 20 then some (.p K_floorDiv) else T_l00In f
theorem T_floorDiv_ok : TabOk Try.prog T_floorDiv := fun f k h => by
  unfold T_floorDiv at h
  split at h
  · rename_i e; cases h; subst e; exact ⟨floorDiv_ok, floorDiv_fn⟩
  · exact T_l00In_ok f k h
attribute [go_sem] T_floorDiv K_floorDiv


def K_l02Div : Con := ⟨[.val (.int .i64), .val (.int .i64)], [⟨.int .i64, true⟩], fun x => 0 < x.2.1 ∧ -9223372036854775808 ≤ x.1 ∧ x.1 ≤ 9223372036854775807, fun x => divF2 x.1 x.2.1⟩
set_option maxRecDepth 100000 in
set_option maxHeartbeats 1000000 in
theorem l02Div_ok : PureT Try.prog 15 K_l02Div := by
  refine pure_of_body Try.func15 rfl ?_
  have hres : Try.f15.results.toList = [.tmp 4] := rfl
  rintro ⟨(x : Int), (y : Int), _⟩ hc hL
  simp only [K_l02Div, lensOk, PK.lenOk, glensOk, GP.lenOk, flensOk, GO.lenOk, olensOk, Ty.lenOk, Ty.flat, Bool.and_true, Bool.true_and, Bool.and_false, Bool.false_and, true_and, and_true, implies_true, forall_const] at hL
  simp only [K_l02Div, St.init, St.initG, Try.ntmps15, go_sem] 
  obtain ⟨hy, hx1, hx2⟩ := (show 0 < y ∧ -9223372036854775808 ≤ x ∧ x ≤ 9223372036854775807 from hc)
  obtain ⟨hr1, hr2, hr3⟩ := tdiv_rng hy hx1 hx2
  have hw : IntKind.i64.wrap (x.tdiv y) = x.tdiv y := wrapI ⟨hr1, hr2⟩
  refine AWP_seq_k fun K1 hK1 => ?_
  refine AWP_region (G := G) (T := T_floorDiv) T_floorDiv_ok ?_
  simp only [go_sem]
  refine hK1 _ ?_
  refine AWP_seq_k fun K2 hK2 => ?_
  refine AWP_region (G := G) (T := T_floorDiv) T_floorDiv_ok ?_
  simp only [hw, go_sem]
  repeat (with_reducible refine And.intro (by first | omega | exact ⟨rfl, by omega, by omega, by omega⟩) ?_)
  refine hK2 _ ?_
  refine AWP_seq_k fun K3 hK3 => ?_
  refine AWP_seq_k fun K4 hK4 => ?_
  refine AWP_region (G := G) (T := T_floorDiv) T_floorDiv_ok ?_
  simp only [go_sem]
  repeat (with_reducible refine And.intro (by first | omega | exact ⟨rfl, by omega, by omega, by omega⟩) ?_)
  refine hK4 _ ?_
  refine AWP_cond rfl ?_ ?_
  ·
   intro c0
   try simp only [decide_eq_true_eq, decide_eq_false_iff_not, Bool.not_eq_true', Bool.not_eq_false', ne_eq, Int.not_lt, Int.not_le] at c0
   have hw2 : IntKind.i64.wrap (x.tdiv y - 1) = x.tdiv y - 1 := wrapI ⟨hr3 c0, by omega⟩
   refine AWP_region (G := G) (T := T_floorDiv) T_floorDiv_ok ?_
   simp only [hw2, go_sem]
   refine hK3 _ ?_
   refine AWP_seq_k fun K5 hK5 => ?_
   refine AWP_region (G := G) (T := T_floorDiv) T_floorDiv_ok ?_
   simp only [go_sem]
   refine hK5 _ ?_
   refine AWP_ret ?_
   simp only [hres, go_sem]
   first
     | exact finOk_mk (by rfl) (by decide)
     | refine ⟨?_, finOk_mk (by rfl) (by decide)⟩
       first | exact divF2_lo hy c0 | exact divF2_hi hy c0
  ·
   intro c0
   try simp only [decide_eq_true_eq, decide_eq_false_iff_not, Bool.not_eq_true', Bool.not_eq_false', ne_eq, Int.not_lt, Int.not_le] at c0
   refine AWP_skip ?_
   simp only [go_sem]
   refine hK3 _ ?_
   refine AWP_seq_k fun K6 hK6 => ?_
   refine AWP_region (G := G) (T := T_floorDiv) T_floorDiv_ok ?_
   simp only [go_sem]
   refine hK6 _ ?_
   refine AWP_ret ?_
   simp only [hres, go_sem]
   first
     | exact finOk_mk (by rfl) (by decide)
     | refine ⟨?_, finOk_mk (by rfl) (by decide)⟩
       first | exact divF2_lo hy c0 | exact divF2_hi hy c0

theorem l02Div_fn : FnOk Try.prog 15 := fnOk_of Try.func15 rfl (by decide)

def T_l02Div : Tab := fun f => if f = 15 then some (.p K_l02Div) else T_floorDiv f
theorem T_l02Div_ok : TabOk Try.prog T_l02Div := fun f k h => by
  unfold T_l02Div at h
  split at h
  · rename_i e; cases h; subst e; exact ⟨l02Div_ok, l02Div_fn⟩
  · exact T_floorDiv_ok f k h
attribute [go_sem] T_l02Div K_l02Div


def K_isFrac : Con := ⟨[.val ((.prod (.int .i64) (.int .i64)))], [⟨.bool, true⟩], fun _ => True, fun x => frB x.1.1 x.1.2⟩
theorem isFrac_ok : PureT Try.prog 18 K_isFrac := by
  refine pure_lift fun ⟨x, _⟩ _ R w vs hv => ?_
  obtain ⟨us, e, hv⟩ := vrt_frac hv
  have e2 := vrt_nil hv; subst e2
  have e3 := arr_of e; subst e3
  exact (isFrac_any x.1 x.2 w).mono fun _ _ ⟨he, k, hk⟩ => ⟨_, he, vr_sc _, obsOk_nil _ _, by rw [hk]; exact below_drewN ((Below.refl _ _).alloc (Nat.le_refl _) _) _⟩

theorem isFrac_fn : FnOk Try.prog 18 := fnOk_of Try.func18 rfl (by decide)

def T_isFrac : Tab := fun f => if f = 18 then some (.p K_isFrac) else T_l02Div f
theorem T_isFrac_ok : TabOk Try.prog T_isFrac := fun f k h => by
  unfold T_isFrac at h
  split at h
  · rename_i e; cases h; subst e; exact ⟨isFrac_ok, isFrac_fn⟩
  · exact T_l02Div_ok f k h
attribute [go_sem] T_isFrac K_isFrac


def K_l02Ok : Con := ⟨[.val ((.prod (.int .i64) (.int .i64)))], [⟨.bool, true⟩], fun _ => True, fun x => frB x.1.1 x.1.2⟩
theorem l02Ok_ok : PureT Try.prog 14 K_l02Ok := by
  refine pure_lift fun ⟨x, _⟩ _ R w vs hv => ?_
  obtain ⟨us, e, hv⟩ := vrt_frac hv
  have e2 := vrt_nil hv; subst e2
  have e3 := arr_of e; subst e3
  exact (l02Ok_any x.1 x.2 w).mono fun _ _ ⟨he, k, hk⟩ => ⟨_, he, vr_sc _, obsOk_nil _ _, by rw [hk]; exact below_drewN ((Below.refl _ _).alloc (Nat.le_refl _) _) _⟩

theorem l02Ok_fn : FnOk Try.prog 14 := fnOk_of Try.func14 rfl (by decide)

def T_l02Ok : Tab := fun f => if f = 14 then some (.p K_l02Ok) else T_isFrac f
theorem T_l02Ok_ok : TabOk Try.prog T_l02Ok := fun f k h => by
  unfold T_l02Ok at h
  split at h
  · rename_i e; cases h; subst e; exact ⟨l02Ok_ok, l02Ok_fn⟩
  · exact T_isFrac_ok f k h
attribute [go_sem] T_l02Ok K_l02Ok


def K_isLevel : Con := ⟨[.val (.int .i64)], [⟨.bool, true⟩], fun _ => True, fun x => inR x.1 0 65536⟩
set_option maxRecDepth 100000 in
set_option maxHeartbeats 1000000 in
theorem isLevel_ok : PureT Try.prog 30 K_isLevel := by
  refine pure_of_body Try.func30 rfl ?_
  have hres : Try.f30.results.toList = [.tmp 2] := rfl
  rintro ⟨(x : Int), _⟩ hc hL
  simp only [K_isLevel, lensOk, PK.lenOk, glensOk, GP.lenOk, flensOk, GO.lenOk, olensOk, Ty.lenOk, Ty.flat, Bool.and_true, Bool.true_and, Bool.and_false, Bool.false_and, true_and, and_true, implies_true, forall_const] at hL
  simp only [K_isLevel, St.init, St.initG, Try.ntmps30, go_sem] 
  refine AWP_seq_k fun K1 hK1 => ?_
  refine AWP_region (G := G) (T := T_l02Ok) T_l02Ok_ok ?_
  simp only [go_sem]
  refine hK1 _ ?_
  refine AWP_seq_k fun K2 hK2 => ?_
  refine AWP_region (G := G) (T := T_l02Ok) T_l02Ok_ok ?_
  simp only [go_sem]
  repeat (with_reducible refine And.intro (by first | omega | exact ⟨rfl, by omega, by omega, by omega⟩) ?_)
  refine hK2 _ ?_
  refine AWP_ret ?_
  simp only [hres, go_sem]
  first
    | exact finOk_mk (by rfl) (by decide)
    | refine ⟨?_, finOk_mk (by rfl) (by decide)⟩
      rfl

theorem isLevel_fn : FnOk Try.prog 30 := fnOk_of Try.func30 rfl (by decide)

def T_isLevel : Tab := fun f => if f = 30 then some (.p K_isLevel) else T_l02Ok f
theorem T_isLevel_ok : TabOk Try.prog T_isLevel := fun f k h => by
  unfold T_isLevel at h
  split at h
  · rename_i e; cases h; subst e; exact ⟨isLevel_ok, isLevel_fn⟩
  · exact T_l02Ok_ok f k h
attribute [go_sem] T_isLevel K_isLevel


def K_isCount : Con := ⟨[.val (.int .i64)], [⟨.bool, true⟩], fun _ => True, fun x => inR x.1 0 4000⟩
set_option maxRecDepth 100000 in
set_option maxHeartbeats 1000000 in
theorem isCount_ok : PureT Try.prog 31 K_isCount := by
  refine pure_of_body Try.func31 rfl ?_
  have hres : Try.f31.results.toList = [.tmp 2] := rfl
  rintro ⟨(x : Int), _⟩ hc hL
  simp only [K_isCount, lensOk, PK.lenOk, glensOk, GP.lenOk, flensOk, GO.lenOk, olensOk, Ty.lenOk, Ty.flat, Bool.and_true, Bool.true_and, Bool.and_false, Bool.false_and, true_and, and_true, implies_true, forall_const] at hL
  simp only [K_isCount, St.init, St.initG, Try.ntmps31, go_sem] 
  refine AWP_seq_k fun K1 hK1 => ?_
  refine AWP_region (G := G) (T := T_isLevel) T_isLevel_ok ?_
  simp only [go_sem]
  refine hK1 _ ?_
  refine AWP_seq_k fun K2 hK2 => ?_
  refine AWP_region (G := G) (T := T_isLevel) T_isLevel_ok ?_
  simp only [go_sem]
  repeat (with_reducible refine And.intro (by first | omega | exact ⟨rfl, by omega, by omega, by omega⟩) ?_)
  refine hK2 _ ?_
  refine AWP_ret ?_
  simp only [hres, go_sem]
  first
    | exact finOk_mk (by rfl) (by decide)
    | refine ⟨?_, finOk_mk (by rfl) (by decide)⟩
      rfl

theorem isCount_fn : FnOk Try.prog 31 := fnOk_of Try.func31 rfl (by decide)

def T_isCount : Tab := fun f => if f = 31 then some (.p K_isCount) else T_isLevel f
theorem T_isCount_ok : TabOk Try.prog T_isCount := fun f k h => by
  unfold T_isCount at h
  split at h
  · rename_i e; cases h; subst e; exact ⟨isCount_ok, isCount_fn⟩
  · exact T_isLevel_ok f k h
attribute [go_sem] T_isCount K_isCount


def K_l14Level : Con := ⟨[.val (.int .i64)], [⟨.bool, true⟩], fun _ => True, fun x => inR x.1 0 65536⟩
set_option maxRecDepth 100000 in
set_option maxHeartbeats 1000000 in
theorem l14Level_ok : PureT Try.prog 25 K_l14Level := by
  refine pure_of_body Try.func25 rfl ?_
  have hres : Try.f25.results.toList = [.tmp 2] := rfl
  rintro ⟨(x : Int), _⟩ hc hL
  simp only [K_l14Level, lensOk, PK.lenOk, glensOk, GP.lenOk, flensOk, GO.lenOk, olensOk, Ty.lenOk, Ty.flat, Bool.and_true, Bool.true_and, Bool.and_false, Bool.false_and, true_and, and_true, implies_true, forall_const] at hL
  simp only [K_l14Level, St.init, St.initG, Try.ntmps25, go_sem] 
  refine AWP_seq_k fun K1 hK1 => ?_
  refine AWP_region (G := G) (T := T_isCount) T_isCount_ok ?_
  simp only [go_sem]
  refine hK1 _ ?_
  refine AWP_seq_k fun K2 hK2 => ?_
  refine AWP_region (G := G) (T := T_isCount) T_isCount_ok ?_
  simp only [go_sem]
  repeat (with_reducible refine And.intro (by first | omega | exact ⟨rfl, by omega, by omega, by omega⟩) ?_)
  refine hK2 _ ?_
  refine AWP_ret ?_
  simp only [hres, go_sem]
  first
    | exact finOk_mk (by rfl) (by decide)
    | refine ⟨?_, finOk_mk (by rfl) (by decide)⟩
      rfl

theorem l14Level_fn : FnOk Try.prog 25 := fnOk_of Try.func25 rfl (by decide)

def T_l14Level : Tab := fun f => if f = 25 then some (.p K_l14Level) else T_isCount f
theorem T_l14Level_ok : TabOk Try.prog T_l14Level := fun f k h => by
  unfold T_l14Level at h
  split at h
  · rename_i e; cases h; subst e; exact ⟨l14Level_ok, l14Level_fn⟩
  · exact T_isCount_ok f k h
attribute [go_sem] T_l14Level K_l14Level


def K_l14Length : Con := ⟨[.val (.int .i64)], [⟨.bool, true⟩], fun _ => True, fun x => inR x.1 0 4000⟩
set_option maxRecDepth 100000 in
set_option maxHeartbeats 1000000 in
theorem l14Length_ok : PureT Try.prog 24 K_l14Length := by
  refine pure_of_body Try.func24 rfl ?_
  have hres : Try.f24.results.toList = [.tmp 2] := rfl
  rintro ⟨(x : Int), _⟩ hc hL
  simp only [K_l14Length, lensOk, PK.lenOk, glensOk, GP.lenOk, flensOk, GO.lenOk, olensOk, Ty.lenOk, Ty.flat, Bool.and_true, Bool.true_and, Bool.and_false, Bool.false_and, true_and, and_true, implies_true, forall_const] at hL
  simp only [K_l14Length, St.init, St.initG, Try.ntmps24, go_sem] 
  refine AWP_seq_k fun K1 hK1 => ?_
  refine AWP_region (G := G) (T := T_l14Level) T_l14Level_ok ?_
  simp only [go_sem]
  refine hK1 _ ?_
  refine AWP_seq_k fun K2 hK2 => ?_
  refine AWP_region (G := G) (T := T_l14Level) T_l14Level_ok ?_
  simp only [go_sem]
  repeat (with_reducible refine And.intro (by first | omega | exact ⟨rfl, by omega, by omega, by omega⟩) ?_)
  refine hK2 _ ?_
  refine AWP_ret ?_
  simp only [hres, go_sem]
  first
    | exact finOk_mk (by rfl) (by decide)
    | refine ⟨?_, finOk_mk (by rfl) (by decide)⟩
      rfl

theorem l14Length_fn : FnOk Try.prog 24 := fnOk_of Try.func24 rfl (by decide)

def T_l14Length : Tab := fun f => if f = 24 then some (.p K_l14Length) else T_l14Level f
theorem T_l14Length_ok : TabOk Try.prog T_l14Length := fun f k h => by
  unfold T_l14Length at h
  split at h
  · rename_i e; cases h; subst e; exact ⟨l14Length_ok, l14Length_fn⟩
  · exact T_l14Level_ok f k h
attribute [go_sem] T_l14Length K_l14Length


def K_isEnvelope : Con := ⟨[.val ((.prod (.int .i64) (.prod (.row 45 (.prod (.int .i64) (.int .i64))) (.int .i64))))], [⟨.bool, true⟩], fun _ => True, fun x => envB x.1⟩
set_option maxRecDepth 100000 in
set_option maxHeartbeats 4000000 in
theorem isEnvelope_ok : PureT Try.prog 17 K_isEnvelope := by
  refine pure_of_body Try.func17 rfl ?_
  have hres : Try.f17.results.toList = [.tmp 2] := rfl
  rintro ⟨⟨(st : Int), (sg : List (Int × Int)), (rl : Int)⟩, _⟩ hc hL
  simp only [K_isEnvelope, lensOk, PK.lenOk, glensOk, GP.lenOk, flensOk, GO.lenOk, olensOk, Ty.lenOk, Ty.flat, Bool.and_true, Bool.true_and, Bool.and_false, Bool.false_and, true_and, and_true, implies_true, forall_const] at hL
  simp only [K_isEnvelope, St.init, St.initG, Try.ntmps17, go_sem] 
  refine AWP_seq_k fun K1 hK1 => ?_
  refine AWP_region (G := G) (T := T_l14Length) T_l14Length_ok ?_
  simp only [go_sem]
  refine hK1 _ ?_
  refine AWP_seq_k fun K2 hK2 => ?_
  refine AWP_seq_k fun K3 hK3 => ?_
  refine AWP_region (G := G) (T := T_l14Length) T_l14Length_ok ?_
  simp only [go_sem]
  repeat (with_reducible refine And.intro (by first | omega | exact ⟨rfl, by omega, by omega, by omega⟩) ?_)
  refine hK3 _ ?_
  refine AWP_block ?_
  refine AWP_loop_k (ι := { k : Nat // k ≤ sg.length ∧ (sg.take k).all segB = true }) (fun k => ⟨[zz, .c (.po 116 0), zz, zz, zz, zz, .c (.rd [] 45 ((.prod (.int .i64) (.int .i64))) (sg)), .c (.sc (.int .i64 (sg.length))), .c (.sc (.int .i64 (k.1))), zz, zz, zz, zz, zz, zz, zz, zz, zz, zz, zz, zz, zz, zz, zz, zz, zz, zz, zz, zz, zz, zz, zz, zz, zz, zz, zz, zz], [(116, .box [.sc (.int .i64 (st)), .rd [] 45 ((.prod (.int .i64) (.int .i64))) (sg), .sc (.int .i64 (rl))])]⟩) (fun k => sg.length - k.1) ⟨0, by simp⟩ ?_ ?_
  ·
   refine Wk_to (by rfl) ?_
   simp (maxSteps := 2000000) only [go_sem]
   all_goals (first | rfl | ((repeat' refine And.intro ?_ ?_) <;> first | rfl | simp))
  rintro ⟨k, hk, hp⟩ K4 hL4
  refine AWP_seq_k fun K5 hK5 => ?_
  refine AWP_region (G := G) (T := T_l14Length) T_l14Length_ok ?_
  simp only [go_sem]
  refine hK5 _ ?_
  refine AWP_seq_k fun K6 hK6 => ?_
  refine AWP_cond rfl ?_ ?_
  ·
   intro c0
   try simp only [decide_eq_true_eq, decide_eq_false_iff_not, Bool.not_eq_true', Bool.not_eq_false', ne_eq, Int.not_lt, Int.not_le] at c0
   refine AWP_skip ?_
   simp only [go_sem]
   refine hK6 _ ?_
   refine AWP_seq_k fun K7 hK7 => ?_
   refine AWP_block ?_
   refine AWP_seq_k fun K8 hK8 => ?_
   refine AWP_region (G := G) (T := T_l14Length) T_l14Length_ok ?_
   simp only [go_sem]
   repeat (with_reducible refine And.intro (by first | omega | exact ⟨rfl, by omega, by omega, by omega⟩) ?_)
   refine hK8 _ ?_
   refine AWP_seq_k fun K9 hK9 => ?_
   refine AWP_region (G := G) (T := T_l14Length) T_l14Length_ok ?_
   simp (maxSteps := 2000000) only [go_sem]
   repeat' (first | (with_reducible refine And.intro (by first | omega | exact ⟨rfl, by omega, by omega, by omega⟩) ?_) | (with_reducible refine gcase_dt (fun g4 => ?_) (fun g4 => ?_)) | (with_reducible refine gcase_df (fun g4 => ?_) (fun g4 => ?_)) | (with_reducible refine gcase_ndt (fun g4 => ?_) (fun g4 => ?_)) | (with_reducible refine gcase_ndf (fun g4 => ?_) (fun g4 => ?_)) | (with_reducible refine gcase_nt (fun g4 => ?_) (fun g4 => ?_)) | (with_reducible refine gcase_nf (fun g4 => ?_) (fun g4 => ?_)) | (with_reducible refine gcase_mk (fun g4 => ?_) (fun g4 => ?_)))
   all_goals
    refine hK9 _ ?_
    refine AWP_cond rfl ?_ ?_
    ·
     intro c1
     try simp only [decide_eq_true_eq, decide_eq_false_iff_not, Bool.not_eq_true', Bool.not_eq_false', ne_eq, Int.not_lt, Int.not_le, Bool.true_eq_false, Bool.false_eq_true] at c1
     all_goals
      refine AWP_seq_k fun K10 hK10 => ?_
      refine AWP_region (G := G) (T := T_l14Length) T_l14Length_ok ?_
      simp only [go_sem]
      refine hK10 _ ?_
      refine AWP_ret ?_
      simp only [hres, go_sem]
      first
        | exact finOk_mk (by rfl) (by decide)
        | refine ⟨?_, finOk_mk (by rfl) (by decide)⟩
          have hq : segB (sg.getD k ((0, 0) : Int × Int)) = false := by clear hK1 hK2 hK3 hL4 hK5 hK6 hK7 hK8 hK9 hK10; simp_all [segB]
          exact (show envB (st, sg, rl) = false by unfold envB; rw [all_stop (k := k) (d := ((0, 0) : Int × Int)) (by omega) hq]; rfl).symm
    ·
     intro c1
     try simp only [decide_eq_true_eq, decide_eq_false_iff_not, Bool.not_eq_true', Bool.not_eq_false', ne_eq, Int.not_lt, Int.not_le, Bool.true_eq_false, Bool.false_eq_true] at c1
     all_goals
      have hq : segB (sg.getD k ((0, 0) : Int × Int)) = true := by clear hK1 hK2 hK3 hL4 hK5 hK6 hK7 hK8 hK9; simp_all [segB]
      refine AWP_skip ?_
      simp only [go_sem]
      refine hK7 _ ?_
      refine AWP_region (G := G) (T := T_l14Length) T_l14Length_ok ?_
      simp only [go_sem]
      refine hL4 ⟨k + 1, by omega, all_next (d := ((0, 0) : Int × Int)) (by omega) hp (by first | assumption | (clear hK1 hK2 hK3 hL4 hK5 hK6 hK7 hK8 hK9; simp_all))⟩ _ (Wk_to (by rfl) ?_) ?_
      ·
       simp (maxSteps := 2000000) only [go_sem]
       first | rfl | exact wk (by omega)
      ·
       first | (simp only []; omega) | omega | (simp; omega)
  ·
   intro c0
   try simp only [decide_eq_true_eq, decide_eq_false_iff_not, Bool.not_eq_true', Bool.not_eq_false', ne_eq, Int.not_lt, Int.not_le] at c0
   refine AWP_exit ?_
   simp only [go_sem]
   refine hK2 _ ?_
   refine AWP_seq_k fun K11 hK11 => ?_
   refine AWP_region (G := G) (T := T_l14Length) T_l14Length_ok ?_
   simp (maxSteps := 2000000) only [go_sem]
   repeat' (first | (with_reducible refine And.intro (by first | omega | exact ⟨rfl, by omega, by omega, by omega⟩) ?_) | (with_reducible refine gcase_dt (fun g7 => ?_) (fun g7 => ?_)) | (with_reducible refine gcase_df (fun g7 => ?_) (fun g7 => ?_)) | (with_reducible refine gcase_ndt (fun g7 => ?_) (fun g7 => ?_)) | (with_reducible refine gcase_ndf (fun g7 => ?_) (fun g7 => ?_)) | (with_reducible refine gcase_nt (fun g7 => ?_) (fun g7 => ?_)) | (with_reducible refine gcase_nf (fun g7 => ?_) (fun g7 => ?_)) | (with_reducible refine gcase_mk (fun g7 => ?_) (fun g7 => ?_)))
   all_goals
    refine hK11 _ ?_
    refine AWP_ret ?_
    simp only [hres, go_sem]
    first
      | exact finOk_mk (by rfl) (by decide)
      | refine ⟨?_, finOk_mk (by rfl) (by decide)⟩
        have ha := all_done hp (by omega)
        unfold envB
        simp only [ha, Bool.true_and]
        first | (rw [show inR st 0 65536 = false by assumption]; rfl) | (rw [show inR st 0 65536 = true by assumption, show inR rl 0 4000 = false by assumption]; rfl) | (rw [show inR st 0 65536 = true by assumption, show inR rl 0 4000 = true by assumption, Bool.true_and, Bool.true_and]; exact decide_eq_decide.2 (by omega))

theorem isEnvelope_fn : FnOk Try.prog 17 := fnOk_of Try.func17 rfl (by decide)

def T_isEnvelope : Tab := fun f => if f = 17 then some (.p K_isEnvelope) else T_l14Length f
theorem T_isEnvelope_ok : TabOk Try.prog T_isEnvelope := fun f k h => by
  unfold T_isEnvelope at h
  split at h
  · rename_i e; cases h; subst e; exact ⟨isEnvelope_ok, isEnvelope_fn⟩
  · exact T_l14Length_ok f k h
attribute [go_sem] T_isEnvelope K_isEnvelope


def K_l14Ok : Con := ⟨[.ptr (.prod (.int .i64) (.prod (.row 45 (.prod (.int .i64) (.int .i64))) (.int .i64)))], [⟨.bool, true⟩], fun _ => True, fun x => envB x.1⟩
set_option maxRecDepth 100000 in
set_option maxHeartbeats 4000000 in
theorem l14Ok_ok : PureT Try.prog 13 K_l14Ok := by
  refine pure_of_body Try.func13 rfl ?_
  have hres : Try.f13.results.toList = [.tmp 2] := rfl
  rintro ⟨⟨(st : Int), (sg : List (Int × Int)), (rl : Int)⟩, _⟩ hc hL
  simp only [K_l14Ok, lensOk, PK.lenOk, glensOk, GP.lenOk, flensOk, GO.lenOk, olensOk, Ty.lenOk, Ty.flat, Bool.and_true, Bool.true_and, Bool.and_false, Bool.false_and, true_and, and_true, implies_true, forall_const] at hL
  simp only [K_l14Ok, St.init, St.initG, Try.ntmps13, go_sem] 
  refine AWP_seq_k fun K1 hK1 => ?_
  refine AWP_region (G := G) (T := T_isEnvelope) T_isEnvelope_ok ?_
  simp only [go_sem]
  refine hK1 _ ?_
  refine AWP_seq_k fun K2 hK2 => ?_
  refine AWP_seq_k fun K3 hK3 => ?_
  refine AWP_region (G := G) (T := T_isEnvelope) T_isEnvelope_ok ?_
  simp only [go_sem]
  refine hK3 _ ?_
  refine AWP_block ?_
  refine AWP_loop_k (ι := { k : Nat // k ≤ sg.length ∧ (sg.take k).all segB = true }) (fun k => ⟨[.c (.pt [] ((.prod (.int .i64) (.prod (.row 45 (.prod (.int .i64) (.int .i64))) (.int .i64)))) (st, sg, rl) 0), zz, zz, .c (.sc (.int .i64 (k.1))), zz, zz, zz, zz, zz, zz, zz, zz, zz, zz, zz, zz, zz, zz, zz, zz, zz, zz, zz, zz, zz, zz, zz, zz, zz, zz, zz, zz, zz, zz, zz, zz, zz, zz, zz, zz, zz, zz, zz, zz, zz, zz, zz, zz, zz, zz, zz, zz, zz, zz, zz], []⟩) (fun k => sg.length - k.1) ⟨0, by simp⟩ ?_ ?_
  ·
   refine Wk_to (by rfl) ?_
   simp (maxSteps := 2000000) only [go_sem]
   all_goals (first | rfl | ((repeat' refine And.intro ?_ ?_) <;> first | rfl | simp))
  rintro ⟨k, hk, hp⟩ K4 hL4
  refine AWP_seq_k fun K5 hK5 => ?_
  refine AWP_seq_k fun K6 hK6 => ?_
  refine AWP_region (G := G) (T := T_isEnvelope) T_isEnvelope_ok ?_
  simp (maxSteps := 2000000) only [go_sem]
  repeat (with_reducible refine And.intro (by first | omega | exact ⟨rfl, by omega, by omega, by omega⟩) ?_)
  refine hK6 _ ?_
  refine AWP_cond rfl ?_ ?_
  ·
   intro c0
   try simp only [decide_eq_true_eq, decide_eq_false_iff_not, Bool.not_eq_true', Bool.not_eq_false', ne_eq, Int.not_lt, Int.not_le] at c0
   refine AWP_skip ?_
   simp only [go_sem]
   refine hK5 _ ?_
   refine AWP_seq_k fun K7 hK7 => ?_
   refine AWP_block ?_
   refine AWP_seq_k fun K8 hK8 => ?_
   refine AWP_region (G := G) (T := T_isEnvelope) T_isEnvelope_ok ?_
   simp (maxSteps := 2000000) only [go_sem]
   repeat' (first | (with_reducible refine And.intro (by first | omega | exact ⟨rfl, by omega, by omega, by omega⟩) ?_) | (with_reducible refine gcase_dt (fun g4 => ?_) (fun g4 => ?_)) | (with_reducible refine gcase_df (fun g4 => ?_) (fun g4 => ?_)) | (with_reducible refine gcase_ndt (fun g4 => ?_) (fun g4 => ?_)) | (with_reducible refine gcase_ndf (fun g4 => ?_) (fun g4 => ?_)) | (with_reducible refine gcase_nt (fun g4 => ?_) (fun g4 => ?_)) | (with_reducible refine gcase_nf (fun g4 => ?_) (fun g4 => ?_)) | (with_reducible refine gcase_mk (fun g4 => ?_) (fun g4 => ?_)))
   all_goals
    refine hK8 _ ?_
    refine AWP_cond rfl ?_ ?_
    ·
     intro c1
     try simp only [decide_eq_true_eq, decide_eq_false_iff_not, Bool.not_eq_true', Bool.not_eq_false', ne_eq, Int.not_lt, Int.not_le, Bool.true_eq_false, Bool.false_eq_true] at c1
     all_goals
      refine AWP_seq_k fun K9 hK9 => ?_
      refine AWP_region (G := G) (T := T_isEnvelope) T_isEnvelope_ok ?_
      simp only [go_sem]
      refine hK9 _ ?_
      refine AWP_ret ?_
      simp only [hres, go_sem]
      first
        | exact finOk_mk (by rfl) (by decide)
        | refine ⟨?_, finOk_mk (by rfl) (by decide)⟩
          have hq : segB (sg.getD k ((0, 0) : Int × Int)) = false := by clear hK1 hK2 hK3 hL4 hK5 hK6 hK7 hK8 hK9; simp_all [segB]
          exact (show envB (st, sg, rl) = false by unfold envB; rw [all_stop (k := k) (d := ((0, 0) : Int × Int)) (by omega) hq]; rfl).symm
    ·
     intro c1
     try simp only [decide_eq_true_eq, decide_eq_false_iff_not, Bool.not_eq_true', Bool.not_eq_false', ne_eq, Int.not_lt, Int.not_le, Bool.true_eq_false, Bool.false_eq_true] at c1
     all_goals
      have hq : segB (sg.getD k ((0, 0) : Int × Int)) = true := by clear hK1 hK2 hK3 hL4 hK5 hK6 hK7 hK8; simp_all [segB]
      refine AWP_skip ?_
      simp only [go_sem]
      refine hK7 _ ?_
      refine AWP_region (G := G) (T := T_isEnvelope) T_isEnvelope_ok ?_
      simp only [go_sem]
      refine hL4 ⟨k + 1, by omega, all_next (d := ((0, 0) : Int × Int)) (by omega) hp (by first | assumption | (clear hK1 hK2 hK3 hL4 hK5 hK6 hK7 hK8; simp_all))⟩ _ (Wk_to (by rfl) ?_) ?_
      ·
       simp (maxSteps := 2000000) only [go_sem]
       first | rfl | exact wk (by omega)
      ·
       first | (simp only []; omega) | omega | (simp; omega)
  ·
   intro c0
   try simp only [decide_eq_true_eq, decide_eq_false_iff_not, Bool.not_eq_true', Bool.not_eq_false', ne_eq, Int.not_lt, Int.not_le] at c0
   refine AWP_exit ?_
   simp only [go_sem]
   refine hK2 _ ?_
   refine AWP_seq_k fun K10 hK10 => ?_
   refine AWP_region (G := G) (T := T_isEnvelope) T_isEnvelope_ok ?_
   simp (maxSteps := 2000000) only [go_sem]
   repeat' (first | (with_reducible refine And.intro (by first | omega | exact ⟨rfl, by omega, by omega, by omega⟩) ?_) | (with_reducible refine gcase_dt (fun g6 => ?_) (fun g6 => ?_)) | (with_reducible refine gcase_df (fun g6 => ?_) (fun g6 => ?_)) | (with_reducible refine gcase_ndt (fun g6 => ?_) (fun g6 => ?_)) | (with_reducible refine gcase_ndf (fun g6 => ?_) (fun g6 => ?_)) | (with_reducible refine gcase_nt (fun g6 => ?_) (fun g6 => ?_)) | (with_reducible refine gcase_nf (fun g6 => ?_) (fun g6 => ?_)) | (with_reducible refine gcase_mk (fun g6 => ?_) (fun g6 => ?_)))
   all_goals
    refine hK10 _ ?_
    refine AWP_ret ?_
    simp only [hres, go_sem]
    first
      | exact finOk_mk (by rfl) (by decide)
      | refine ⟨?_, finOk_mk (by rfl) (by decide)⟩
        have ha := all_done hp (by omega)
        unfold envB
        simp only [ha, Bool.true_and]
        first | (rw [show inR st 0 65536 = false by assumption]; rfl) | (rw [show inR st 0 65536 = true by assumption, show inR rl 0 4000 = false by assumption]; rfl) | (rw [show inR st 0 65536 = true by assumption, show inR rl 0 4000 = true by assumption, Bool.true_and, Bool.true_and]; exact decide_eq_decide.2 (by omega))

theorem l14Ok_fn : FnOk Try.prog 13 := fnOk_of Try.func13 rfl (by decide)

def T_l14Ok : Tab := fun f => if f = 13 then some (.p K_l14Ok) else T_isEnvelope f
theorem T_l14Ok_ok : TabOk Try.prog T_l14Ok := fun f k h => by
  unfold T_l14Ok at h
  split at h
  · rename_i e; cases h; subst e; exact ⟨l14Ok_ok, l14Ok_fn⟩
  · exact T_isEnvelope_ok f k h
attribute [go_sem] T_l14Ok K_l14Ok

end Go.Proofs.Ytipagbnkkkhlaaa
