/-
  reduceRatio and l15Reduce.
-/
import Derived.Test.YtoclpcdmpeimkaaRedP
import Derived.Deep.RegionHeld3
namespace Go.Proofs.Ytoclpcdmpeimkaa
open Go.RowKit

theorem whole_any (n : Int) (w : World) : Calls Try.prog 39 #[.int .i64 n] w fun e w' => e = .returned (.agg #[.int .i64 n, .int .i64 1]) ∧ Below w.heap.size w w' := by
  have B0 : Below w.heap.size w w := Below.refl _ _
  have HBB := Lib.hid B0
  clear B0
  go_enter Try.func39, Try.ntmps39
  go_wp2
  refine bodyPost_ret (v := .agg #[.int .i64 n, .int .i64 1]) (by simp [results, Try.results39, go_sem]) rfl ⟨rfl, ?_⟩
  repeat (first | exact HBB.out | refine Below.alloc ?_ (by simp <;> omega) _ | refine Below.setCell ?_ (by simp <;> omega) _ | refine below_drewN ?_ _)
theorem l15One_any (w : World) : Calls Try.prog 35 #[] w fun e w' => e = .returned (.agg #[.int .i64 1, .int .i64 1]) ∧ Below w.heap.size w w' := by
  have B0 : Below w.heap.size w w := Below.refl _ _
  have HBB := Lib.hid B0
  clear B0
  go_enter Try.func35, Try.ntmps35
  go_wp2
  refine bodyPost_ret (v := .agg #[.int .i64 1, .int .i64 1]) (by simp [results, Try.results35, go_sem]) rfl ⟨rfl, ?_⟩
  repeat (first | exact HBB.out | refine Below.alloc ?_ (by simp <;> omega) _ | refine Below.setCell ?_ (by simp <;> omega) _ | refine below_drewN ?_ _)

/-- The measure of the fraction in a block. -/
def measW (w : World) (b : Nat) : Nat :=
  match w.cell? ⟨b, 0, none⟩, w.cell? ⟨b, 1, none⟩ with
  | some (.int _ n), some (.int _ e) => measR n e
  | _, _ => 0
theorem measW_box {w : World} {b : Nat} {n e : Int} (h : BoxU w b [.int .i64 n, .int .i64 e]) : measW w b = measR n e := by
  have h0 := h.1.at 0 (v := .int .i64 n) rfl
  have h1 := h.1.at 1 (v := .int .i64 e) rfl
  unfold measW; rw [h0, h1]
theorem ret_fii {k : IntKind} {a b c d : Int} {R : (Int × Int) × Int × Int} (h : R = ((a, b), c, d)) : Ending.returned (.tuple #[.agg #[.int k a, .int k b], .int k c, .int k d]) = .returned (.tuple #[.agg #[.int k R.1.1, .int k R.1.2], .int k R.2.1, .int k R.2.2]) := by rw [h]

set_option maxHeartbeats 2000000 in
theorem implReduce_any (a b c d : Int) (w : World) (hab : frB a b = true) (ha : 0 < a) (hcd : frB c d = true) (h1 : d < c) :
    Calls Try.prog 40 #[.agg #[.int .i64 a, .int .i64 b], .agg #[.int .i64 c, .int .i64 d]] w fun e w' =>
      ∃ R, RedR a b c d R ∧ e = .returned (.tuple #[.agg #[.int .i64 R.1.1, .int .i64 R.1.2], .int .i64 R.2.1, .int .i64 R.2.2]) ∧ Below w.heap.size w w' := by
  have hc := frB_bd hcd
  have hc0 : 0 < c := by omega
  have HCD := Lib.hid hcd
  have B0 : Below w.heap.size w w := Below.refl _ _
  have B3 : Below w.heap.size w (((w.alloc (.cells #[.int .i64 a, .int .i64 b] 24)).alloc (.cells #[.int .i64 c, .int .i64 d] 24)).alloc (.cells #[.int .i64 0, .int .i64 0] 24)) :=
    ((B0.alloc (Nat.le_refl _) _).alloc (by simp) _).alloc (by simp; omega) _
  have X2 : BoxU (((w.alloc (.cells #[.int .i64 a, .int .i64 b] 24)).alloc (.cells #[.int .i64 c, .int .i64 d] 24)).alloc (.cells #[.int .i64 0, .int .i64 0] 24)) w.heap.size [.int .i64 a, .int .i64 b] :=
    ((BoxU.newAt _ _ _ rfl).below ((Below.refl _ _).alloc (Nat.le_refl _) _)).below ((Below.refl _ _).alloc (Nat.le_refl _) _)
  have X3 : BoxU (((w.alloc (.cells #[.int .i64 a, .int .i64 b] 24)).alloc (.cells #[.int .i64 c, .int .i64 d] 24)).alloc (.cells #[.int .i64 0, .int .i64 0] 24)) (w.heap.size + 1) [.int .i64 c, .int .i64 d] :=
    (BoxU.newAt _ _ _ (by simp)).below ((Below.refl _ _).alloc (Nat.le_refl _) _)
  have X4 : BoxU (((w.alloc (.cells #[.int .i64 a, .int .i64 b] 24)).alloc (.cells #[.int .i64 c, .int .i64 d] 24)).alloc (.cells #[.int .i64 0, .int .i64 0] 24)) (w.heap.size + 1 + 1) [.int .i64 0, .int .i64 0] :=
    BoxU.newAt _ _ _ (by simp)
  clear B0
  go_enter Try.func40, Try.ntmps40
  go_wp2
  go_loopw [7, 8] (fun ct cd wr => ∃ n e k : Int, ct = .int .i64 k ∧ BoxU wr w.heap.size [.int .i64 n, .int .i64 e] ∧ BoxU wr (w.heap.size + 1) [.int .i64 c, .int .i64 d] ∧ BoxU wr (w.heap.size + 1 + 1) [.int .i64 0, .int .i64 0] ∧ Below w.heap.size w wr ∧
      ((cd = .int .i64 0 ∧ Hid (frB n e = true ∧ 0 < n) ∧ Hid (∀ R, Red1 c d n e k R → Red1 c d a b 0 R)) ∨ (cd = .int .i64 2 ∧ Hid (Red1 c d a b 0 none)))) (fun _ cd wr => if intOf cd = 0 then measW wr w.heap.size + 1 else 0)
  case atStart => exact ⟨a, b, 0, rfl, X2, X3, X4, B3, .inl ⟨rfl, ⟨hab, ha⟩, fun R h => h⟩⟩
  case round =>
    clear X2 X3 X4 B3
    obtain ⟨n, e, k, rfl, x2, x3, x4, hbel, hcase⟩ := hrel
    rcases hcase with ⟨rfl, hne, hrun⟩ | ⟨rfl, hfail⟩
    · have hb := frB_bd hne.out.1
      have CC := Lib.hid (implCmp_any n e c d wr (by omega) (by omega) (by omega) (by omega))
      have c20 := x2.1.at 0 (v := .int .i64 n) rfl
      have c21 := x2.1.at 1 (v := .int .i64 e) rfl
      have c30 := x3.1.at 0 (v := .int .i64 c) rfl
      have c31 := x3.1.at 1 (v := .int .i64 d) rfl
      by_cases hcmp : cmpF n e c d < 0
      · -- below the octave
        have H1 := Lib.hid (hrun.out _ (.stop hcmp))
        go_wp2_with fail
        refine CC.out.mono ?_; rintro e' w1 ⟨rfl, b1⟩
        have y2 := x2.below b1
        have y3 := x3.below b1
        have y4 := x4.below b1
        have hbel1 := hbel.trans (b1.mono hbel.size)
        clear x2 x3 x4 hbel b1 c20 c21 c30 c31 CC hrun
        go_wp2
        go_loopw [7, 8] (fun ct cd wr => ∃ n' e' k' : Int, ct = .int .i64 k' ∧ BoxU wr w.heap.size [.int .i64 n', .int .i64 e'] ∧ BoxU wr (w.heap.size + 1) [.int .i64 c, .int .i64 d] ∧ BoxU wr (w.heap.size + 1 + 1) [.int .i64 0, .int .i64 0] ∧ Below w.heap.size w wr ∧
            ((cd = .int .i64 0 ∧ Hid (frB n' e' = true ∧ 0 < n') ∧ Hid (∀ R, Red2 c d n' e' k' R → Red2 c d n e k R)) ∨ (cd = .int .i64 2 ∧ Hid (Red2 c d n e k none)))) (fun _ cd wr => if intOf cd = 0 then 1000000000001 - measW wr w.heap.size + 1 else 0)
        case atStart => exact ⟨n, e, k, rfl, y2, y3, y4, hbel1, .inl ⟨rfl, hne.out, fun R h => h⟩⟩
        case round =>
          clear y2 y3 y4 hbel1
          obtain ⟨n', e', k', rfl, y2, y3, y4, hbel, hcase⟩ := hrel
          rcases hcase with ⟨rfl, hne', hrun⟩ | ⟨rfl, hfail⟩
          · have hb' := frB_bd hne'.out.1
            by_cases hc1 : cmpF n' e' 1 1 < 0
            · have hd : decide (cmpF n' e' 1 1 < 0) = true := decide_eq_true hc1
              have HC1 := Lib.hid hc1
              clear hc1
              have l0 : Below wr.heap.size wr wr.drew := (Below.refl _ _).drew
              have K : ∀ w', Below wr.heap.size wr w' → (w'.cell? ⟨w.heap.size, 0, none⟩ = some (.int .i64 n') ∧ w'.cell? ⟨w.heap.size, 1, none⟩ = some (.int .i64 e')) := fun w' b' => ⟨(y2.below b').1.at 0 rfl, (y2.below b').1.at 1 rfl⟩
              have HK := Lib.hid K; clear K
              have t0 := HK.out _ l0; have T0 := Lib.hid t0; clear t0
              go_wp2
              go_region_held3 (fun w' => w'.cell? ⟨w.heap.size, 0, none⟩ = some (.int .i64 n') ∧ w'.cell? ⟨w.heap.size, 1, none⟩ = some (.int .i64 e')) (first | exact T0.out | exact t1 | exact t2) (first | (go_at_call 39; refine (whole_any 1 _).mono ?_; rintro e1 w1 ⟨rfl, b1⟩; have l1 := Below.trans l0 (b1.mono (Below.size l0)); have t1 := HK.out _ l1) | (go_at_call 38; refine (implCmp_any n' e' 1 1 _ (by omega) (by omega) (by omega) (by omega)).mono ?_; rintro e2 w2 ⟨rfl, b2⟩; have l2 := Below.trans l1 (b2.mono (Below.size l1)); have t2 := HK.out _ l2))
              have z2 := y2.below l2; have z3 := y3.below l2; have z4 := y4.below l2
              have hbel2 := hbel.trans (l2.mono hbel.size)
              clear HK T0 t1 t2 l0 l1 l2 b1 b2 y3 y4 hbel
              have CM := Lib.hid (implMul_any n' e' c d w2)
              have hmk := mulF_mk hne'.out.1 HCD.out
              have hmR : (mulF n' e' c d).2 = 0 → frB (mulF n' e' c d).1.1 (mulF n' e' c d).1.2 = true ∧ 0 < (mulF n' e' c d).1.1 ∧ (mulF n' e' c d).1.1 * (e' * d) = (mulF n' e' c d).1.2 * (n' * c) := fun h => by
                rw [hmk] at h ⊢; exact mkF_good (mul_pos' hne'.out.2 hc0) (mul_pos' (by omega) (by omega)) h
              have hmB : (mulF n' e' c d).2 ≠ 0 → (mulF n' e' c d).2 = 2 := fun h => by
                rw [hmk] at h ⊢; rw [mkF_codes (Int.ne_of_gt (mul_pos' (by omega) (by omega))) h]
              have hst : ∀ R, (mulF n' e' c d).2 = 0 → Red2 c d (mulF n' e' c d).1.1 (mulF n' e' c d).1.2 (wrap64 (k' - 1)) R → Red2 c d n e k R := fun R h h2 => hrun.out _ (.step HC1.out h h2)
              have hfl : (mulF n' e' c d).2 ≠ 0 → Red2 c d n e k none := fun h => hrun.out _ (.fail HC1.out h)
              have hlow : n' < e' := by
                have := HC1.out; unfold cmpF at this; split at this
                · omega
                · split at this <;> omega
              have HM1 := Lib.hid hmR
              have HM2 := Lib.hid hmB
              have HM3 := Lib.hid hst
              have HM4 := Lib.hid hfl
              clear hmk hmR hmB hst hfl hrun hd
              generalize mulF n' e' c d = R at *
              obtain ⟨⟨r1, r2⟩, r3⟩ := R
              simp only at CM HM1 HM2 HM3 HM4
              have c20 := z2.1.at 0 (v := .int .i64 n') rfl
              have c21 := z2.1.at 1 (v := .int .i64 e') rfl
              have c30 := z3.1.at 0 (v := .int .i64 c) rfl
              have c31 := z3.1.at 1 (v := .int .i64 d) rfl
              go_wp2_with fail
              refine CM.out.mono ?_; rintro e3 w3 ⟨rfl, b3⟩
              have x2 := z2.below b3; have x3 := z3.below b3; have x4 := z4.below b3
              have hbel3 := hbel2.trans (b3.mono hbel2.size)
              clear z2 z3 z4 hbel2 b3 c20 c21 c30 c31 CM
              have c20 := x2.1.at 0 (v := .int .i64 n') rfl
              have c21 := x2.1.at 1 (v := .int .i64 e') rfl
              have f20 := x2.2 0
              have f21 := x2.2 1
              go_wp2
              go_roundw
              case rel =>
                refine ⟨r1, r2, _, rfl, (x2.set 0 _ (by simp)).set 1 _ (by simp), (x3.other _ (by omega)).other _ (by omega), (x4.other _ (by omega)).other _ (by omega), (hbel3.setCell (p := ⟨w.heap.size, 0, none⟩) (Nat.le_refl _) _).setCell (p := ⟨w.heap.size, 1, none⟩) (Nat.le_refl _) _, ?_⟩
                by_cases h3 : r3 = 0
                · subst h3
                  exact .inl ⟨rfl, ⟨(HM1.out rfl).1, (HM1.out rfl).2.1⟩, fun R h => HM3.out R rfl h⟩
                · exact .inr ⟨by rw [HM2.out h3], HM4.out h3⟩
              case measure =>
                rw [measW_box y2]
                have hlo := measR_low (by omega) hne'.out.2 hlow
                by_cases h3 : r3 = 0
                · subst h3
                  obtain ⟨g1, g2, g3⟩ := HM1.out rfl
                  have g4 := frB_bd g1
                  have hup := step_up hne'.out.2 (by omega) (by omega) h1 g3
                  have := measR_lt (n := r1) (e := r2) (x := n') (y := e') (by omega) hne'.out.2 (by omega) hup
                  rw [measW_box ((x2.set 0 (.int .i64 r1) (by simp)).set 1 (.int .i64 r2) (by simp))]
                  simp [intOf]
                  omega
                · simp [intOf, h3]
            · have hd : decide (cmpF n' e' 1 1 < 0) = false := decide_eq_false hc1
              have HR : Hid (RedR a b c d ((n', e'), k', 0)) := .inr ⟨n, e, k, H1.out, .inr ⟨n', e', k', hrun.out _ (.stop hc1), rfl⟩⟩
              clear hc1 hrun
              have l0 : Below wr.heap.size wr wr.drew := (Below.refl _ _).drew
              have K : ∀ w', Below wr.heap.size wr w' → (w'.cell? ⟨w.heap.size, 0, none⟩ = some (.int .i64 n') ∧ w'.cell? ⟨w.heap.size, 1, none⟩ = some (.int .i64 e')) := fun w' b' => ⟨(y2.below b').1.at 0 rfl, (y2.below b').1.at 1 rfl⟩
              have HK := Lib.hid K; clear K
              have t0 := HK.out _ l0; have T0 := Lib.hid t0; clear t0
              go_wp2
              go_region_held3 (fun w' => w'.cell? ⟨w.heap.size, 0, none⟩ = some (.int .i64 n') ∧ w'.cell? ⟨w.heap.size, 1, none⟩ = some (.int .i64 e')) (first | exact T0.out | exact t1 | exact t2) (first | (go_at_call 39; refine (whole_any 1 _).mono ?_; rintro e1 w1 ⟨rfl, b1⟩; have l1 := Below.trans l0 (b1.mono (Below.size l0)); have t1 := HK.out _ l1) | (go_at_call 38; refine (implCmp_any n' e' 1 1 _ (by omega) (by omega) (by omega) (by omega)).mono ?_; rintro e2 w2 ⟨rfl, b2⟩; have l2 := Below.trans l1 (b2.mono (Below.size l1)); have t2 := HK.out _ l2))
              have z2 := y2.below l2; have z3 := y3.below l2; have z4 := y4.below l2
              have hbel2 := hbel.trans (l2.mono hbel.size)
              clear HK T0 t1 t2 l0 l1 l2 b1 b2 y3 y4 hbel
              have c20 := z2.1.at 0 (v := .int .i64 n') rfl
              have c21 := z2.1.at 1 (v := .int .i64 e') rfl
              have c40 := z4.1.at 0 (v := .int .i64 0) rfl
              have c41 := z4.1.at 1 (v := .int .i64 0) rfl
              have f40 := z4.2 0
              have f41 := z4.2 1
              have HBB := Lib.hid hbel2
              have hsz := hbel2.size
              clear hbel2 hd
              go_wp2
              refine bodyPost_ret (v := .tuple #[.agg #[.int .i64 n', .int .i64 e'], .int .i64 k', .int .i64 0]) (by simp [results, Try.results40, go_sem, *]) rfl ⟨_, HR.out, rfl, ?_⟩
              repeat (first | exact HBB.out | refine Below.setCell ?_ (by simp <;> omega) _)
          · have HR : Hid (RedR a b c d ((0, 0), 0, 2)) := .inr ⟨n, e, k, H1.out, .inl ⟨hfail.out, rfl⟩⟩
            have c40 := y4.1.at 0 (v := .int .i64 0) rfl
            have c41 := y4.1.at 1 (v := .int .i64 0) rfl
            have f40 := y4.2 0
            have f41 := y4.2 1
            have HBB := Lib.hid hbel
            have hsz := hbel.size
            clear hbel
            go_wp2
            go_quiet (fail)
            go_wp2
            refine bodyPost_ret (v := .tuple #[.agg #[.int .i64 0, .int .i64 0], .int .i64 0, .int .i64 2]) (by simp [results, Try.results40, go_sem, *]) rfl ⟨_, HR.out, rfl, ?_⟩
            repeat (first | exact HBB.out | refine Below.setCell ?_ (by simp <;> omega) _ | refine below_drewN ?_ _)
      · -- not below it
        have HC1 := Lib.hid hcmp
        clear HC1
        have hmk := divF_mk hne.out.1 HCD.out hc0
        have hmR : (divF n e c d).2 = 0 → frB (divF n e c d).1.1 (divF n e c d).1.2 = true ∧ 0 < (divF n e c d).1.1 ∧ (divF n e c d).1.1 * (e * c) = (divF n e c d).1.2 * (n * d) := fun h => by
          rw [hmk] at h ⊢; exact mkF_good (mul_pos' hne.out.2 (by omega)) (mul_pos' (by omega) (by omega)) h
        have hmB : (divF n e c d).2 ≠ 0 → (divF n e c d).2 = 2 := fun h => by
          rw [hmk] at h ⊢; rw [mkF_codes (Int.ne_of_gt (mul_pos' (by omega) (by omega))) h]
        have hst : ∀ R, (divF n e c d).2 = 0 → Red1 c d (divF n e c d).1.1 (divF n e c d).1.2 (wrap64 (k + 1)) R → Red1 c d a b 0 R := fun R h h2 => hrun.out _ (.step hcmp h h2)
        have hfl : (divF n e c d).2 ≠ 0 → Red1 c d a b 0 none := fun h => hrun.out _ (.fail hcmp h)
        have HM1 := Lib.hid hmR
        have HM2 := Lib.hid hmB
        have HM3 := Lib.hid hst
        have HM4 := Lib.hid hfl
        have CD : Hid (∀ w, Calls Try.prog 67 #[.agg #[.int .i64 n, .int .i64 e], .agg #[.int .i64 c, .int .i64 d]] w fun e' w' => e' = .returned (.tuple #[.agg #[.int .i64 (divF n e c d).1.1, .int .i64 (divF n e c d).1.2], .int .i64 (divF n e c d).2]) ∧ Below w.heap.size w w') := fun w => implDiv_any n e c d w
        clear hmk hmR hmB hst hfl hrun
        generalize divF n e c d = R at *
        obtain ⟨⟨r1, r2⟩, r3⟩ := R
        simp only at CD HM1 HM2 HM3 HM4
        go_wp2_with fail
        refine CC.out.mono ?_; rintro e1 w1 ⟨rfl, b1⟩
        have y2 := x2.below b1; have y3 := x3.below b1; have y4 := x4.below b1
        have hbel1 := hbel.trans (b1.mono hbel.size)
        clear x3 x4 hbel b1 c20 c21 c30 c31 CC
        have c20 := y2.1.at 0 (v := .int .i64 n) rfl
        have c21 := y2.1.at 1 (v := .int .i64 e) rfl
        have c30 := y3.1.at 0 (v := .int .i64 c) rfl
        have c31 := y3.1.at 1 (v := .int .i64 d) rfl
        go_wp2_with fail
        refine (CD.out _).mono ?_; rintro e3 w3 ⟨rfl, b3⟩
        have z2 := y2.below b3; have z3 := y3.below b3; have z4 := y4.below b3
        have hbel3 := hbel1.trans (b3.mono hbel1.size)
        clear y2 y3 y4 hbel1 b3 c20 c21 c30 c31 CD
        have c20 := z2.1.at 0 (v := .int .i64 n) rfl
        have c21 := z2.1.at 1 (v := .int .i64 e) rfl
        have f20 := z2.2 0
        have f21 := z2.2 1
        go_wp2
        go_roundw
        case rel =>
          refine ⟨r1, r2, _, rfl, (z2.set 0 _ (by simp)).set 1 _ (by simp), (z3.other _ (by omega)).other _ (by omega), (z4.other _ (by omega)).other _ (by omega), (hbel3.setCell (p := ⟨w.heap.size, 0, none⟩) (Nat.le_refl _) _).setCell (p := ⟨w.heap.size, 1, none⟩) (Nat.le_refl _) _, ?_⟩
          by_cases h3 : r3 = 0
          · subst h3
            exact .inl ⟨rfl, ⟨(HM1.out rfl).1, (HM1.out rfl).2.1⟩, fun R h => HM3.out R rfl h⟩
          · exact .inr ⟨by rw [HM2.out h3], HM4.out h3⟩
        case measure =>
          rw [measW_box x2]
          by_cases h3 : r3 = 0
          · subst h3
            obtain ⟨g1, g2, g3⟩ := HM1.out rfl
            have g4 := frB_bd g1
            have hdn := step_down hne.out.2 (by omega) hc0 h1 g3
            have := measR_lt (n := n) (e := e) (x := r1) (y := r2) (by omega) g2 (by omega) hdn
            rw [measW_box ((z2.set 0 (.int .i64 r1) (by simp)).set 1 (.int .i64 r2) (by simp))]
            simp [intOf]
            omega
          · simp [intOf, h3]
    · -- no fraction
      have HR : Hid (RedR a b c d ((0, 0), 0, 2)) := .inl ⟨hfail.out, rfl⟩
      go_wp2
      go_loopw [7, 8] (fun ct cd wr' => ct = .int .i64 k ∧ cd = .int .i64 2 ∧ wr' = wr) (fun _ _ _ => 0)
      case atStart => exact ⟨rfl, rfl, rfl⟩
      case round =>
        obtain ⟨rfl, rfl, rfl⟩ := hrel
        have c40 := x4.1.at 0 (v := .int .i64 0) rfl
        have c41 := x4.1.at 1 (v := .int .i64 0) rfl
        have f40 := x4.2 0
        have f41 := x4.2 1
        have HBB := Lib.hid hbel
        have hsz := hbel.size
        clear hbel
        go_wp2
        go_quiet (fail)
        go_wp2
        refine bodyPost_ret (v := .tuple #[.agg #[.int .i64 0, .int .i64 0], .int .i64 0, .int .i64 2]) (by simp [results, Try.results40, go_sem, *]) rfl ⟨_, HR.out, rfl, ?_⟩
        repeat (first | exact HBB.out | refine Below.setCell ?_ (by simp <;> omega) _ | refine below_drewN ?_ _)

set_option maxHeartbeats 2000000 in
theorem specReduce_any (a b c d : Int) (w : World) (hab : frB a b = true) (ha : 0 < a) (hcd : frB c d = true) (h1 : d < c) :
    Calls Try.prog 36 #[.agg #[.int .i64 a, .int .i64 b], .agg #[.int .i64 c, .int .i64 d]] w fun e w' =>
      ∃ R, RedR a b c d R ∧ e = .returned (.tuple #[.agg #[.int .i64 R.1.1, .int .i64 R.1.2], .int .i64 R.2.1, .int .i64 R.2.2]) ∧ Below w.heap.size w w' := by
  have hc := frB_bd hcd
  have hc0 : 0 < c := by omega
  have HCD := Lib.hid hcd
  have B0 : Below w.heap.size w w := Below.refl _ _
  have B3 : Below w.heap.size w (((w.alloc (.cells #[.int .i64 a, .int .i64 b] 24)).alloc (.cells #[.int .i64 c, .int .i64 d] 24)).alloc (.cells #[.int .i64 0, .int .i64 0] 24)) :=
    ((B0.alloc (Nat.le_refl _) _).alloc (by simp) _).alloc (by simp; omega) _
  have X2 : BoxU (((w.alloc (.cells #[.int .i64 a, .int .i64 b] 24)).alloc (.cells #[.int .i64 c, .int .i64 d] 24)).alloc (.cells #[.int .i64 0, .int .i64 0] 24)) w.heap.size [.int .i64 a, .int .i64 b] :=
    ((BoxU.newAt _ _ _ rfl).below ((Below.refl _ _).alloc (Nat.le_refl _) _)).below ((Below.refl _ _).alloc (Nat.le_refl _) _)
  have X3 : BoxU (((w.alloc (.cells #[.int .i64 a, .int .i64 b] 24)).alloc (.cells #[.int .i64 c, .int .i64 d] 24)).alloc (.cells #[.int .i64 0, .int .i64 0] 24)) (w.heap.size + 1) [.int .i64 c, .int .i64 d] :=
    (BoxU.newAt _ _ _ (by simp)).below ((Below.refl _ _).alloc (Nat.le_refl _) _)
  have X4 : BoxU (((w.alloc (.cells #[.int .i64 a, .int .i64 b] 24)).alloc (.cells #[.int .i64 c, .int .i64 d] 24)).alloc (.cells #[.int .i64 0, .int .i64 0] 24)) (w.heap.size + 1 + 1) [.int .i64 0, .int .i64 0] :=
    BoxU.newAt _ _ _ (by simp)
  clear B0
  go_enter Try.func36, Try.ntmps36
  go_wp2
  go_loopw [7] (fun ct wr => ∃ n e k : Int, ct = .int .i64 k ∧ BoxU wr w.heap.size [.int .i64 n, .int .i64 e] ∧ BoxU wr (w.heap.size + 1) [.int .i64 c, .int .i64 d] ∧ BoxU wr (w.heap.size + 1 + 1) [.int .i64 0, .int .i64 0] ∧ Below w.heap.size w wr ∧
      Hid (frB n e = true ∧ 0 < n) ∧ Hid (∀ R, Red1 c d n e k R → Red1 c d a b 0 R)) (fun _ wr => measW wr w.heap.size)
  case atStart => exact ⟨a, b, 0, rfl, X2, X3, X4, B3, ⟨hab, ha⟩, fun R h => h⟩
  case round =>
    clear X2 X3 X4 B3
    obtain ⟨n, e, k, rfl, x2, x3, x4, hbel, hne, hrun⟩ := hrel
    have hb := frB_bd hne.out.1
    have CC := Lib.hid (specCmp_any n e c d wr (by omega) (by omega) (by omega) (by omega))
    have c20 := x2.1.at 0 (v := .int .i64 n) rfl
    have c21 := x2.1.at 1 (v := .int .i64 e) rfl
    have c30 := x3.1.at 0 (v := .int .i64 c) rfl
    have c31 := x3.1.at 1 (v := .int .i64 d) rfl
    by_cases hcmp : cmpF n e c d < 0
    · -- below the octave
      have H1 := Lib.hid (hrun.out _ (.stop hcmp))
      go_wp2_with fail
      refine CC.out.mono ?_; rintro e' w1 ⟨rfl, b1⟩
      have y2 := x2.below b1; have y3 := x3.below b1; have y4 := x4.below b1
      have hbel1 := hbel.trans (b1.mono hbel.size)
      clear x2 x3 x4 hbel b1 c20 c21 c30 c31 CC hrun
      go_wp2
      go_loopw [7] (fun ct wr => ∃ n' e' k' : Int, ct = .int .i64 k' ∧ BoxU wr w.heap.size [.int .i64 n', .int .i64 e'] ∧ BoxU wr (w.heap.size + 1) [.int .i64 c, .int .i64 d] ∧ BoxU wr (w.heap.size + 1 + 1) [.int .i64 0, .int .i64 0] ∧ Below w.heap.size w wr ∧
          Hid (frB n' e' = true ∧ 0 < n') ∧ Hid (∀ R, Red2 c d n' e' k' R → Red2 c d n e k R)) (fun _ wr => 1000000000001 - measW wr w.heap.size)
      case atStart => exact ⟨n, e, k, rfl, y2, y3, y4, hbel1, hne.out, fun R h => h⟩
      case round =>
        clear y2 y3 y4 hbel1 hcmp hne hb
        obtain ⟨n', e', k', rfl, y2, y3, y4, hbel, hne', HRUN⟩ := hrel
        have hb' := frB_bd hne'.out.1
        by_cases hc1 : cmpF n' e' 1 1 < 0
        · have hd : decide (cmpF n' e' 1 1 < 0) = true := decide_eq_true hc1
          have HC1 := Lib.hid hc1
          clear hc1
          have l0 : Below wr.heap.size wr wr.drew := (Below.refl _ _).drew
          have K : ∀ w', Below wr.heap.size wr w' → (w'.cell? ⟨w.heap.size, 0, none⟩ = some (.int .i64 n') ∧ w'.cell? ⟨w.heap.size, 1, none⟩ = some (.int .i64 e')) := fun w' b' => ⟨(y2.below b').1.at 0 rfl, (y2.below b').1.at 1 rfl⟩
          have HK := Lib.hid K; clear K
          have t0 := HK.out _ l0; have T0 := Lib.hid t0; clear t0
          go_wp2
          go_region_held3 (fun w' => w'.cell? ⟨w.heap.size, 0, none⟩ = some (.int .i64 n') ∧ w'.cell? ⟨w.heap.size, 1, none⟩ = some (.int .i64 e')) (first | exact T0.out | exact t1 | exact t2) (first | (go_at_call 35; refine (l15One_any _).mono ?_; rintro e1 w1 ⟨rfl, b1⟩; have l1 := Below.trans l0 (b1.mono (Below.size l0)); have t1 := HK.out _ l1) | (go_at_call 34; refine (specCmp_any n' e' 1 1 _ (by omega) (by omega) (by omega) (by omega)).mono ?_; rintro e2 w2 ⟨rfl, b2⟩; have l2 := Below.trans l1 (b2.mono (Below.size l1)); have t2 := HK.out _ l2))
          have z2 := y2.below l2; have z3 := y3.below l2; have z4 := y4.below l2
          have hbel2 := hbel.trans (l2.mono hbel.size)
          clear HK T0 t1 t2 l0 l1 l2 b1 b2 y3 y4 hbel
          have CM := Lib.hid (specMul_any n' e' c d w2)
          have hmk := mulF_mk hne'.out.1 HCD.out
          have hmR : (mulF n' e' c d).2 = 0 → frB (mulF n' e' c d).1.1 (mulF n' e' c d).1.2 = true ∧ 0 < (mulF n' e' c d).1.1 ∧ (mulF n' e' c d).1.1 * (e' * d) = (mulF n' e' c d).1.2 * (n' * c) := fun h => by
            rw [hmk] at h ⊢; exact mkF_good (mul_pos' hne'.out.2 hc0) (mul_pos' (by omega) (by omega)) h
          have hmB : (mulF n' e' c d).2 ≠ 0 → (mulF n' e' c d).2 = 2 := fun h => by
            rw [hmk] at h ⊢; rw [mkF_codes (Int.ne_of_gt (mul_pos' (by omega) (by omega))) h]
          have hst : ∀ R, (mulF n' e' c d).2 = 0 → Red2 c d (mulF n' e' c d).1.1 (mulF n' e' c d).1.2 (wrap64 (k' - 1)) R → Red2 c d n e k R := fun R h h2 => HRUN.out _ (.step HC1.out h h2)
          have hfl : (mulF n' e' c d).2 ≠ 0 → Red2 c d n e k none := fun h => HRUN.out _ (.fail HC1.out h)
          have hlow : n' < e' := by
            have := HC1.out; unfold cmpF at this; split at this
            · omega
            · split at this <;> omega
          have HM1 := Lib.hid hmR
          have HM2 := Lib.hid hmB
          have HM3 := Lib.hid hst
          have HM4 := Lib.hid hfl
          clear hmk hmR hmB hst hfl hd
          generalize mulF n' e' c d = R at *
          obtain ⟨⟨r1, r2⟩, r3⟩ := R
          simp only at CM HM1 HM2 HM3 HM4
          have c20 := z2.1.at 0 (v := .int .i64 n') rfl
          have c21 := z2.1.at 1 (v := .int .i64 e') rfl
          have c30 := z3.1.at 0 (v := .int .i64 c) rfl
          have c31 := z3.1.at 1 (v := .int .i64 d) rfl
          go_wp2_with fail
          refine CM.out.mono ?_; rintro e3 w3 ⟨rfl, b3⟩
          have x2 := z2.below b3; have x3 := z3.below b3; have x4 := z4.below b3
          have hbel3 := hbel2.trans (b3.mono hbel2.size)
          clear z2 z3 z4 hbel2 b3 c20 c21 c30 c31 CM
          have z2 := x2; have z3 := x3; have z4 := x4
          clear x2 x3 x4
          by_cases h3 : r3 = 0
          · subst h3
            have c20 := z2.1.at 0 (v := .int .i64 n') rfl
            have c21 := z2.1.at 1 (v := .int .i64 e') rfl
            have f20 := z2.2 0
            have f21 := z2.2 1
            have hlt2 : w.heap.size < w3.heap.size := z2.1.1
            have hlt3 : w.heap.size + 1 < w3.heap.size := z3.1.1
            have hlt4 : w.heap.size + 1 + 1 < w3.heap.size := z4.1.1
            have hn2 : ¬ w3.heap.size = w.heap.size := by omega
            have hn2' : ¬ w.heap.size = w3.heap.size := by omega
            go_wp2
            go_roundw
            case rel =>
              refine ⟨r1, r2, _, rfl, ((z2.set 0 _ (by simp)).set 1 _ (by simp)).below ((Below.refl _ _).alloc (Nat.le_refl _) _), ((z3.other _ (by omega)).other _ (by omega)).below ((Below.refl _ _).alloc (Nat.le_refl _) _), ((z4.other _ (by omega)).other _ (by omega)).below ((Below.refl _ _).alloc (Nat.le_refl _) _), ?_, ⟨(HM1.out (by first | rfl | trivial)).1, (HM1.out (by first | rfl | trivial)).2.1⟩, fun R h => HM3.out R (by first | rfl | trivial) h⟩
              have hsz := hbel3.size
              have HBB := Lib.hid hbel3
              repeat (first | exact HBB.out | refine Below.alloc ?_ (by simp <;> omega) _ | refine Below.setCell ?_ (by simp <;> omega) _)
            case measure =>
              rw [measW_box y2]
              have hlo := measR_low (by omega) hne'.out.2 hlow
              obtain ⟨g1, g2, g3⟩ := HM1.out (by first | rfl | trivial)
              have g4 := frB_bd g1
              have hup := step_up hne'.out.2 (by omega) (by omega) h1 g3
              have := measR_lt (n := r1) (e := r2) (x := n') (y := e') (by omega) hne'.out.2 (by omega) hup
              rw [measW_box (((z2.set 0 (.int .i64 r1) (by simp)).set 1 (.int .i64 r2) (by simp)).below ((Below.refl _ _).alloc (Nat.le_refl _) _))]
              omega
          · have HR : Hid (RedR a b c d ((0, 0), 0, 2)) := .inr ⟨n, e, k, H1.out, .inl ⟨HM4.out h3, rfl⟩⟩
            have c40 := z4.1.at 0 (v := .int .i64 0) rfl
            have c41 := z4.1.at 1 (v := .int .i64 0) rfl
            have f40 := z4.2 0
            have f41 := z4.2 1
            have HBB := Lib.hid hbel3
            have hsz := hbel3.size
            have hlt4 : w.heap.size + 1 + 1 < w3.heap.size := z4.1.1
            have hn4 : ¬ w3.heap.size = w.heap.size + 1 + 1 := by omega
            have hn4' : ¬ w.heap.size + 1 + 1 = w3.heap.size := by omega
            clear hbel3
            go_wp2
            refine bodyPost_ret (v := .tuple #[.agg #[.int .i64 0, .int .i64 0], .int .i64 0, .int .i64 2]) (by simp [results, Try.results36, go_sem, *]) rfl ⟨_, HR.out, rfl, ?_⟩
            repeat (first | exact HBB.out | refine Below.alloc ?_ (by simp <;> omega) _ | refine Below.setCell ?_ (by simp <;> omega) _ | refine below_drewN ?_ _)
        · have hd : decide (cmpF n' e' 1 1 < 0) = false := decide_eq_false hc1
          have HR : Hid (RedR a b c d ((n', e'), k', 0)) := .inr ⟨n, e, k, H1.out, .inr ⟨n', e', k', HRUN.out _ (.stop hc1), rfl⟩⟩
          clear hc1
          have l0 : Below wr.heap.size wr wr.drew := (Below.refl _ _).drew
          have K : ∀ w', Below wr.heap.size wr w' → (w'.cell? ⟨w.heap.size, 0, none⟩ = some (.int .i64 n') ∧ w'.cell? ⟨w.heap.size, 1, none⟩ = some (.int .i64 e')) := fun w' b' => ⟨(y2.below b').1.at 0 rfl, (y2.below b').1.at 1 rfl⟩
          have HK := Lib.hid K; clear K
          have t0 := HK.out _ l0; have T0 := Lib.hid t0; clear t0
          go_wp2
          go_region_held3 (fun w' => w'.cell? ⟨w.heap.size, 0, none⟩ = some (.int .i64 n') ∧ w'.cell? ⟨w.heap.size, 1, none⟩ = some (.int .i64 e')) (first | exact T0.out | exact t1 | exact t2) (first | (go_at_call 35; refine (l15One_any _).mono ?_; rintro e1 w1 ⟨rfl, b1⟩; have l1 := Below.trans l0 (b1.mono (Below.size l0)); have t1 := HK.out _ l1) | (go_at_call 34; refine (specCmp_any n' e' 1 1 _ (by omega) (by omega) (by omega) (by omega)).mono ?_; rintro e2 w2 ⟨rfl, b2⟩; have l2 := Below.trans l1 (b2.mono (Below.size l1)); have t2 := HK.out _ l2))
          have z2 := y2.below l2; have z3 := y3.below l2; have z4 := y4.below l2
          have hbel2 := hbel.trans (l2.mono hbel.size)
          clear HK T0 t1 t2 l0 l1 l2 b1 b2 y3 y4 hbel
          have c20 := z2.1.at 0 (v := .int .i64 n') rfl
          have c21 := z2.1.at 1 (v := .int .i64 e') rfl
          have c40 := z4.1.at 0 (v := .int .i64 0) rfl
          have c41 := z4.1.at 1 (v := .int .i64 0) rfl
          have f40 := z4.2 0
          have f41 := z4.2 1
          have HBB := Lib.hid hbel2
          have hsz := hbel2.size
          clear hbel2 hd
          go_wp2
          refine bodyPost_ret (v := .tuple #[.agg #[.int .i64 n', .int .i64 e'], .int .i64 k', .int .i64 0]) (by simp [results, Try.results36, go_sem, *]) rfl ⟨_, HR.out, rfl, ?_⟩
          repeat (first | exact HBB.out | refine Below.setCell ?_ (by simp <;> omega) _)
    · -- not below it
      have hmk := divF_mk hne.out.1 HCD.out hc0
      have hmR : (divF n e c d).2 = 0 → frB (divF n e c d).1.1 (divF n e c d).1.2 = true ∧ 0 < (divF n e c d).1.1 ∧ (divF n e c d).1.1 * (e * c) = (divF n e c d).1.2 * (n * d) := fun h => by
        rw [hmk] at h ⊢; exact mkF_good (mul_pos' hne.out.2 (by omega)) (mul_pos' (by omega) (by omega)) h
      have hst : ∀ R, (divF n e c d).2 = 0 → Red1 c d (divF n e c d).1.1 (divF n e c d).1.2 (wrap64 (k + 1)) R → Red1 c d a b 0 R := fun R h h2 => hrun.out _ (.step hcmp h h2)
      have hfl : (divF n e c d).2 ≠ 0 → Red1 c d a b 0 none := fun h => hrun.out _ (.fail hcmp h)
      have HM1 := Lib.hid hmR
      have HM3 := Lib.hid hst
      have HM4 := Lib.hid hfl
      have CD : Hid (∀ w, Calls Try.prog 66 #[.agg #[.int .i64 n, .int .i64 e], .agg #[.int .i64 c, .int .i64 d]] w fun e' w' => e' = .returned (.tuple #[.agg #[.int .i64 (divF n e c d).1.1, .int .i64 (divF n e c d).1.2], .int .i64 (divF n e c d).2]) ∧ Below w.heap.size w w') := fun w => specDiv_any n e c d w
      clear hmk hmR hst hfl hrun
      generalize divF n e c d = R at *
      obtain ⟨⟨r1, r2⟩, r3⟩ := R
      simp only at CD HM1 HM3 HM4
      go_wp2_with fail
      refine CC.out.mono ?_; rintro e1 w1 ⟨rfl, b1⟩
      have y2 := x2.below b1; have y3 := x3.below b1; have y4 := x4.below b1
      have hbel1 := hbel.trans (b1.mono hbel.size)
      clear x3 x4 hbel b1 c20 c21 c30 c31 CC
      have c20 := y2.1.at 0 (v := .int .i64 n) rfl
      have c21 := y2.1.at 1 (v := .int .i64 e) rfl
      have c30 := y3.1.at 0 (v := .int .i64 c) rfl
      have c31 := y3.1.at 1 (v := .int .i64 d) rfl
      go_wp2_with fail
      refine (CD.out _).mono ?_; rintro e3 w3 ⟨rfl, b3⟩
      have z2 := y2.below b3; have z3 := y3.below b3; have z4 := y4.below b3
      have hbel3 := hbel1.trans (b3.mono hbel1.size)
      clear y2 y3 y4 hbel1 b3 c20 c21 c30 c31 CD
      by_cases h3 : r3 = 0
      · subst h3
        have c20 := z2.1.at 0 (v := .int .i64 n) rfl
        have c21 := z2.1.at 1 (v := .int .i64 e) rfl
        have f20 := z2.2 0
        have f21 := z2.2 1
        have hlt2 : w.heap.size < w3.heap.size := z2.1.1
        have hlt3 : w.heap.size + 1 < w3.heap.size := z3.1.1
        have hlt4 : w.heap.size + 1 + 1 < w3.heap.size := z4.1.1
        have hn2 : ¬ w3.heap.size = w.heap.size := by omega
        have hn2' : ¬ w.heap.size = w3.heap.size := by omega
        go_wp2
        go_roundw
        case rel =>
          refine ⟨r1, r2, _, rfl, ((z2.set 0 _ (by simp)).set 1 _ (by simp)).below ((Below.refl _ _).alloc (Nat.le_refl _) _), ((z3.other _ (by omega)).other _ (by omega)).below ((Below.refl _ _).alloc (Nat.le_refl _) _), ((z4.other _ (by omega)).other _ (by omega)).below ((Below.refl _ _).alloc (Nat.le_refl _) _), ?_, ⟨(HM1.out (by first | rfl | trivial)).1, (HM1.out (by first | rfl | trivial)).2.1⟩, fun R h => HM3.out R (by first | rfl | trivial) h⟩
          have hsz := hbel3.size
          have HBB := Lib.hid hbel3
          repeat (first | exact HBB.out | refine Below.alloc ?_ (by simp <;> omega) _ | refine Below.setCell ?_ (by simp <;> omega) _)
        case measure =>
          rw [measW_box x2]
          obtain ⟨g1, g2, g3⟩ := HM1.out (by first | rfl | trivial)
          have g4 := frB_bd g1
          have hdn := step_down hne.out.2 (by omega) hc0 h1 g3
          have := measR_lt (n := n) (e := e) (x := r1) (y := r2) (by omega) g2 (by omega) hdn
          rw [measW_box (((z2.set 0 (.int .i64 r1) (by simp)).set 1 (.int .i64 r2) (by simp)).below ((Below.refl _ _).alloc (Nat.le_refl _) _))]
          omega
      · have HR : Hid (RedR a b c d ((0, 0), 0, 2)) := .inl ⟨HM4.out h3, rfl⟩
        have c40 := z4.1.at 0 (v := .int .i64 0) rfl
        have c41 := z4.1.at 1 (v := .int .i64 0) rfl
        have f40 := z4.2 0
        have f41 := z4.2 1
        have HBB := Lib.hid hbel3
        have hsz := hbel3.size
        have hlt4 : w.heap.size + 1 + 1 < w3.heap.size := z4.1.1
        have hn4 : ¬ w3.heap.size = w.heap.size + 1 + 1 := by omega
        have hn4' : ¬ w.heap.size + 1 + 1 = w3.heap.size := by omega
        clear hbel3
        go_wp2
        refine bodyPost_ret (v := .tuple #[.agg #[.int .i64 0, .int .i64 0], .int .i64 0, .int .i64 2]) (by simp [results, Try.results36, go_sem, *]) rfl ⟨_, HR.out, rfl, ?_⟩
        repeat (first | exact HBB.out | refine Below.alloc ?_ (by simp <;> omega) _ | refine Below.setCell ?_ (by simp <;> omega) _ | refine below_drewN ?_ _)

end Go.Proofs.Ytoclpcdmpeimkaa
